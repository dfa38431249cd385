import PyProof.Rows.All
import Wide.All
import OpenK.AllK
import Wide.FinOn
import HandS.ForMost
import HandS.Wide
import HandS.WideBits
import HandS.Zip
import HandS.TupAny
import HandS.TupMul
import HandS.Flow
import HandS.Style
import HandS.FStr
import HandS.IsInst
import HandS.StrMore
import HandS.Defaults
import KE.GoesEnum
import HandS.EndBits
import HandS.Codes
import HandS.HeadEnd
import PyProof.FactsAll.str_3
import PyProof.FactsAll.str_4
import PyProof.FactsAll.str_6
import PyProof.FactsAll.str_7
import HandS.Text
import PyProof.ReprLen
import HandS.Head0
import HandS.Head1
import HandS.Head2
import HandS.HeadHook1
import HandS.HeadHook2
import PySem.Challenge.RW_gentlerounds_k45_journals_there_and_back
set_option Elab.async false
set_option linter.all false
set_option maxRecDepth 100000
set_option maxHeartbeats 0
set_option autoImplicit false
namespace Mx
open PySem PySem.Spec PyProof.Rows L2

inductive D where
  | non | bl (b : Bool) | int (i : Int) | str (s : Str) | tup (ds : List D) | fl (ds : List D) | ref (a : Addr)
def FzL (K : PySem.W.Frag) (H : Hp) (a : Addr) (xs : List V) : Prop := (∃ o, H a = some (.frz o (.lst xs))) ∨
    ∃ (o : Obj) (its : Array Value) (n : Nat), K.lookup a = some o ∧ o.cls = .type "list" ∧ o.dict = none ∧ o.data = .seq its n ∧ its.size ≤ sizeLine ∧ Vals xs its.toList
theorem FzL.sq {K : PySem.W.Frag} {H : Hp} {a : Addr} {xs : List V} (h : FzL K H a xs) : SqL K H a xs := h.elim (fun ⟨o, q⟩ => .inl (.inr ⟨o, q⟩)) .inr

mutual
def IsD (K : PySem.W.Frag) (H : Hp) : D → V → Prop
  | .non, v => v = .non
  | .bl b, v => v = .bl b
  | .int i, v => v = .int i
  | .str s, v => v = .str s
  | .ref a, v => v = .ref a
  | .tup ds, v => ∃ a xs, v = .ref a ∧ SqT K H a xs ∧ IsDs K H ds xs
  | .fl ds, v => ∃ a xs, v = .ref a ∧ FzL K H a xs ∧ IsDs K H ds xs
def IsDs (K : PySem.W.Frag) (H : Hp) : List D → List V → Prop
  | [], xs => xs = []
  | d :: ds, xs => ∃ x ys, xs = x :: ys ∧ IsD K H d x ∧ IsDs K H ds ys
end

structure Keep (K : PySem.W.Frag) (H H' : Hp) : Prop where
  tup : ∀ a xs, SqT K H a xs → SqT K H' a xs
  fl : ∀ a xs, FzL K H a xs → FzL K H' a xs
  dom : ∀ a, H' a = none → H a = none
theorem Keep.rfl {K : PySem.W.Frag} {H : Hp} : Keep K H H := ⟨fun _ _ h => h, fun _ _ h => h, fun _ h => h⟩
theorem Keep.trans {K : PySem.W.Frag} {H H1 H2 : Hp} (a : Keep K H H1) (b : Keep K H1 H2) : Keep K H H2 :=
  ⟨fun x xs h => b.tup x xs (a.tup x xs h), fun x xs h => b.fl x xs (a.fl x xs h), fun x h => a.dom x (b.dom x h)⟩
theorem Keep.new {K : PySem.W.Frag} {H : Hp} {p : Addr} {o : HO} (h : H p = none) : Keep K H (upd H p o) where
  tup := fun a xs q => by
    rcases q with q | q
    · rcases q with q | ⟨ob, q⟩
      · exact .inl (.inl (by rw [upd_ne (ne_of_none q h)]; exact q))
      · exact .inl (.inr ⟨ob, by rw [upd_ne (ne_of_none q h)]; exact q⟩)
    · exact .inr q
  fl := fun a xs q => by
    rcases q with ⟨ob, q⟩ | q
    · exact .inl ⟨ob, by rw [upd_ne (ne_of_none q h)]; exact q⟩
    · exact .inr q
  dom := fun a q => by
    unfold upd at q
    split at q
    · cases q
    · exact q
def NoTup : HO → Prop
  | .tup _ => False
  | .frz _ _ => False
  | _ => True
theorem Keep.put {K : PySem.W.Frag} {H : Hp} {p : Addr} {u o : HO} (h : H p = some u) (nt : NoTup u) : Keep K H (upd H p o) where
  tup := fun a xs q => by
    rcases q with q | q
    · rcases q with q | ⟨ob, q⟩
      · refine .inl (.inl ?_)
        rw [upd_ne (fun e => by subst e; rw [h] at q; cases q; exact nt)]
        exact q
      · refine .inl (.inr ⟨ob, ?_⟩)
        rw [upd_ne (fun e => by subst e; rw [h] at q; cases q; exact nt)]
        exact q
    · exact .inr q
  fl := fun a xs q => by
    rcases q with ⟨ob, q⟩ | q
    · refine .inl ⟨ob, ?_⟩
      rw [upd_ne (fun e => by subst e; rw [h] at q; cases q; exact nt)]
      exact q
    · exact .inr q
  dom := fun a q => by
    unfold upd at q
    split at q
    · cases q
    · exact q

mutual
theorem IsD.keep {K : PySem.W.Frag} {H H' : Hp} (k : Keep K H H') : ∀ {d : D} {v : V}, IsD K H d v → IsD K H' d v
  | .non, _, h => h
  | .bl _, _, h => h
  | .int _, _, h => h
  | .str _, _, h => h
  | .ref _, _, h => h
  | .tup ds, v, h => by
    obtain ⟨a, xs, e, s, r⟩ := (show ∃ a xs, v = .ref a ∧ SqT K H a xs ∧ IsDs K H ds xs from h)
    exact ⟨a, xs, e, k.tup a xs s, IsDs.keep k r⟩
  | .fl ds, v, h => by
    obtain ⟨a, xs, e, s, r⟩ := (show ∃ a xs, v = .ref a ∧ FzL K H a xs ∧ IsDs K H ds xs from h)
    exact ⟨a, xs, e, k.fl a xs s, IsDs.keep k r⟩
theorem IsDs.keep {K : PySem.W.Frag} {H H' : Hp} (k : Keep K H H') : ∀ {ds : List D} {vs : List V}, IsDs K H ds vs → IsDs K H' ds vs
  | [], _, h => h
  | d :: ds, vs, h => by
    obtain ⟨x, ys, e, r, t⟩ := (show ∃ x ys, vs = x :: ys ∧ IsD K H d x ∧ IsDs K H ds ys from h)
    exact ⟨x, ys, e, IsD.keep k r, IsDs.keep k t⟩
end
section
variable {K : PySem.W.Frag} {H H' : Hp}
theorem IsDs.nil : IsDs K H [] [] := by unfold IsDs; rfl
theorem IsDs.cons {d : D} {ds : List D} {x : V} {xs : List V} (h : IsD K H d x) (t : IsDs K H ds xs) : IsDs K H (d :: ds) (x :: xs) := by
  unfold IsDs; exact ⟨x, xs, rfl, h, t⟩
theorem IsDs.inv {d : D} {ds : List D} {vs : List V} (h : IsDs K H (d :: ds) vs) : ∃ x ys, vs = x :: ys ∧ IsD K H d x ∧ IsDs K H ds ys := by
  unfold IsDs at h; exact h
theorem IsDs.inv_nil {vs : List V} (h : IsDs K H [] vs) : vs = [] := by unfold IsDs at h; exact h
theorem IsDs.length : ∀ {ds : List D} {vs : List V}, IsDs K H ds vs → vs.length = ds.length
  | [], _, h => by rw [h.inv_nil]; rfl
  | d :: ds, vs, h => by
    obtain ⟨x, ys, rfl, _, t⟩ := h.inv
    simp [IsDs.length t]
theorem IsDs.get : ∀ {ds : List D} {vs : List V} {i : Nat} {d : D}, IsDs K H ds vs → ds[i]? = some d → ∃ v, vs[i]? = some v ∧ IsD K H d v
  | [], _, _, _, _, e => by simp at e
  | d :: ds, vs, 0, d', h, e => by
    obtain ⟨x, ys, rfl, r, t⟩ := h.inv
    simp at e; subst e
    exact ⟨x, rfl, r⟩
  | d :: ds, vs, i + 1, d', h, e => by
    obtain ⟨x, ys, rfl, r, t⟩ := h.inv
    obtain ⟨v, a, b⟩ := IsDs.get (i := i) t (by simpa using e)
    exact ⟨v, by simpa using a, b⟩
theorem IsDs.get' : ∀ {ds : List D} {vs : List V} {i : Nat} {v : V}, IsDs K H ds vs → vs[i]? = some v → ∃ d, ds[i]? = some d ∧ IsD K H d v
  | [], _, _, _, h, e => by rw [h.inv_nil] at e; simp at e
  | d :: ds, vs, 0, v', h, e => by
    obtain ⟨x, ys, rfl, r, t⟩ := h.inv
    simp at e; subst e
    exact ⟨d, rfl, r⟩
  | d :: ds, vs, i + 1, v', h, e => by
    obtain ⟨x, ys, rfl, r, t⟩ := h.inv
    obtain ⟨v, a, b⟩ := IsDs.get' (i := i) t (by simpa using e)
    exact ⟨v, by simpa using a, b⟩
theorem IsDs.append : ∀ {ds es : List D} {vs us : List V}, IsDs K H ds vs → IsDs K H es us → IsDs K H (ds ++ es) (vs ++ us)
  | [], _, _, _, h, t => by rw [h.inv_nil]; exact t
  | d :: ds, es, vs, us, h, t => by
    obtain ⟨x, ys, rfl, r, q⟩ := h.inv
    exact .cons r (IsDs.append q t)
theorem IsDs.one {d : D} {x : V} (h : IsD K H d x) : IsDs K H [d] [x] := .cons h .nil
theorem IsDs.take : ∀ {ds : List D} {vs : List V} (n : Nat), IsDs K H ds vs → IsDs K H (ds.take n) (vs.take n)
  | _, _, 0, _ => by simpa using IsDs.nil
  | [], _, n + 1, h => by rw [h.inv_nil]; simpa using IsDs.nil
  | d :: ds, vs, n + 1, h => by
    obtain ⟨x, ys, rfl, r, t⟩ := h.inv
    exact .cons r (IsDs.take n t)
theorem IsDs.drop : ∀ {ds : List D} {vs : List V} (n : Nat), IsDs K H ds vs → IsDs K H (ds.drop n) (vs.drop n)
  | _, _, 0, h => by simpa using h
  | [], _, n + 1, h => by rw [h.inv_nil]; simpa using IsDs.nil
  | d :: ds, vs, n + 1, h => by
    obtain ⟨x, ys, rfl, r, t⟩ := h.inv
    simpa using IsDs.drop n t
theorem IsDs.set : ∀ {ds : List D} {vs : List V} (i : Nat) {d : D} {v : V}, IsDs K H ds vs → IsD K H d v → IsDs K H (ds.set i d) (vs.set i v)
  | [], _, _, _, _, h, _ => by rw [h.inv_nil]; simpa using IsDs.nil
  | d :: ds, vs, 0, _, _, h, q => by
    obtain ⟨x, ys, rfl, r, t⟩ := h.inv
    exact .cons q t
  | d :: ds, vs, i + 1, _, _, h, q => by
    obtain ⟨x, ys, rfl, r, t⟩ := h.inv
    exact .cons r (IsDs.set i t q)
theorem IsDs.dropLast {ds : List D} {vs : List V} (h : IsDs K H ds vs) : IsDs K H ds.dropLast vs.dropLast := by
  rw [List.dropLast_eq_take, List.dropLast_eq_take, h.length]
  exact h.take _
theorem IsDs.replicate {d : D} {v : V} (h : IsD K H d v) : ∀ n : Nat, IsDs K H (List.replicate n d) (List.replicate n v)
  | 0 => .nil
  | n + 1 => by rw [List.replicate_succ, List.replicate_succ]; exact .cons h (IsDs.replicate h n)
theorem IsDs.rep {ds : List D} {vs : List V} (h : IsDs K H ds vs) : ∀ n : Nat, IsDs K H (List.replicate n ds).flatten (List.replicate n vs).flatten
  | 0 => .nil
  | n + 1 => by rw [List.replicate_succ, List.replicate_succ, List.flatten_cons, List.flatten_cons]; exact h.append (IsDs.rep h n)
theorem IsDs.reverse : ∀ {ds : List D} {vs : List V}, IsDs K H ds vs → IsDs K H ds.reverse vs.reverse
  | [], _, h => by rw [h.inv_nil]; exact .nil
  | d :: ds, vs, h => by
    obtain ⟨x, ys, rfl, r, t⟩ := h.inv
    rw [List.reverse_cons, List.reverse_cons]
    exact (IsDs.reverse t).append (.one r)
theorem IsDs.nil_iff {ds : List D} {vs : List V} (h : IsDs K H ds vs) : vs = [] ↔ ds = [] := by
  have e := h.length
  constructor
  · rintro rfl; exact List.length_eq_zero_iff.mp (by simpa using e.symm)
  · rintro rfl; exact h.inv_nil
theorem IsDs.ints : ∀ {ns : List Int} {vs : List V}, IsDs K H (ns.map D.int) vs ↔ vs = ns.map V.int
  | [], vs => by simp [IsDs]
  | n :: ns, vs => by
    simp only [List.map_cons, IsDs, IsD]
    constructor
    · rintro ⟨x, ys, rfl, rfl, t⟩; rw [IsDs.ints.mp t]
    · rintro rfl; exact ⟨_, _, rfl, rfl, IsDs.ints.mpr rfl⟩
theorem IsDs.strs : ∀ {ns : List Str} {vs : List V}, IsDs K H (ns.map D.str) vs ↔ vs = ns.map V.str
  | [], vs => by simp [IsDs]
  | n :: ns, vs => by
    simp only [List.map_cons, IsDs, IsD]
    constructor
    · rintro ⟨x, ys, rfl, rfl, t⟩; rw [IsDs.strs.mp t]
    · rintro rfl; exact ⟨_, _, rfl, rfl, IsDs.strs.mpr rfl⟩
theorem IsDs.bls : ∀ {ns : List Bool} {vs : List V}, IsDs K H (ns.map D.bl) vs ↔ vs = ns.map V.bl
  | [], vs => by simp [IsDs]
  | n :: ns, vs => by
    simp only [List.map_cons, IsDs, IsD]
    constructor
    · rintro ⟨x, ys, rfl, rfl, t⟩; rw [IsDs.bls.mp t]
    · rintro rfl; exact ⟨_, _, rfl, rfl, IsDs.bls.mpr rfl⟩
end

inductive MO where
  | lst (ds : List D)
  | ins (C : Addr) (fs : List (Str × D))
abbrev MH := List (Addr × MO)
def MH.get : MH → Addr → Option MO
  | [], _ => none
  | (b, o) :: M, a => if a = b then some o else MH.get M a
def MH.put : MH → Addr → MO → MH
  | [], _, _ => []
  | (b, u) :: M, a, o => if a = b then (b, o) :: M else (b, u) :: MH.put M a o
theorem MH.get_nil {a : Addr} : MH.get [] a = none := rfl
theorem MH.get_same {M : MH} {a : Addr} {o : MO} : MH.get ((a, o) :: M) a = some o := by unfold MH.get; rw [if_pos rfl]
theorem MH.get_ne {M : MH} {a b : Addr} {o : MO} (h : a ≠ b) : MH.get ((b, o) :: M) a = MH.get M a := by rw [MH.get]; rw [if_neg h]
theorem MH.put_same {M : MH} {a : Addr} {o u : MO} : MH.put ((a, u) :: M) a o = (a, o) :: M := by unfold MH.put; rw [if_pos rfl]
theorem MH.put_ne {M : MH} {a b : Addr} {o u : MO} (h : a ≠ b) : MH.put ((b, u) :: M) a o = (b, u) :: MH.put M a o := by rw [MH.put]; rw [if_neg h]
theorem MH.get_put_ne : ∀ {M : MH} {a b : Addr} {o : MO}, b ≠ a → (M.put a o).get b = M.get b
  | [], _, _, _, _ => rfl
  | (c, u) :: M, a, b, o, h => by
    unfold MH.put
    split
    · rename_i e; subst e
      rw [MH.get_ne h, MH.get_ne h]
    · unfold MH.get
      split
      · rfl
      · exact MH.get_put_ne h
theorem MH.get_put : ∀ {M : MH} {a : Addr} {o u : MO}, M.get a = some u → (M.put a o).get a = some o
  | [], _, _, _, h => by cases h
  | (c, v) :: M, a, o, u, h => by
    unfold MH.put
    split
    · rename_i e; subst e; exact MH.get_same
    · rename_i e
      rw [MH.get_ne e] at h ⊢
      exact MH.get_put h
theorem MH.put_put : ∀ {M : MH} {a : Addr} {o u : MO}, (M.put a o).put a u = M.put a u
  | [], _, _, _ => rfl
  | (c, v) :: M, a, o, u => by
    by_cases e : a = c
    · subst e; rw [MH.put_same, MH.put_same, MH.put_same]
    · rw [MH.put_ne e, MH.put_ne e, MH.put_ne e, MH.put_put]
theorem MH.put_comm : ∀ {M : MH} {a b : Addr} {o u : MO}, a ≠ b → (M.put a o).put b u = (M.put b u).put a o
  | [], _, _, _, _, _ => rfl
  | (c, v) :: M, a, b, o, u, h => by
    by_cases e : a = c
    · subst e
      rw [MH.put_same, MH.put_ne (Ne.symm h), MH.put_ne (Ne.symm h), MH.put_same]
    · by_cases e2 : b = c
      · subst e2
        rw [MH.put_ne e, MH.put_same, MH.put_same, MH.put_ne e]
      · rw [MH.put_ne e, MH.put_ne e2, MH.put_ne e2, MH.put_ne e, MH.put_comm h]
theorem MH.ne_of {M : MH} {a b : Addr} {o : MO} (h : M.get a = some o) (h' : M.get b = none) : a ≠ b := by
  rintro rfl; rw [h] at h'; cases h'
theorem MH.put_none {M : MH} {a b : Addr} {o : MO} (h : M.get b = none) : (M.put a o).get b = none := by
  by_cases e : b = a
  · subst e
    induction M with
    | nil => rfl
    | cons p M ih =>
      obtain ⟨c, v⟩ := p
      by_cases e : b = c
      · subst e; rw [MH.get_same] at h; cases h
      · rw [MH.get_ne e] at h; rw [MH.put_ne e, MH.get_ne e]; exact ih h
  · rw [MH.get_put_ne e]; exact h

def FsOk (K : PySem.W.Frag) (H : Hp) : List (Str × D) → List (Str × V) → Prop
  | [], gs => gs = []
  | (f, d) :: fs, gs => ∃ x hs, gs = (f, x) :: hs ∧ IsD K H d x ∧ FsOk K H fs hs
theorem FsOk.keep {K : PySem.W.Frag} {H H' : Hp} (k : Keep K H H') : ∀ {fs : List (Str × D)} {gs : List (Str × V)}, FsOk K H fs gs → FsOk K H' fs gs
  | [], _, h => h
  | (f, d) :: fs, gs, h => by
    obtain ⟨x, hs, e, r, t⟩ := h
    exact ⟨x, hs, e, r.keep k, FsOk.keep k t⟩
def MOk (K : PySem.W.Frag) (H : Hp) (a : Addr) : MO → Prop
  | .lst ds => ∃ xs, H a = some (.lst xs) ∧ IsDs K H ds xs
  | .ins C fs => ∃ dx gs, H a = some (.ins C dx gs) ∧ FsOk K H fs gs
structure RelM (K : PySem.W.Frag) (R : List (Addr × HO)) (M : MH) (H : Hp) : Prop where
  ok : ∀ a o, M.get a = some o → MOk K H a o
  res : ∀ p ∈ R, M.get p.1 = none ∧ H p.1 = some p.2
abbrev Sd := List (Option D)
structure RelS (K : PySem.W.Frag) (σd : Sd) (σ : L2.St) (H : Hp) : Prop where
  len : σ.length = σd.length
  at_ : ∀ (i : Nat) (d : D), σd[i]? = some (some d) → ∃ v, σ[i]? = some (some v) ∧ IsD K H d v
structure Rel (K : PySem.W.Frag) (R : List (Addr × HO)) (σd : Sd) (M : MH) (σ : L2.St) (H : Hp) : Prop where
  s : RelS K σd σ H
  m : RelM K R M H

section
variable {K : PySem.W.Frag} {R : List (Addr × HO)} {M M' : MH} {σd : Sd} {σ : L2.St} {H H' : Hp} {a b p : Addr} {o : MO} {ho : HO}
theorem RelS.keep (r : RelS K σd σ H) (k : Keep K H H') : RelS K σd σ H' := ⟨r.len, fun i d e => by
  obtain ⟨v, a, b⟩ := r.at_ i d e
  exact ⟨v, a, b.keep k⟩⟩
theorem Rel.keep (r : Rel K R σd M σ H) (k : Keep K H H') (m : RelM K R M' H') : Rel K R σd M' σ H' := ⟨r.s.keep k, m⟩
theorem MOk.upd (h : MOk K H b o) (e : b ≠ a) (k : Keep K H (upd H a ho)) : MOk K (upd H a ho) b o := by
  cases o with
  | lst ds =>
    obtain ⟨xs, q, r⟩ := h
    exact ⟨xs, by rw [upd_ne e]; exact q, r.keep k⟩
  | ins C fs =>
    obtain ⟨dx, gs, q, r⟩ := h
    exact ⟨dx, gs, by rw [upd_ne e]; exact q, FsOk.keep k r⟩
theorem RelM.put {u : MO} (r : RelM K R M H) (ha : M.get a = some u) (k : Keep K H (upd H a ho)) (ok : MOk K (upd H a ho) a o) : RelM K R (M.put a o) (upd H a ho) where
  ok := fun b q e => by
    by_cases hb : b = a
    · subst hb
      rw [MH.get_put ha] at e; cases e; exact ok
    · rw [MH.get_put_ne hb] at e
      exact (r.ok b q e).upd hb k
  res := fun b hb => by
    obtain ⟨h1, h2⟩ := r.res b hb
    have e : b.1 ≠ a := fun e => by rw [← e, h1] at ha; cases ha
    exact ⟨MH.put_none h1, by rw [upd_ne e]; exact h2⟩
theorem RelM.fresh (r : RelM K R M H) (h : H p = none) : M.get p = none := by
  cases e : M.get p with
  | none => rfl
  | some o =>
    exfalso
    have := r.ok p o e
    cases o with
    | lst ds => obtain ⟨xs, q, _⟩ := this; rw [h] at q; cases q
    | ins C fs => obtain ⟨dx, gs, q, _⟩ := this; rw [h] at q; cases q
theorem RelM.new (r : RelM K R M H) (hn : H p = none) (ok : MOk K (upd H p ho) p o) : RelM K R ((p, o) :: M) (upd H p ho) where
  ok := fun b q e => by
    by_cases hb : b = p
    · subst hb
      rw [MH.get_same] at e; cases e; exact ok
    · rw [MH.get_ne hb] at e
      exact (r.ok b q e).upd hb (Keep.new hn)
  res := fun b hb => by
    obtain ⟨h1, h2⟩ := r.res b hb
    have e : b.1 ≠ p := ne_of_none h2 hn
    exact ⟨by rw [MH.get_ne e]; exact h1, by rw [upd_ne e]; exact h2⟩
theorem RelM.lay (r : RelM K R M H) (hn : H p = none) : RelM K R M (upd H p ho) where
  ok := fun b q e => (r.ok b q e).upd (fun z => by subst z; rw [r.fresh hn] at e; cases e) (Keep.new hn)
  res := fun b hb => by
    obtain ⟨h1, h2⟩ := r.res b hb
    have e : b.1 ≠ p := ne_of_none h2 hn
    exact ⟨h1, by rw [upd_ne e]; exact h2⟩
theorem RelM.drop (r : RelM K R M H) (h : ∀ a o, M'.get a = some o → M.get a = some o) : RelM K R M' H where
  ok := fun a o e => r.ok a o (h a o e)
  res := fun a ha => by
    obtain ⟨h1, h2⟩ := r.res a ha
    refine ⟨?_, h2⟩
    cases e : M'.get a.1 with
    | none => rfl
    | some o => rw [h a.1 o e] at h1; cases h1
theorem RelM.wide {R' : List (Addr × HO)} (r : RelM K R M H) (h : ∀ p ∈ R', M.get p.1 = none ∧ H p.1 = some p.2) : RelM K (R' ++ R) M H :=
  ⟨r.ok, fun a ha => (List.mem_append.mp ha).elim (h a) (r.res a)⟩
theorem RelM.less {R' : List (Addr × HO)} (r : RelM K R M H) (h : ∀ a ∈ R', a ∈ R) : RelM K R' M H := ⟨r.ok, fun a ha => r.res a (h a ha)⟩
end
end Mx
namespace Mx
open PySem PySem.Spec PyProof.Rows L2

structure Exn where
  cls : Str
  args : List D
abbrev FSp := List D → MH → (D → MH → Prop) → (Exn → MH → Prop) → Prop
abbrev KE := D → MH → Prop
abbrev KS := Sd → MH → Prop

inductive BF where
  | len | int | str | abs | ord | max | min | divmod | tuple | list | repr
inductive MF where
  | append | split | partition | rpartition | count | find | rfind | join
inductive LF where
  | tuple | all | any | sum | join (sep : Str) | len

mutual
inductive CE where
  | var (i : Nat)
  | non | bl (b : Bool) | int (i : Int) | str (s : Str)
  | glo (x : Str) (d : D)
  | bin (op : Operator) (a b : CE)
  | neg (a : CE)
  | cmp (op : CmpOp) (a b : CE)
  | chain (op op' : CmpOp) (a b c : CE)
  | nt (a : CE)
  | and2 (a b : CE)
  | or2 (a b : CE)
  | ife (c a b : CE)
  | tup (es : CEs)
  | idx (a i : CE)
  | slc (a : CE) (lo hi : CO)
  | call (f : Str) (sp : FSp) (es : CEs)
  | callk (f : Str) (ks : List Str) (sp : FSp) (es kes : CEs)
  | blt (f : BF) (es : CEs)
  | met (o : CE) (m : MF) (es : CEs)
  | new (l : CL)
  | ofl (f : LF) (l : CL)
  | isi (a : CE) (T : String)
  | fst (ps : CFs)
inductive CEs where
  | nil
  | cons (e : CE) (es : CEs)
inductive CO where
  | no
  | yes (e : CE)
inductive CFs where
  | nil
  | lit (s : Str) (r : CFs)
  | val (e : CE) (r : CFs)
inductive CL where
  | dis (es : CEs)
  | comp (it : CI) (tg : CT) (own : List Nat) (t : CO) (elt : CE)
inductive CI where
  | val (e : CE)
  | range1 (a : CE)
  | range2 (a b : CE)
  | enum (e : CE)
inductive CT where
  | nm (i : Nat)
  | tp (ts : CTs)
  | ix (o i : CE)
inductive CTs where
  | nil
  | cons (t : CT) (ts : CTs)
end

mutual
inductive CS where
  | expr (e : CE)
  | ret (e : CE)
  | retN
  | asg (t : CT) (e : CE)
  | par (i j : Nat) (a b : CE)
  | par3 (i j l : Nat) (a b c : CE)
  | aug (i : Nat) (e : CE)
  | ife (c : CE) (a b : CB)
  | forS (t : CT) (it : CI) (b : CB)
  | whl (c : CE) (b : CB)
  | pass | brk | cont
  | raise (C : Str) (es : CEs)
inductive CB where
  | nil
  | cons (s : CS) (b : CB)
end

def DivOk (i j : Int) : Prop := j ≠ 0 ∧ Builtin.divisionGoesByPylong i j = false
def binD (op : Operator) (x y : D) (M : MH) (Q : KE) : Prop :=
  match op, x, y with
  | .Add, .int i, .int j => Q (.int (i + j)) M
  | .Add, .str a, .str b => a.length + b.length ≤ sizeLine ∧ Q (.str (a ++ b)) M
  | .Add, .tup a, .tup b => a.length + b.length ≤ sizeLine ∧ Q (.tup (a ++ b)) M
  | .Add, .ref p, .ref q => ∃ a b, M.get p = some (.lst a) ∧ M.get q = some (.lst b) ∧ a.length + b.length ≤ sizeLine ∧ ∀ r, M.get r = none → Q (.ref r) ((r, .lst (a ++ b)) :: M)
  | .Sub, .int i, .int j => Q (.int (i - j)) M
  | .Mult, .int i, .int j => CMulX i j ∧ Q (.int (i * j)) M
  | .Mult, .tup a, .int k => a ≠ [] ∧ 2 ≤ k ∧ k ≤ 1000 ∧ a.length ≤ 1000 ∧ Q (.tup (List.replicate k.toNat a).flatten) M
  | .FloorDiv, .int i, .int j => DivOk i j ∧ Q (.int (i.fdiv j)) M
  | .Mod, .int i, .int j => j ≠ 0 ∧ Q (.int (i.fmod j)) M
  | .Pow, .int i, .int j => CPow i j ∧ Q (.int (i ^ j.toNat)) M
  | _, _, _ => False
def pyOf (M : MH) : Nat → D → Option PyData
  | 0, _ => none
  | _ + 1, .non => some .none
  | _ + 1, .bl b => some (.bool b)
  | _ + 1, .int i => some (.int i)
  | _ + 1, .str s => some (.str s)
  | n + 1, .tup ds => (ds.mapM (pyOf M n)).map .tuple
  | n + 1, .fl ds => (ds.mapM (pyOf M n)).map .list
  | n + 1, .ref a => match M.get a with
    | some (.lst ds) => (ds.mapM (pyOf M n)).map .list
    | _ => none
def scalD : D → D → Option Bool
  | .int i, .int j => some (decide (i = j))
  | .str x, .str y => some (decide (x = y))
  | .bl x, .bl y => some (decide (x = y))
  | .non, .non => some true
  | _, _ => none
def eqD (x y : D) (M : MH) (k : Bool → Prop) : Prop :=
  match scalD x y with
  | some b => k b
  | none => ∃ pa pb, pyOf M 40 x = some pa ∧ pyOf M 40 y = some pb ∧ k (PyData.eqv pa pb)
def seqD (x : D) (M : MH) (k : List D → Prop) : Prop :=
  match x with
  | .tup ds => k ds
  | .fl ds => k ds
  | .ref p => match M.get p with
    | some (.lst ds) => k ds
    | _ => False
  | _ => False
def inD (x y : D) (M : MH) (k : Bool → Prop) : Prop :=
  match x, y with
  | .str a, .str b => k (!(Builtin.Str.occurrences b a 0 b.length 1).isEmpty)
  | _, _ => seqD y M fun ds => ∃ pa pbs, pyOf M 40 x = some pa ∧ ds.mapM (pyOf M 40) = some pbs ∧ k (pbs.any fun z => PyData.eqv z pa)
def cmpD (op : CmpOp) (x y : D) (M : MH) (k : Bool → Prop) : Prop :=
  match op with
  | .Eq => eqD x y M k
  | .NotEq => eqD x y M fun b => k (!b)
  | .In => inD x y M k
  | .NotIn => inD x y M fun b => k (!b)
  | .Is => match y with
    | .non => k (match x with | .non => true | _ => false)
    | _ => False
  | .IsNot => match y with
    | .non => k (match x with | .non => false | _ => true)
    | _ => False
  | .Lt => match x, y with
    | .int i, .int j => k (decide (i < j))
    | _, _ => False
  | .LtE => match x, y with
    | .int i, .int j => k (decide (i ≤ j))
    | _, _ => False
  | .Gt => match x, y with
    | .int i, .int j => k (decide (j < i))
    | _, _ => False
  | .GtE => match x, y with
    | .int i, .int j => k (decide (j ≤ i))
    | _, _ => False
def truD (x : D) (M : MH) (k : Bool → Prop) : Prop :=
  match x with
  | .bl b => k b
  | .non => k false
  | .int i => k (i != 0)
  | .str s => s.length ≤ sizeLine ∧ k ((s.length : Int) != 0)
  | .tup ds => k (!ds.isEmpty)
  | .fl ds => k (!ds.isEmpty)
  | .ref p => match M.get p with
    | some (.lst ds) => k (!ds.isEmpty)
    | _ => False
def idxD (x i : D) (M : MH) (Q : KE) : Prop :=
  match i with
  | .int n => match x with
    | .tup ds => ∃ d, atI ds n = some d ∧ Q d M
    | .fl ds => ∃ d, atI ds n = some d ∧ Q d M
    | .str s => s.length ≤ sizeLine ∧ ∃ c, atI s.cps.toList n = some c ∧ Q (.str ⟨#[c]⟩) M
    | .ref p => match M.get p with
      | some (.lst ds) => ∃ d, atI ds n = some d ∧ Q d M
      | _ => False
    | _ => False
  | _ => False
def cutD {α : Type} (xs : List α) (lo hi : Option Int) : List α := (xs.drop (HT.sIx xs.length 0 lo)).take (HT.sIx xs.length xs.length hi - HT.sIx xs.length 0 lo)
def slcD (x : D) (lo hi : Option Int) (M : MH) (Q : KE) : Prop :=
  match x with
  | .tup ds => Q (.tup (cutD ds lo hi)) M
  | .str s => s.length ≤ sizeLine ∧ Q (.str ⟨(cutD s.cps.toList lo hi).toArray⟩) M
  | .fl ds => ∀ r, M.get r = none → Q (.ref r) ((r, .lst (cutD ds lo hi)) :: M)
  | .ref p => match M.get p with
    | some (.lst ds) => ∀ r, M.get r = none → Q (.ref r) ((r, .lst (cutD ds lo hi)) :: M)
    | _ => False
  | _ => False
def lenD : List D → MH → KE → Prop := fun ds M Q => match ds with
  | [.str s] => s.length ≤ sizeLine ∧ Q (.int s.length) M
  | [x] => seqD x M fun xs => Q (.int xs.length) M
  | _ => False
def intD : List D → MH → KE → Prop := fun ds M Q => match ds with
  | [.int i] => Q (.int i) M
  | [.str s] => ∃ n, PySem.intText? s = some n ∧ s.length ≤ 640 ∧ Q (.int n) M
  | _ => False
def strD : List D → MH → KE → Prop := fun ds M Q => match ds with
  | [.int i] => i.natAbs.log2 < 1920 ∧ Q (.str (toString i : String)) M
  | _ => False
def absD : List D → MH → KE → Prop := fun ds M Q => match ds with
  | [.int i] => Q (.int (if i < 0 then -i else i)) M
  | _ => False
def ordD : List D → MH → KE → Prop := fun ds M Q => match ds with
  | [.str s] => s.length = 1 ∧ Q (.int (s.cps.getD 0 0 : Nat)) M
  | _ => False
def maxD : List D → MH → KE → Prop := fun ds M Q => match ds with
  | [.int i, .int j] => Q (.int (if j > i then j else i)) M
  | _ => False
def minD : List D → MH → KE → Prop := fun ds M Q => match ds with
  | [.int i, .int j] => Q (.int (if j < i then j else i)) M
  | _ => False
def divmodD : List D → MH → KE → Prop := fun ds M Q => match ds with
  | [.int i, .int j] => CDivP i j ∧ Q (.tup [.int (i / j), .int (i % j)]) M
  | _ => False
def tupleD : List D → MH → KE → Prop := fun ds M Q => match ds with
  | [x] => seqD x M fun xs => Q (.tup xs) M
  | _ => False
def listD : List D → MH → KE → Prop := fun ds M Q => match ds with
  | [x] => seqD x M fun xs => ∀ r, M.get r = none → Q (.ref r) ((r, .lst xs) :: M)
  | _ => False
def reprD : List D → MH → KE → Prop := fun ds M Q => match ds with
  | [x] => ∃ p, pyOf M 40 x = some p ∧ p.showable = true ∧ p.shown.length ≤ sizeLine ∧ Q (.str p.shown) M
  | _ => False
def bltD : BF → List D → MH → KE → Prop
  | .len => lenD
  | .int => intD
  | .str => strD
  | .abs => absD
  | .ord => ordD
  | .max => maxD
  | .min => minD
  | .divmod => divmodD
  | .tuple => tupleD
  | .list => listD
  | .repr => reprD
def metD : MF → D → List D → MH → KE → Prop
  | .join => fun x ds M Q => match x, ds with
    | .str sep, [y] => ∃ ss : List Str, seqD y M (fun es => es = ss.map .str) ∧ (ss.map (·.length)).sum + ss.length * sep.length ≤ 16777216 ∧ Q (.str (Txt.join sep ss)) M
    | _, _ => False
  | .append => fun x ds M Q => match x, ds with
    | .ref p, [d] => ∃ xs, M.get p = some (.lst xs) ∧ xs.length < sizeLine ∧ Q .non (M.put p (.lst (xs ++ [d])))
    | _, _ => False
  | .split => fun x ds M Q => match x, ds with
    | .str a, [.str b] => (b.length == 0) = false ∧ a.length + 2 ≤ sizeLine ∧ ∀ r, M.get r = none → Q (.ref r) ((r, .lst ((Txt.split a b).map .str)) :: M)
    | _, _ => False
  | .partition => fun x ds M Q => match x, ds with
    | .str a, [.str b] => (b.length == 0) = false ∧ a.length ≤ sizeLine ∧ Q (.tup [.str (Txt.partition a b).1, .str (Txt.partition a b).2.1, .str (Txt.partition a b).2.2]) M
    | _, _ => False
  | .rpartition => fun x ds M Q => match x, ds with
    | .str a, [.str b] => (b.length == 0) = false ∧ a.length ≤ sizeLine ∧ Q (.tup [.str (Txt.rpartition a b).1, .str (Txt.rpartition a b).2.1, .str (Txt.rpartition a b).2.2]) M
    | _, _ => False
  | .count => fun x ds M Q => match x, ds with
    | .str a, [.str b] => Q (.int (Txt.count a b)) M
    | _, _ => False
  | .find => fun x ds M Q => match x, ds with
    | .str a, [.str b] => Q (.int (Txt.find a b)) M
    | _, _ => False
  | .rfind => fun x ds M Q => match x, ds with
    | .str a, [.str b] => Q (.int (Txt.rfind a b)) M
    | _, _ => False
def mtyD : MF → D → MH → Prop
  | .append, .ref p, M => ∃ xs, M.get p = some (.lst xs)
  | .append, _, _ => False
  | _, .str _, _ => True
  | _, _, _ => False
def oflD (f : LF) (ds : List D) (M : MH) (Q : KE) : Prop :=
  match f with
  | .tuple => Q (.tup ds) M
  | .len => Q (.int ds.length) M
  | .all => ∃ bs : List Bool, ds = bs.map .bl ∧ Q (.bl (bs.all id)) M
  | .any => ∃ bs : List Bool, ds = bs.map .bl ∧ Q (.bl (bs.any id)) M
  | .sum => ∃ ns : List Int, ds = ns.map .int ∧ Q (.int ns.sum) M
  | .join sep => ∃ ss : List Str, ds = ss.map .str ∧ (ss.map (·.length)).sum + ss.length * sep.length ≤ 16777216 ∧ Q (.str (Txt.join sep ss)) M
def isiD (x : D) (M : MH) (T : String) : Option Bool :=
  match x, T with
  | .non, "int" => some false | .non, "str" => some false | .non, "tuple" => some false | .non, "bool" => some false | .non, "list" => some false
  | .bl _, "int" => some true | .bl _, "str" => some false | .bl _, "tuple" => some false | .bl _, "bool" => some true | .bl _, "list" => some false
  | .int _, "int" => some true | .int _, "str" => some false | .int _, "tuple" => some false | .int _, "bool" => some false | .int _, "list" => some false
  | .str _, "int" => some false | .str _, "str" => some true | .str _, "tuple" => some false | .str _, "bool" => some false | .str _, "list" => some false
  | .tup _, "int" => some false | .tup _, "str" => some false | .tup _, "tuple" => some true | .tup _, "bool" => some false | .tup _, "list" => some false
  | .fl _, "int" => some false | .fl _, "str" => some false | .fl _, "tuple" => some false | .fl _, "bool" => some false | .fl _, "list" => some true
  | .ref p, T => match M.get p with
    | some (.lst _) => if T = "int" ∨ T = "str" ∨ T = "tuple" ∨ T = "bool" then some false else if T = "list" then some true else none
    | _ => none
  | _, _ => none
def fmtD (x : D) (k : Str → Prop) : Prop :=
  match x with
  | .str s => k s
  | .int i => i.natAbs.log2 < 1920 ∧ k (toString i : String)
  | _ => False
def wipeD (σ : Sd) : List Nat → Sd
  | [] => σ
  | v :: vs => (wipeD σ vs).set v none
def itD (x : D) (M : MH) (k : List D → (MH → Prop) → Prop) : Prop :=
  match x with
  | .tup ds => k ds fun _ => True
  | .fl ds => k ds fun _ => True
  | .str s => k (s.cps.toList.map fun c => .str ⟨#[c]⟩) fun _ => True
  | .ref p => match M.get p with
    | some (.lst ds) => k ds fun M' => M'.get p = some (.lst ds)
    | _ => False
  | _ => False
def enumD (ds : List D) : List D := (List.range ds.length).zipWith (fun (i : Nat) d => .tup [.int i, d]) ds
def small62 (i : Int) : Prop := -(2 ^ 62) ≤ i ∧ i < 2 ^ 62
def rangeD (lo : Int) (n : Nat) : List D := (List.range n).map fun (i : Nat) => .int (lo + i)

def walkD (chk : MH → Prop) (turn : D → KS → KS) (fin : KS) : List D → KS
  | [] => fun σ M => chk M ∧ fin σ M
  | d :: ds => fun σ M => chk M ∧ turn d (walkD chk turn fin ds) σ M
def gatherD (chk : MH → Prop) (turn : D → (Option D → MH → Prop) → MH → Prop) (fin : List D → MH → Prop) : List D → List D → MH → Prop
  | [], acc => fun M => chk M ∧ fin acc M
  | d :: ds, acc => fun M => chk M ∧ turn d (fun r M' => match r with
    | none => gatherD chk turn fin ds acc M'
    | some x => acc.length < sizeLine ∧ gatherD chk turn fin ds (acc ++ [x]) M') M
def whileD (test : Sd → MH → (Bool → MH → Prop) → Prop) (turn : KS → KS) (fin : KS) : Nat → KS
  | 0 => fun _ _ => False
  | n + 1 => fun σ M => test σ M fun b M' => if b = true then turn (whileD test turn fin n) σ M' else fin σ M'

def lenT : CTs → Nat
  | .nil => 0
  | .cons _ ts => lenT ts + 1
structure MK where
  nx : KS
  rt : KE
  bk : KS
  ct : KS

section
variable (E : Sd → Exn → MH → Prop)
def byT (t : Sd → MH → KE → Prop) : (Sd → MH → KE → Prop) × (Sd → MH → (Bool → MH → Prop) → Prop) := (t, fun σ M Q => t σ M fun x M1 => truD x M1 fun k => Q k M1)
mutual
def rX : CE → (Sd → MH → KE → Prop) × (Sd → MH → (Bool → MH → Prop) → Prop)
  | .var i => byT fun σ M Q => match σ[i]? with
    | some (some d) => Q d M
    | _ => False
  | .non => byT fun _ M Q => Q .non M
  | .bl b => byT fun _ M Q => Q (.bl b) M
  | .int i => byT fun _ M Q => Q (.int i) M
  | .str s => byT fun _ M Q => Q (.str s) M
  | .glo _ d => byT fun _ M Q => Q d M
  | .bin op a b => byT fun σ M Q => (rX a).1 σ M fun x M1 => (rX b).1 σ M1 fun y M2 => binD op x y M2 Q
  | .neg a => byT fun σ M Q => (rX a).1 σ M fun x M1 => match x with
    | .int i => Q (.int (-i)) M1
    | _ => False
  | .cmp op a b => byT fun σ M Q => (rX a).1 σ M fun x M1 => (rX b).1 σ M1 fun y M2 => cmpD op x y M2 fun k => Q (.bl k) M2
  | .chain op op' a b c => byT fun σ M Q => (rX a).1 σ M fun x M1 => (rX b).1 σ M1 fun y M2 => cmpD op x y M2 fun k =>
    if k = true then (rX c).1 σ M2 fun z M3 => cmpD op' y z M3 fun k' => Q (.bl k') M3 else Q (.bl false) M2
  | .nt a => (fun σ M Q => (rX a).1 σ M fun x M1 => truD x M1 fun k => Q (.bl (!k)) M1, fun σ M Q => (rX a).2 σ M fun k M1 => Q (!k) M1)
  | .and2 a b => (fun σ M Q => (rX a).1 σ M fun x M1 => truD x M1 fun k => if k = true then (rX b).1 σ M1 Q else Q x M1,
    fun σ M Q => (rX a).2 σ M fun k M1 => if k = true then (rX b).2 σ M1 Q else Q false M1)
  | .or2 a b => (fun σ M Q => (rX a).1 σ M fun x M1 => truD x M1 fun k => if k = true then Q x M1 else (rX b).1 σ M1 Q,
    fun σ M Q => (rX a).2 σ M fun k M1 => if k = true then Q true M1 else (rX b).2 σ M1 Q)
  | .ife c a b => (fun σ M Q => (rX c).2 σ M fun k M1 => if k = true then (rX a).1 σ M1 Q else (rX b).1 σ M1 Q,
    fun σ M Q => (rX c).2 σ M fun k M1 => if k = true then (rX a).2 σ M1 Q else (rX b).2 σ M1 Q)
  | .tup es => byT fun σ M Q => rEs es σ M fun ds M1 => ds.length ≤ sizeLine ∧ Q (.tup ds) M1
  | .idx a i => byT fun σ M Q => (rX a).1 σ M fun x M1 => (rX i).1 σ M1 fun y M2 => idxD x y M2 Q
  | .slc a lo hi => byT fun σ M Q => (rX a).1 σ M fun x M1 => (rOX lo).1 σ M1 fun l M2 => (rOX hi).1 σ M2 fun h M3 => slcD x l h M3 Q
  | .call _ sp es => byT fun σ M Q => rEs es σ M fun ds M1 => sp ds M1 Q (E σ)
  | .callk _ _ sp es kes => byT fun σ M Q => rEs es σ M fun ds M1 => rEs kes σ M1 fun ds' M2 => sp (ds ++ ds') M2 Q (E σ)
  | .blt f es => byT fun σ M Q => rEs es σ M fun ds M1 => bltD f ds M1 Q
  | .met o m es => byT fun σ M Q => (rX o).1 σ M fun x M1 => mtyD m x M1 ∧ rEs es σ M1 fun ds M2 => metD m x ds M2 Q
  | .new l => byT fun σ M Q => rL l σ M fun ds M1 => ∀ r, M.get r = none → M1.get r = none → Q (.ref r) ((r, .lst ds) :: M1)
  | .ofl f l => byT fun σ M Q => rL l σ M fun ds M1 => oflD f ds M1 Q
  | .isi a T => byT fun σ M Q => (rX a).1 σ M fun x M1 => match isiD x M1 T with
    | some b => Q (.bl b) M1
    | none => False
  | .fst ps => byT fun σ M Q => rF ps Str.empty σ M fun s M1 => Q (.str s) M1
def rEs : CEs → Sd → MH → (List D → MH → Prop) → Prop
  | .nil => fun _ M Q => Q [] M
  | .cons e es => fun σ M Q => (rX e).1 σ M fun d M1 => rEs es σ M1 fun ds M2 => Q (d :: ds) M2
def rOX : CO → (Sd → MH → (Option Int → MH → Prop) → Prop) × (Sd → MH → (Bool → MH → Prop) → Prop)
  | .no => (fun _ M Q => Q none M, fun _ M Q => Q true M)
  | .yes e => (fun σ M Q => (rX e).1 σ M fun x M1 => match x with
    | .int i => Q (some i) M1
    | _ => False, (rX e).2)
def rF : CFs → Str → Sd → MH → (Str → MH → Prop) → Prop
  | .nil => fun acc _ M Q => Q acc M
  | .lit s r => fun acc σ M Q => acc.length + s.length ≤ sizeLine ∧ rF r (acc ++ s) σ M Q
  | .val e r => fun acc σ M Q => (rX e).1 σ M fun x M1 => fmtD x fun s => acc.length + s.length ≤ sizeLine ∧ rF r (acc ++ s) σ M1 Q
def rL : CL → Sd → MH → (List D → MH → Prop) → Prop
  | .dis es => fun σ M Q => rEs es σ M fun ds M1 => ds.length ≤ sizeLine ∧ Q ds M1
  | .comp it tg own t elt => fun σ M Q => rWk it σ M fun items chk M1 =>
    gatherD chk (fun d k M2 => rG tg d (wipeD σ own) M2 fun σ' M3 => (rOX t).2 σ' M3 fun b M4 => if b = true then (rX elt).1 σ' M4 fun x M5 => k (some x) M5 else k none M4) Q items [] M1
def rWk : CI → Sd → MH → (List D → (MH → Prop) → MH → Prop) → Prop
  | .val e => fun σ M Q => (rX e).1 σ M fun x M1 => itD x M1 fun ds chk => Q ds chk M1
  | .range1 a => fun σ M Q => (rX a).1 σ M fun x M1 => match x with
    | .int n => small62 n ∧ Q (rangeD 0 n.toNat) (fun _ => True) M1
    | _ => False
  | .range2 a b => fun σ M Q => (rX a).1 σ M fun x M1 => (rX b).1 σ M1 fun y M2 => match x, y with
    | .int lo, .int hi => small62 lo ∧ small62 hi ∧ Q (rangeD lo (hi - lo).toNat) (fun _ => True) M2
    | _, _ => False
  | .enum e => fun σ M Q => (rX e).1 σ M fun x M1 => itD x M1 fun ds chk => Q (enumD ds) chk M1
def rG : CT → D → Sd → MH → KS → Prop
  | .nm i => fun d σ M Q => Q (σ.set i (some d)) M
  | .tp ts => fun d σ M Q => match d with
    | .tup ds => ds.length = lenT ts ∧ rGs ts ds σ M Q
    | _ => False
  | .ix o i => fun d σ M Q => (rX o).1 σ M fun x M1 => (rX i).1 σ M1 fun y M2 => match x, y with
    | .ref p, .int n => ∃ xs j, M2.get p = some (.lst xs) ∧ ixN xs.length n = some j ∧ Q σ (M2.put p (.lst (xs.set j d)))
    | _, _ => False
def rGs : CTs → List D → Sd → MH → KS → Prop
  | .nil => fun ds σ M Q => ds = [] ∧ Q σ M
  | .cons t ts => fun ds σ M Q => match ds with
    | d :: r => rG t d σ M fun σ1 M1 => rGs ts r σ1 M1 Q
    | [] => False
end
abbrev rE (e : CE) : Sd → MH → KE → Prop := (rX E e).1
abbrev rT (e : CE) : Sd → MH → (Bool → MH → Prop) → Prop := (rX E e).2
abbrev rO (o : CO) : Sd → MH → (Option Int → MH → Prop) → Prop := (rOX E o).1
abbrev rC (o : CO) : Sd → MH → (Bool → MH → Prop) → Prop := (rOX E o).2
mutual
def rS : CS → MK → KS
  | .expr e => fun k σ M => rE E e σ M fun _ M1 => k.nx σ M1
  | .ret e => fun k σ M => rE E e σ M k.rt
  | .retN => fun k _ M => k.rt .non M
  | .asg t e => fun k σ M => rE E e σ M fun d M1 => rG E t d σ M1 k.nx
  | .par i j a b => fun k σ M => rE E a σ M fun x M1 => rE E b σ M1 fun y M2 => k.nx ((σ.set i (some x)).set j (some y)) M2
  | .par3 i j l a b c => fun k σ M => rE E a σ M fun x M1 => rE E b σ M1 fun y M2 => rE E c σ M2 fun z M3 => k.nx (((σ.set i (some x)).set j (some y)).set l (some z)) M3
  | .aug i e => fun k σ M => match σ[i]? with
    | some (some (.int n)) => rE E e σ M fun y M1 => match y with
      | .int m => k.nx (σ.set i (some (.int (n + m)))) M1
      | _ => False
    | _ => False
  | .ife c a b => fun k σ M => rT E c σ M fun t M1 => if t = true then rB a k σ M1 else rB b k σ M1
  | .forS t it b => fun k σ M => rWk E it σ M fun items chk M1 =>
    walkD chk (fun d next σ1 M2 => rG E t d σ1 M2 fun σ2 M3 => rB b ⟨next, k.rt, k.nx, next⟩ σ2 M3) k.nx items σ M1
  | .whl c b => fun k σ M => ∃ n, whileD (rT E c) (fun next => rB b ⟨next, k.rt, k.nx, next⟩) k.nx n σ M
  | .pass => fun k σ M => k.nx σ M
  | .brk => fun k σ M => k.bk σ M
  | .cont => fun k σ M => k.ct σ M
  | .raise C es => fun _ σ M => rEs E es σ M fun ds M1 => E σ ⟨C, ds⟩ M1
def rB : CB → MK → KS
  | .nil => fun k σ M => k.nx σ M
  | .cons s b => fun k σ M => rS s ⟨rB b k, k.rt, k.bk, k.ct⟩ σ M
end
end
end Mx
namespace Mx
open PySem PySem.Spec PyProof.Rows L2

abbrev ME := Sd → MH → KE → Prop
abbrev MT := Sd → MH → (Bool → MH → Prop) → Prop
abbrev MA := Sd → MH → (List D → MH → Prop) → Prop
def UpE (K : PySem.W.Frag) (R : List (Addr × HO)) (H : Hp) (Qd : KE) (Q : VK) : Prop := ∀ d M' v H', Qd d M' → Keep K H H' → RelM K R M' H' → IsD K H' d v → Q v H'
def UpT (K : PySem.W.Frag) (R : List (Addr × HO)) (H : Hp) (Qd : Bool → MH → Prop) (Q : Bool → Hp → Prop) : Prop := ∀ b M' H', Qd b M' → Keep K H H' → RelM K R M' H' → Q b H'
def UpA (K : PySem.W.Frag) (n : Nat) (R : List (Addr × HO)) (H : Hp) (Qd : List D → MH → Prop) (Q : List V → Hp → Prop) : Prop := ∀ ds M' vs H', ds.length = n → Qd ds M' → Keep K H H' → RelM K R M' H' → IsDs K H' ds vs → Q vs H'
def UpL (K : PySem.W.Frag) (R : List (Addr × HO)) (M : MH) (H : Hp) (Qd : List D → MH → Prop) (Q : VK) : Prop :=
  ∀ ds M' p xs H', Qd ds M' → Keep K H H' → RelM K R M' H' → M.get p = none → M'.get p = none → H' p = some (.lst xs) → (∀ b ∈ R, b.1 ≠ p) → IsDs K H' ds xs → Q (.ref p) H'
def liftE (K : PySem.W.Frag) (t : ME) : TE := fun σ H Q => ∃ R σd M Qd, Rel K R σd M σ H ∧ t σd M Qd ∧ UpE K R H Qd Q
def liftT (K : PySem.W.Frag) (t : MT) : TT := fun σ H Q => ∃ R σd M Qd, Rel K R σd M σ H ∧ t σd M Qd ∧ UpT K R H Qd Q
def liftA (K : PySem.W.Frag) (n : Nat) (t : MA) : TA := fun σ H Q => ∃ R σd M Qd, Rel K R σd M σ H ∧ t σd M Qd ∧ UpA K n R H Qd Q
def liftL (K : PySem.W.Frag) (t : MA) : TE := fun σ H Q => ∃ R σd M Qd, Rel K R σd M σ H ∧ t σd M Qd ∧ UpL K R M H Qd Q
theorem _root_.L2.PE.of {X : Cx} {e : Expr} {t t' : TE} (h : PE X e t) (i : ∀ σ H Q, t' σ H Q → t σ H Q) : PE X e t' := ⟨fun pins s σ H Q I q => h.run pins s σ H Q I (i σ H Q q)⟩
theorem _root_.L2.PT.of {X : Cx} {e : Expr} {t t' : TT} (h : PT X e t) (i : ∀ σ H Q, t' σ H Q → t σ H Q) : PT X e t' := ⟨fun pins s σ H Q I q => h.run pins s σ H Q I (i σ H Q q)⟩
theorem _root_.L2.PA.of {X : Cx} {e : List Expr} {t t' : TA} (h : PA X e t) (i : ∀ σ H Q, t' σ H Q → t σ H Q) : PA X e t' := ⟨fun po pins s σ H Q I q => h.run po pins s σ H Q I (i σ H Q q)⟩

section
variable {X : Cx} {a b c : Expr} {ta tb tc : ME} {pos : Pos}
theorem up_here {K : PySem.W.Frag} {R : List (Addr × HO)} {σd : Sd} {M : MH} {σ : L2.St} {H : Hp} {Qd : KE} {Q : VK} {d : D} {v : V} (u : UpE K R H Qd Q) (q : Qd d M) (r : Rel K R σd M σ H) (i : IsD K H d v) : Q v H := u d M v H q .rfl r.m i
theorem UpE.later {K : PySem.W.Frag} {R : List (Addr × HO)} {H H1 : Hp} {Qd : KE} {Q : VK} (u : UpE K R H Qd Q) (k : Keep K H H1) : UpE K R H1 Qd Q := fun d M' v H' q k' m i => u d M' v H' q (k.trans k') m i
theorem UpT.later {K : PySem.W.Frag} {R : List (Addr × HO)} {H H1 : Hp} {Qd : Bool → MH → Prop} {Q : Bool → Hp → Prop} (u : UpT K R H Qd Q) (k : Keep K H H1) : UpT K R H1 Qd Q := fun d M' H' q k' m => u d M' H' q (k.trans k') m
theorem UpA.later {K : PySem.W.Frag} {n : Nat} {R : List (Addr × HO)} {H H1 : Hp} {Qd : List D → MH → Prop} {Q : List V → Hp → Prop} (u : UpA K n R H Qd Q) (k : Keep K H H1) : UpA K n R H1 Qd Q := fun d M' v H' l q k' m i => u d M' v H' l q (k.trans k') m i

theorem me_var {i : Nat} {x : Str} (hN : X.N[i]? = some x) (hv : Vis X.env.scope x) (hd : (x == ("__debug__" : Str)) = false) (hcd : (x == ("__classdict__" : Str)) = false) :
    PE X (.Name x pos) (liftE X.K fun σ M Q => match σ[i]? with
      | some (some d) => Q d M
      | _ => False) := by
  refine (pe_var hN hv hd hcd).of fun σ H Q ⟨R, σd, M, Qd, r, q, u⟩ => ?_
  revert q
  cases e : σd[i]? with
  | none => exact False.elim
  | some o =>
    cases o with
    | none => exact False.elim
    | some d =>
      intro q
      obtain ⟨v, hv, hd⟩ := r.s.at_ i d e
      exact ⟨v, hv, up_here u q r hd⟩
theorem me_cst {d : D} {v : V} (h : PE X a (tC v)) (hd : ∀ H, IsD X.K H d v) : PE X a (liftE X.K fun _ M Q => Q d M) :=
  h.of fun σ H Q ⟨R, σd, M, Qd, r, q, u⟩ => up_here u q r (hd H)
theorem me_non {j : Nat} : PE X (.Constant .none j pos) (liftE X.K fun _ M Q => Q .non M) := me_cst pe_non fun _ => by unfold IsD; rfl
theorem me_bl {k : Bool} {j : Nat} : PE X (.Constant (.bool k) j pos) (liftE X.K fun _ M Q => Q (.bl k) M) := me_cst pe_bl fun _ => by unfold IsD; rfl
theorem me_int {k : Int} {j : Nat} : PE X (.Constant (.int k) j pos) (liftE X.K fun _ M Q => Q (.int k) M) := me_cst pe_int fun _ => by unfold IsD; rfl
theorem me_str {k : Str} {j : Nat} : PE X (.Constant (.str k) j pos) (liftE X.K fun _ M Q => Q (.str k) M) := me_cst pe_str fun _ => by unfold IsD; rfl
def ConOk (K : PySem.W.Frag) (mg : Str → Option Value) (x : Str) (d : D) : Prop := ∃ u v, mg x = some u ∧ RelV v u ∧ ∀ H, IsD K H d v
theorem me_glo {x : Str} {d : D} (hg : Gl X x) (h : ConOk X.K X.mg x d) (hd : (x == ("__debug__" : Str)) = false) : PE X (.Name x pos) (liftE X.K fun _ M Q => Q d M) := by
  obtain ⟨u, v, h1, h2, h3⟩ := h
  exact me_cst (pe_glob hg h1 h2 hd) h3

def rD1 (K : PySem.W.Frag) (r : D → MH → KE → Prop) : V → Hp → VK → Prop := fun x H Q => ∃ R M d Qd, RelM K R M H ∧ IsD K H d x ∧ r d M Qd ∧ UpE K R H Qd Q
def rD2 (K : PySem.W.Frag) (r : D → D → MH → KE → Prop) : R2 := fun x y H Q => ∃ R M d e Qd, RelM K R M H ∧ IsD K H d x ∧ IsD K H e y ∧ r d e M Qd ∧ UpE K R H Qd Q
def rDs (K : PySem.W.Frag) (r : List D → MH → KE → Prop) : List V → Hp → VK → Prop := fun vs H Q => ∃ R M ds Qd, RelM K R M H ∧ IsDs K H ds vs ∧ r ds M Qd ∧ UpE K R H Qd Q
theorem one_of {r : D → MH → KE → Prop} (σ : L2.St) (H : Hp) (Q : VK) (h : liftE X.K (fun σ M Q => ta σ M fun x M1 => r x M1 Q) σ H Q) : liftE X.K ta σ H fun x H1 => rD1 X.K r x H1 Q := by
  obtain ⟨R, σd, M, Qd, rel, q, u⟩ := h
  exact ⟨R, σd, M, _, rel, q, fun d M1 v H1 q1 k1 m1 i1 => ⟨R, M1, d, Qd, m1, i1, q1, u.later k1⟩⟩
theorem two_of {r : D → D → MH → KE → Prop} (σ : L2.St) (H : Hp) (Q : VK) (h : liftE X.K (fun σ M Q => ta σ M fun x M1 => tb σ M1 fun y M2 => r x y M2 Q) σ H Q) :
    liftE X.K ta σ H fun x H1 => liftE X.K tb σ H1 fun y H2 => rD2 X.K r x y H2 Q := by
  obtain ⟨R, σd, M, Qd, rel, q, u⟩ := h
  refine ⟨R, σd, M, _, rel, q, fun d M1 v H1 q1 k1 m1 i1 => ?_⟩
  exact ⟨R, σd, M1, _, rel.keep k1 m1, q1, fun e M2 w' H2 q2 k2 m2 i2 => ⟨R, M2, d, e, Qd, m2, i1.keep k2, i2, q2, u.later (k1.trans k2)⟩⟩
theorem args_of {n : Nat} {t : MA} {r : List D → MH → KE → Prop} (σ : L2.St) (H : Hp) (Q : VK) (h : liftE X.K (fun σ M Q => t σ M fun ds M1 => r ds M1 Q) σ H Q) : liftA X.K n t σ H fun vs H1 => rDs X.K r vs H1 Q := by
  obtain ⟨R, σd, M, Qd, rel, q, u⟩ := h
  exact ⟨R, σd, M, _, rel, q, fun d M1 v H1 _ q1 k1 m1 i1 => ⟨R, M1, d, Qd, m1, i1, q1, u.later k1⟩⟩
theorem me_op {op : Operator} {r : D → D → MH → KE → Prop} (ho : OpR X (binaryOp op) (rD2 X.K r)) (ha : PE X a (liftE X.K ta)) (hb : PE X b (liftE X.K tb)) :
    PE X (.BinOp a op b pos) (liftE X.K fun σ M Q => ta σ M fun x M1 => tb σ M1 fun y M2 => r x y M2 Q) := (pe_op ho ha hb).of two_of

theorem ma_nil : PA X [] (liftA X.K 0 fun _ M Q => Q [] M) := pa_nil.of fun σ H Q ⟨R, σd, M, Qd, r, q, u⟩ => u [] M [] H rfl q .rfl r.m .nil
theorem ma_cons {n : Nat} {es : List Expr} {t : MA} (ha : PE X a (liftE X.K ta)) (hr : PA X es (liftA X.K n t)) (hs : starEach (a :: es) X.env = (false, eval a X.env) :: starEach es X.env) :
    PA X (a :: es) (liftA X.K (n + 1) fun σ M Q => ta σ M fun d M1 => t σ M1 fun ds M2 => Q (d :: ds) M2) := by
  refine (pa_cons ha hr hs).of fun σ H Q ⟨R, σd, M, Qd, r, q, u⟩ => ?_
  refine ⟨R, σd, M, _, r, q, fun d M1 v H1 q1 k1 m1 i1 => ?_⟩
  exact ⟨R, σd, M1, _, r.keep k1 m1, q1, fun ds M2 vs H2 l2 q2 k2 m2 i2 => u (d :: ds) M2 (v :: vs) H2 (by rw [List.length_cons, l2]) q2 (k1.trans k2) m2 (.cons (i1.keep k2) i2)⟩
theorem me_tup {n : Nat} {es : List Expr} {t : MA} {x1 : Nat} (h : PA X es (liftA X.K n t)) : PE X (.Tuple es x1 pos) (liftE X.K fun σ M Q => t σ M fun ds M1 => ds.length ≤ sizeLine ∧ Q (.tup ds) M1) := by
  refine (pe_tup h).of fun σ H Q ⟨R, σd, M, Qd, r, q, u⟩ => ?_
  refine ⟨R, σd, M, _, r, q, fun ds M1 vs H1 _ ⟨hz, q1⟩ k1 m1 i1 => ⟨by rw [i1.length]; exact hz, fun p hp => ?_⟩⟩
  have k2 : Keep X.K H1 (upd H1 p (.tup vs)) := .new hp
  refine u (.tup ds) M1 (.ref p) _ q1 (k1.trans k2) (m1.lay hp) ?_
  unfold IsD
  exact ⟨p, vs, rfl, .inl (.inl upd_same), i1.keep k2⟩
theorem ml_dis {n : Nat} {es : List Expr} {t : MA} (h : PA X es (liftA X.K n t)) : PE X (.List es pos) (liftL X.K fun σ M Q => t σ M fun ds M1 => ds.length ≤ sizeLine ∧ Q ds M1) := by
  refine (pe_lst h).of fun σ H Q ⟨R, σd, M, Qd, r, q, u⟩ => ?_
  refine ⟨R, σd, M, _, r, q, fun ds M1 vs H1 _ ⟨hz, q1⟩ k1 m1 i1 => ⟨by rw [i1.length]; exact hz, fun p hp => ?_⟩⟩
  have k2 : Keep X.K H1 (upd H1 p (.lst vs)) := .new hp
  exact u ds M1 p vs _ q1 (k1.trans k2) (m1.lay hp) (r.m.fresh (k1.dom p hp)) (m1.fresh hp) upd_same (fun b hb => ne_of_none (m1.res b hb).2 hp) (i1.keep k2)
theorem me_new {t : MA} (h : PE X a (liftL X.K t)) : PE X a (liftE X.K fun σ M Q => t σ M fun ds M1 => ∀ r, M.get r = none → M1.get r = none → Q (.ref r) ((r, .lst ds) :: M1)) := by
  refine h.of fun σ H Q ⟨R, σd, M, Qd, r, q, u⟩ => ⟨R, σd, M, _, r, q, fun ds M1 p xs H1 q1 k1 m1 n n1 hp hR i1 => ?_⟩
  refine u (.ref p) ((p, .lst ds) :: M1) (.ref p) H1 (q1 p n n1) k1 ⟨fun b o e => ?_, fun b hb => ?_⟩ (by unfold IsD; rfl)
  · by_cases hb : b = p
    · subst hb
      rw [MH.get_same] at e; cases e
      exact ⟨xs, hp, i1⟩
    · rw [MH.get_ne hb] at e
      exact m1.ok b o e
  · have hne : b.1 ≠ p := hR b hb
    rw [MH.get_ne hne]
    exact m1.res b hb
end
end Mx
namespace Mx
open PySem PySem.Spec PyProof.Rows L2
section
variable {K : PySem.W.Frag} {H : Hp}
theorem inv_non {v : V} (h : IsD K H .non v) : v = .non := by unfold IsD at h; exact h
theorem inv_bl {b : Bool} {v : V} (h : IsD K H (.bl b) v) : v = .bl b := by unfold IsD at h; exact h
theorem inv_int {i : Int} {v : V} (h : IsD K H (.int i) v) : v = .int i := by unfold IsD at h; exact h
theorem inv_str {x : Str} {v : V} (h : IsD K H (.str x) v) : v = .str x := by unfold IsD at h; exact h
theorem inv_ref {a : Addr} {v : V} (h : IsD K H (.ref a) v) : v = .ref a := by unfold IsD at h; exact h
theorem inv_tup {ds : List D} {v : V} (h : IsD K H (.tup ds) v) : ∃ a xs, v = .ref a ∧ SqT K H a xs ∧ IsDs K H ds xs := by unfold IsD at h; exact h
theorem inv_fl {ds : List D} {v : V} (h : IsD K H (.fl ds) v) : ∃ a xs, v = .ref a ∧ FzL K H a xs ∧ IsDs K H ds xs := by unfold IsD at h; exact h
theorem mk_non : IsD K H .non .non := by unfold IsD; rfl
theorem mk_bl {b : Bool} : IsD K H (.bl b) (.bl b) := by unfold IsD; rfl
theorem mk_int {i : Int} : IsD K H (.int i) (.int i) := by unfold IsD; rfl
theorem mk_str {x : Str} : IsD K H (.str x) (.str x) := by unfold IsD; rfl
theorem mk_ref {a : Addr} : IsD K H (.ref a) (.ref a) := by unfold IsD; rfl
theorem mk_tup {ds : List D} {a : Addr} {xs : List V} (s : SqT K H a xs) (r : IsDs K H ds xs) : IsD K H (.tup ds) (.ref a) := by unfold IsD; exact ⟨a, xs, rfl, s, r⟩
theorem lst_of {R : List (Addr × HO)} {M : MH} {p : Addr} {ds : List D} (m : RelM K R M H) (e : M.get p = some (.lst ds)) : ∃ xs, H p = some (.lst xs) ∧ IsDs K H ds xs := m.ok p _ e
theorem tup_new {R : List (Addr × HO)} {M : MH} {Qd : KE} {Q : VK} {ds : List D} {xs : List V} {p : Addr} (m : RelM K R M H) (u : UpE K R H Qd Q) (q : Qd (.tup ds) M) (r : IsDs K H ds xs) (hp : H p = none) : Q (.ref p) (upd H p (.tup xs)) :=
  u _ M _ _ q (.new hp) (m.lay hp) (mk_tup (.inl (.inl upd_same)) (r.keep (.new hp)))
theorem lst_new {R : List (Addr × HO)} {M : MH} {Qd : KE} {Q : VK} {ds : List D} {xs : List V} {p : Addr} (m : RelM K R M H) (u : UpE K R H Qd Q) (q : ∀ r, M.get r = none → Qd (.ref r) ((r, .lst ds) :: M)) (r : IsDs K H ds xs) (hp : H p = none) : Q (.ref p) (upd H p (.lst xs)) :=
  u _ _ _ _ (q p (m.fresh hp)) (.new hp) (m.new hp ⟨xs, upd_same, r.keep (.new hp)⟩) mk_ref
theorem lst_put {R : List (Addr × HO)} {M : MH} {Qd : KE} {Q : VK} {ds es : List D} {xs ys : List V} {p : Addr} {d : D} {v : V} (m : RelM K R M H) (u : UpE K R H Qd Q) (e : M.get p = some (.lst ds)) (hp : H p = some (.lst xs)) (q : Qd d (M.put p (.lst es)))
    (r : IsDs K H es ys) (i : IsD K H d v) : Q v (upd H p (.lst ys)) := by
  have k : Keep K H (upd H p (.lst ys)) := .put hp trivial
  exact u _ _ _ _ q k (m.put e k ⟨ys, upd_same, r.keep k⟩) (i.keep k)
end

section
variable {X : Cx}
theorem od_add : OpR X (binaryOp .Add) (rD2 X.K (binD .Add)) := by
  rintro pins s σ H x y v u Q I rx ry ⟨R, M, d, e, Qd, m, ix, iy, h, up⟩
  cases d <;> cases e <;> first | exact h.elim | skip
  · cases inv_int ix; cases inv_int iy
    exact op_add pins s σ H _ _ v u Q I rx ry ⟨_, _, rfl, rfl, up _ M _ H h .rfl m mk_int⟩
  · cases inv_str ix; cases inv_str iy
    exact op_add_str pins s σ H _ _ v u Q I rx ry ⟨_, _, rfl, rfl, h.1, up _ M _ H h.2 .rfl m mk_str⟩
  · rename_i ds es
    obtain ⟨a, xs, rfl, sx, r1⟩ := inv_tup ix
    obtain ⟨b, ys, rfl, sy, r2⟩ := inv_tup iy
    refine op_catA pins s σ H _ _ v u Q I rx ry ⟨a, b, xs, ys, rfl, rfl, sx, sy, by rw [r1.length, r2.length]; exact h.1, fun e1 => ?_, fun e1 e2 => ?_, fun e1 e2 p hp => ?_⟩
    · have e1' := r1.nil_iff.mp e1
      subst e1'
      exact up _ M _ H h.2 .rfl m (mk_tup sy r2)
    · have e2' := r2.nil_iff.mp e2
      subst e2'
      have q := h.2
      rw [List.append_nil] at q
      exact up _ M _ H q .rfl m (mk_tup sx r1)
    · exact tup_new m up h.2 (r1.append r2) hp
  · obtain ⟨ds, es, e1, e2, hz, q⟩ := h
    obtain ⟨xs, h1, r1⟩ := lst_of m e1
    obtain ⟨ys, h2, r2⟩ := lst_of m e2
    cases inv_ref ix; cases inv_ref iy
    exact op_cat pins s σ H _ _ v u Q I rx ry ⟨_, _, xs, ys, rfl, rfl, h1, h2, by rw [r1.length, r2.length]; exact hz, fun p hp => lst_new m up q (r1.append r2) hp⟩
theorem od_sub : OpR X (binaryOp .Sub) (rD2 X.K (binD .Sub)) := by
  rintro pins s σ H x y v u Q I rx ry ⟨R, M, d, e, Qd, m, ix, iy, h, up⟩
  cases d <;> cases e <;> first | exact h.elim | skip
  cases inv_int ix; cases inv_int iy
  exact op_sub pins s σ H _ _ v u Q I rx ry ⟨_, _, rfl, rfl, up _ M _ H h .rfl m mk_int⟩
theorem od_fdiv : OpR X (binaryOp .FloorDiv) (rD2 X.K (binD .FloorDiv)) := by
  rintro pins s σ H x y v u Q I rx ry ⟨R, M, d, e, Qd, m, ix, iy, h, up⟩
  cases d <;> cases e <;> first | exact h.elim | skip
  cases inv_int ix; cases inv_int iy
  have rule : OpR X (binaryOp .FloorDiv) (rI DivOk fun i j => .int (i.fdiv j)) := opI fun _ _ _ _ _ _ _ hc q => floordiv_int hc.1 q (.inl hc.2)
  exact rule pins s σ H _ _ v u Q I rx ry ⟨_, _, rfl, rfl, h.1, up _ M _ H h.2 .rfl m mk_int⟩
theorem od_mod : OpR X (binaryOp .Mod) (rD2 X.K (binD .Mod)) := by
  rintro pins s σ H x y v u Q I rx ry ⟨R, M, d, e, Qd, m, ix, iy, h, up⟩
  cases d <;> cases e <;> first | exact h.elim | skip
  cases inv_int ix; cases inv_int iy
  exact op_modN pins s σ H _ _ v u Q I rx ry ⟨_, _, rfl, rfl, h.1, up _ M _ H h.2 .rfl m mk_int⟩
theorem od_pow : OpR X (binaryOp .Pow) (rD2 X.K (binD .Pow)) := by
  rintro pins s σ H x y v u Q I rx ry ⟨R, M, d, e, Qd, m, ix, iy, h, up⟩
  cases d <;> cases e <;> first | exact h.elim | skip
  cases inv_int ix; cases inv_int iy
  exact op_pow pins s σ H _ _ v u Q I rx ry ⟨_, _, rfl, rfl, h.1, up _ M _ H h.2 .rfl m mk_int⟩
theorem od_mul : OpR X (binaryOp .Mult) (rD2 X.K (binD .Mult)) := by
  rintro pins s σ H x y v u Q I rx ry ⟨R, M, d, e, Qd, m, ix, iy, h, up⟩
  cases d <;> cases e <;> first | exact h.elim | skip
  · cases inv_int ix; cases inv_int iy
    exact op_mulX pins s σ H _ _ v u Q I rx ry ⟨_, _, rfl, rfl, h.1, up _ M _ H h.2 .rfl m mk_int⟩
  · obtain ⟨a, xs, rfl, sx, r⟩ := inv_tup ix
    cases inv_int iy
    obtain ⟨h1, h2, h3, h4, h5⟩ := h
    exact op_repT pins s σ H _ _ v u Q I rx ry ⟨a, _, xs, rfl, rfl, sx, fun e => h1 (r.nil_iff.mp e), h2, h3, by rw [r.length]; exact h4, fun p hp => tup_new m up h5 (r.rep _) hp⟩
theorem ud_neg : UnR X (unaryOp .USub) (rD1 X.K fun x M Q => match x with
    | .int i => Q (.int (-i)) M
    | _ => False) := by
  rintro pins s σ H x v Q I rx ⟨R, M, d, Qd, m, ix, h, up⟩
  cases d <;> first | exact h.elim | skip
  cases inv_int ix
  exact un_neg pins s σ H _ v Q I rx ⟨_, rfl, up _ M _ H h .rfl m mk_int⟩
theorem od_bin : ∀ op : Operator, OpR X (binaryOp op) (rD2 X.K (binD op))
  | .Add => od_add
  | .Sub => od_sub
  | .Mult => od_mul
  | .FloorDiv => od_fdiv
  | .Mod => od_mod
  | .Pow => od_pow
  | .MatMult | .Div | .LShift | .RShift | .BitOr | .BitXor | .BitAnd => by
    rintro pins s σ H x y v u Q I rx ry ⟨R, M, d, e, Qd, m, ix, iy, h, up⟩
    cases d <;> cases e <;> exact h.elim
end
end Mx
namespace Mx
open PySem PySem.Spec PyProof.Rows L2 PySem.SeqAt
def okP : Nat → PyData → Bool
  | 0, _ => false
  | _ + 1, .none => true
  | _ + 1, .bool _ => true
  | _ + 1, .int _ => true
  | _ + 1, .str _ => true
  | n + 1, .list xs => xs.all (okP n)
  | n + 1, .tuple xs => xs.all (okP n)
  | _ + 1, .dict _ => false
theorem uniqP {hp : Heap} : ∀ (n : Nat) {p q : PyData} {u : Value} {l1 l2 : List Addr}, okP n p = true → Reads hp u p l1 → Reads hp u q l2 → p = q := by
  intro n
  induction n with
  | zero => intro p q u l1 l2 ok; cases ok
  | succ n ih =>
    have all : ∀ (ps qs : List PyData) (us : List Value) (l1 l2 : List Addr), ps.all (okP n) = true → ReadsAll hp us ps l1 → ReadsAll hp us qs l2 → ps = qs := by
      intro ps
      induction ps with
      | nil => intro qs us l1 l2 _ a b; cases a; cases b; rfl
      | cons p ps ihp =>
        intro qs us l1 l2 ok a b
        rw [List.all_cons, Bool.and_eq_true] at ok
        cases a with
        | cons a1 a2 =>
          cases b with
          | cons b1 b2 => rw [ih ok.1 a1 b1, ihp _ _ _ _ ok.2 a2 b2]
    intro p q u l1 l2 ok a b
    cases a with
    | none => cases b; rfl
    | bool _ => cases b; rfl
    | int _ _ => cases b; rfl
    | str _ _ => cases b; rfl
    | list a1 a2 a3 a4 =>
      cases b with
      | list b1 b2 b3 b4 =>
        rw [a1] at b1; cases b1
        rw [a3] at b3; cases b3
        rw [all _ _ _ _ _ ok a4 b4]
      | tuple b1 b2 => rw [a1] at b1; cases b1; rw [a2] at b2; simp at b2
      | dict b1 b2 => rw [a1] at b1; cases b1; rw [a2] at b2; simp at b2
    | tuple a1 a2 a3 a4 =>
      cases b with
      | tuple b1 b2 b3 b4 =>
        rw [a1] at b1; cases b1
        rw [a3] at b3; cases b3
        rw [all _ _ _ _ _ ok a4 b4]
      | list b1 b2 => rw [a1] at b1; cases b1; rw [a2] at b2; simp at b2
      | dict b1 b2 => rw [a1] at b1; cases b1; rw [a2] at b2; simp at b2
    | dict => cases ok
theorem reflP : ∀ (n : Nat) {p : PyData}, okP n p = true → PyData.eqv p p = true := by
  intro n
  induction n with
  | zero => intro p ok; cases ok
  | succ n ih =>
    have all : ∀ (ps : List PyData), ps.all (okP n) = true → PyData.eqvAll ps ps = true := by
      intro ps
      induction ps with
      | nil => intro _; rfl
      | cons p ps ihp =>
        intro ok
        rw [List.all_cons, Bool.and_eq_true] at ok
        rw [PyData.eqvAll, ih ok.1, ihp ok.2]; rfl
    intro p ok
    cases p with
    | none => rfl
    | bool b => simp [PyData.eqv]
    | int b => simp [PyData.eqv]
    | str b => simp [PyData.eqv]
    | list xs => rw [PyData.eqv]; exact all xs ok
    | tuple xs => rw [PyData.eqv]; exact all xs ok
    | dict _ => cases ok
section
variable {A : Around} {s : Shared}
def Down (n : Nat) : Prop := ∀ {A : Around} {s : Shared} {p q : PyData} {u v : Value} {l1 l2 : List Addr}, okP n p = true → okP n q = true → A.units + n < cLine → Reads s.heap u p l1 → Reads s.heap v q l2 → EqAt A s u v (PyData.eqv p q)
theorem down_all {n : Nat} (ih : Down n) (hu : A.units + n < cLine) : ∀ (ps qs : List PyData) (us vs : List Value) (l1 l2 : List Addr), ps.all (okP n) = true → qs.all (okP n) = true → ReadsAll s.heap us ps l1 → ReadsAll s.heap vs qs l2 →
    ∀ j (j1 : j < us.length) (j2 : j < vs.length), EqAt A s us[j] vs[j] (pairEq ps qs j)
  | [], _, _, _, _, _, _, _, a, _, j, j1, _ => by cases a; exact absurd j1 (Nat.not_lt_zero _)
  | _ :: _, [], _, _, _, _, _, _, _, b, j, _, j2 => by cases b; exact absurd j2 (Nat.not_lt_zero _)
  | p :: ps, q :: qs, _, _, _, _, ok1, ok2, a, b, j, j1, j2 => by
    rw [List.all_cons, Bool.and_eq_true] at ok1 ok2
    cases a with
    | cons a1 a2 =>
      cases b with
      | cons b1 b2 =>
        cases j with
        | zero => exact ih ok1.1 ok2.1 hu a1 b1
        | succ j => exact down_all ih hu ps qs _ _ _ _ ok1.2 ok2.2 a2 b2 j (Nat.lt_of_succ_lt_succ j1) (Nat.lt_of_succ_lt_succ j2)
theorem rows_list {n : Nat} (ih : Down n) (hu : A.units + (n + 1) < cLine) {ps qs : List PyData} {u v : Addr} {o o' : Obj} {us vs : Array Value} {k k' : Nat} {l1 l2 : List Addr} (ok1 : ps.all (okP n) = true) (ok2 : qs.all (okP n) = true)
    (a1 : s.heap.get? u = some o) (a2 : o.cls = .type "list") (a3 : o.data = .seq us k) (a4 : ReadsAll s.heap us.toList ps l1) (b1 : s.heap.get? v = some o') (b2 : o'.cls = .type "list") (b3 : o'.data = .seq vs k') (b4 : ReadsAll s.heap vs.toList qs l2) :
    RcAt A s (.ref u) (.ref v) (PyData.eqvAll ps qs) := by
  have hA : A.units < cLine := by omega
  have m1 : us.size = ps.length := by simpa using ReadsAll.length _ _ _ a4
  have m2 : vs.size = qs.length := by simpa using ReadsAll.length _ _ _ b4
  by_cases hz : us.size = vs.size
  · have e := eqvAll_same_length (xs := ps) (ys := qs) (by omega)
    rw [← e, ← m1]
    refine RcAt.lists ⟨_, a1, a2, _, a3⟩ ⟨_, b1, b2, _, b3⟩ hz hA fun j j1 j2 => ?_
    have q := down_all (A := A.in1) ih (by show A.units + 1 + n < cLine; omega) ps qs _ _ _ _ ok1 ok2 a4 b4 j (by simpa using j1) (by simpa using j2)
    simpa using q
  · rw [eqvAll_other_length (xs := ps) (ys := qs) (by omega)]
    exact RcAt.lists_lengths ⟨_, a1, a2, _, a3⟩ ⟨_, b1, b2, _, b3⟩ (by simpa using hz) hA
theorem rows_tup {n : Nat} (ih : Down n) (hu : A.units + (n + 1) < cLine) {ps qs : List PyData} {u v : Addr} {o o' : Obj} {us vs : Array Value} {k k' : Nat} {l1 l2 : List Addr} (ok1 : ps.all (okP n) = true) (ok2 : qs.all (okP n) = true)
    (a1 : s.heap.get? u = some o) (a2 : o.cls = .type "tuple") (a3 : o.data = .seq us k) (a4 : ReadsAll s.heap us.toList ps l1) (b1 : s.heap.get? v = some o') (b2 : o'.cls = .type "tuple") (b3 : o'.data = .seq vs k') (b4 : ReadsAll s.heap vs.toList qs l2) :
    RcAt A s (.ref u) (.ref v) (PyData.eqvAll ps qs) := by
  have hA : A.units < cLine := by omega
  have m1 : us.size = ps.length := by simpa using ReadsAll.length _ _ _ a4
  have m2 : vs.size = qs.length := by simpa using ReadsAll.length _ _ _ b4
  rw [← eqvAll_eq ps qs, ← m1, ← m2]
  refine RcAt.tuples ⟨_, a1, a2, _, a3⟩ ⟨_, b1, b2, _, b3⟩ hA fun j j1 j2 => ?_
  have q := down_all (A := A.in1) ih (by show A.units + 1 + n < cLine; omega) ps qs _ _ _ _ ok1 ok2 a4 b4 j (by simpa using j1) (by simpa using j2)
  simpa using q
end
theorem eqP : ∀ n, Down n := by
  intro n
  induction n with
  | zero => intro A s p q u v l1 l2 ok; cases ok
  | succ n ih =>
    intro A s p q u v l1 l2 ok1 ok2 hu a b
    have hA : A.units < cLine := by omega
    have a0 := a
    have b0 := b
    cases a with
    | dict => cases ok1
    | none =>
      cases b with
      | none => exact EqAt.same _
      | bool _ => exact EqAt.none_bool _
      | int _ _ => exact EqAt.none_int _ _
      | str _ _ => exact EqAt.none_str _ _
      | list z1 z2 z3 z4 => exact EqAt.none_list ⟨_, z1, z2, _, z3⟩ hA
      | tuple z1 z2 z3 z4 => exact EqAt.none_tuple ⟨_, z1, z2, _, z3⟩ hA
      | dict => cases ok2
    | bool y =>
      cases b with
      | none => exact EqAt.bool_none _
      | bool _ => exact EqAt.bool_bool _ _
      | int _ _ => exact EqAt.bool_int _ _ _
      | str _ _ => exact EqAt.bool_str _ _ _
      | list z1 z2 z3 z4 => exact EqAt.bool_list _ ⟨_, z1, z2, _, z3⟩ hA
      | tuple z1 z2 z3 z4 => exact EqAt.bool_tuple _ ⟨_, z1, z2, _, z3⟩ hA
      | dict => cases ok2
    | int y t =>
      cases b with
      | none => exact EqAt.int_none _ _
      | bool _ => exact EqAt.int_bool _ _ _
      | int _ _ => exact EqAt.int_int _ _ _ _
      | str _ _ => exact EqAt.int_str _ _ _ _
      | list z1 z2 z3 z4 => exact EqAt.int_list _ _ ⟨_, z1, z2, _, z3⟩ hA
      | tuple z1 z2 z3 z4 => exact EqAt.int_tuple _ _ ⟨_, z1, z2, _, z3⟩ hA
      | dict => cases ok2
    | str y t =>
      cases b with
      | none => exact EqAt.str_none _ _
      | bool _ => exact EqAt.str_bool _ _ _
      | int _ _ => exact EqAt.str_int _ _ _ _
      | str _ _ => exact EqAt.str_str _ _ _ _
      | list z1 z2 z3 z4 => exact EqAt.str_list _ _ ⟨_, z1, z2, _, z3⟩ hA
      | tuple z1 z2 z3 z4 => exact EqAt.str_tuple _ _ ⟨_, z1, z2, _, z3⟩ hA
      | dict => cases ok2
    | @list la o us k ps as1 a1 a2 a3 a4 =>
      cases b with
      | none => exact EqAt.list_none ⟨_, a1, a2, _, a3⟩ hA
      | bool _ => exact EqAt.list_bool _ ⟨_, a1, a2, _, a3⟩ hA
      | int _ _ => exact EqAt.list_int _ _ ⟨_, a1, a2, _, a3⟩ hA
      | str _ _ => exact EqAt.list_str _ _ ⟨_, a1, a2, _, a3⟩ hA
      | dict => cases ok2
      | tuple b1 b2 b3 b4 => exact EqAt.list_tuple ⟨_, a1, a2, _, a3⟩ ⟨_, b1, b2, _, b3⟩ hA
      | @list lb o' vs k' qs bs1 b1 b2 b3 b4 =>
        by_cases e : la = lb
        · subst e
          have e2 := uniqP (n + 1) ok1 a0 b0
          rw [← e2, reflP (n + 1) ok1]
          exact EqAt.same _
        · exact EqAt.of_refs e (rows_list ih hu ok1 ok2 a1 a2 a3 a4 b1 b2 b3 b4)
    | @tuple la o us k ps as1 a1 a2 a3 a4 =>
      cases b with
      | none => exact EqAt.tuple_none ⟨_, a1, a2, _, a3⟩ hA
      | bool _ => exact EqAt.tuple_bool _ ⟨_, a1, a2, _, a3⟩ hA
      | int _ _ => exact EqAt.tuple_int _ _ ⟨_, a1, a2, _, a3⟩ hA
      | str _ _ => exact EqAt.tuple_str _ _ ⟨_, a1, a2, _, a3⟩ hA
      | dict => cases ok2
      | list b1 b2 b3 b4 => exact EqAt.tuple_list ⟨_, a1, a2, _, a3⟩ ⟨_, b1, b2, _, b3⟩ hA
      | @tuple lb o' vs k' qs bs1 b1 b2 b3 b4 =>
        by_cases e : la = lb
        · subst e
          have e2 := uniqP (n + 1) ok1 a0 b0
          rw [← e2, reflP (n + 1) ok1]
          exact EqAt.same _
        · exact EqAt.of_refs e (rows_tup ih hu ok1 ok2 a1 a2 a3 a4 b1 b2 b3 b4)
theorem rcP {A : Around} {s : Shared} (n : Nat) {p q : PyData} {u v : Value} {l1 l2 : List Addr} (ok1 : okP (n + 1) p = true) (ok2 : okP (n + 1) q = true) (hu : A.units + (n + 1) < cLine) (a : Reads s.heap u p l1) (b : Reads s.heap v q l2) :
    RcAt A s u v (PyData.eqv p q) := by
  have hA : A.units < cLine := by omega
  cases a with
  | dict => cases ok1
  | none =>
    cases b with
    | none => exact RcAt.none_none
    | bool _ => exact RcAt.none_bool _
    | int _ _ => exact RcAt.none_int _ _
    | str _ _ => exact RcAt.none_str _ _
    | list z1 z2 z3 z4 => exact RcAt.none_list ⟨_, z1, z2, _, z3⟩ hA
    | tuple z1 z2 z3 z4 => exact RcAt.none_tuple ⟨_, z1, z2, _, z3⟩ hA
    | dict => cases ok2
  | bool y =>
    cases b with
    | none => exact RcAt.bool_none _
    | bool _ => exact RcAt.bool_bool _ _
    | int _ _ => exact RcAt.bool_int _ _ _
    | str _ _ => exact RcAt.bool_str _ _ _
    | list z1 z2 z3 z4 => exact RcAt.bool_list _ ⟨_, z1, z2, _, z3⟩ hA
    | tuple z1 z2 z3 z4 => exact RcAt.bool_tuple _ ⟨_, z1, z2, _, z3⟩ hA
    | dict => cases ok2
  | int y t =>
    cases b with
    | none => exact RcAt.int_none _ _
    | bool _ => exact RcAt.int_bool _ _ _
    | int _ _ => exact RcAt.int_int _ _ _ _
    | str _ _ => exact RcAt.int_str _ _ _ _
    | list z1 z2 z3 z4 => exact RcAt.int_list _ _ ⟨_, z1, z2, _, z3⟩ hA
    | tuple z1 z2 z3 z4 => exact RcAt.int_tuple _ _ ⟨_, z1, z2, _, z3⟩ hA
    | dict => cases ok2
  | str y t =>
    cases b with
    | none => exact RcAt.str_none _ _
    | bool _ => exact RcAt.str_bool _ _ _
    | int _ _ => exact RcAt.str_int _ _ _ _
    | str _ _ => exact RcAt.str_str _ _ _ _
    | list z1 z2 z3 z4 => exact RcAt.str_list _ _ ⟨_, z1, z2, _, z3⟩ hA
    | tuple z1 z2 z3 z4 => exact RcAt.str_tuple _ _ ⟨_, z1, z2, _, z3⟩ hA
    | dict => cases ok2
  | list a1 a2 a3 a4 =>
    cases b with
    | none => exact RcAt.list_none ⟨_, a1, a2, _, a3⟩ hA
    | bool _ => exact RcAt.list_bool _ ⟨_, a1, a2, _, a3⟩ hA
    | int _ _ => exact RcAt.list_int _ _ ⟨_, a1, a2, _, a3⟩ hA
    | str _ _ => exact RcAt.list_str _ _ ⟨_, a1, a2, _, a3⟩ hA
    | dict => cases ok2
    | tuple b1 b2 b3 b4 => exact RcAt.list_tuple ⟨_, a1, a2, _, a3⟩ ⟨_, b1, b2, _, b3⟩ hA
    | list b1 b2 b3 b4 => exact rows_list (eqP n) hu ok1 ok2 a1 a2 a3 a4 b1 b2 b3 b4
  | tuple a1 a2 a3 a4 =>
    cases b with
    | none => exact RcAt.tuple_none ⟨_, a1, a2, _, a3⟩ hA
    | bool _ => exact RcAt.tuple_bool _ ⟨_, a1, a2, _, a3⟩ hA
    | int _ _ => exact RcAt.tuple_int _ _ ⟨_, a1, a2, _, a3⟩ hA
    | str _ _ => exact RcAt.tuple_str _ _ ⟨_, a1, a2, _, a3⟩ hA
    | dict => cases ok2
    | list b1 b2 b3 b4 => exact RcAt.tuple_list ⟨_, a1, a2, _, a3⟩ ⟨_, b1, b2, _, b3⟩ hA
    | tuple b1 b2 b3 b4 => exact rows_tup (eqP n) hu ok1 ok2 a1 a2 a3 a4 b1 b2 b3 b4
section
variable {A : Around} {s : Shared}
theorem nows_list {n : Nat} (ih : Down n) (hu : A.units + (n + 1) < cLine) {ps qs : List PyData} {u v : Addr} {o o' : Obj} {us vs : Array Value} {k k' : Nat} {l1 l2 : List Addr} (ok1 : ps.all (okP n) = true) (ok2 : qs.all (okP n) = true)
    (a1 : s.heap.get? u = some o) (a2 : o.cls = .type "list") (a3 : o.data = .seq us k) (a4 : ReadsAll s.heap us.toList ps l1) (b1 : s.heap.get? v = some o') (b2 : o'.cls = .type "list") (b3 : o'.data = .seq vs k') (b4 : ReadsAll s.heap vs.toList qs l2) :
    RcNeAt A s (.ref u) (.ref v) (!PyData.eqvAll ps qs) := by
  have hA : A.units < cLine := by omega
  have m1 : us.size = ps.length := by simpa using ReadsAll.length _ _ _ a4
  have m2 : vs.size = qs.length := by simpa using ReadsAll.length _ _ _ b4
  by_cases hz : us.size = vs.size
  · have e := eqvAll_same_length (xs := ps) (ys := qs) (by omega)
    rw [← e, ← m1]
    refine RcNeAt.lists ⟨_, a1, a2, _, a3⟩ ⟨_, b1, b2, _, b3⟩ hz hA fun j j1 j2 => ?_
    have q := down_all (A := A.in1) ih (by show A.units + 1 + n < cLine; omega) ps qs _ _ _ _ ok1 ok2 a4 b4 j (by simpa using j1) (by simpa using j2)
    simpa using q
  · rw [eqvAll_other_length (xs := ps) (ys := qs) (by omega)]
    exact RcNeAt.lists_lengths ⟨_, a1, a2, _, a3⟩ ⟨_, b1, b2, _, b3⟩ (by simpa using hz) hA
theorem nows_tup {n : Nat} (ih : Down n) (hu : A.units + (n + 1) < cLine) {ps qs : List PyData} {u v : Addr} {o o' : Obj} {us vs : Array Value} {k k' : Nat} {l1 l2 : List Addr} (ok1 : ps.all (okP n) = true) (ok2 : qs.all (okP n) = true)
    (a1 : s.heap.get? u = some o) (a2 : o.cls = .type "tuple") (a3 : o.data = .seq us k) (a4 : ReadsAll s.heap us.toList ps l1) (b1 : s.heap.get? v = some o') (b2 : o'.cls = .type "tuple") (b3 : o'.data = .seq vs k') (b4 : ReadsAll s.heap vs.toList qs l2) :
    RcNeAt A s (.ref u) (.ref v) (!PyData.eqvAll ps qs) := by
  have hA : A.units < cLine := by omega
  have m1 : us.size = ps.length := by simpa using ReadsAll.length _ _ _ a4
  have m2 : vs.size = qs.length := by simpa using ReadsAll.length _ _ _ b4
  rw [← eqvAll_eq ps qs, ← m1, ← m2]
  refine RcNeAt.tuples ⟨_, a1, a2, _, a3⟩ ⟨_, b1, b2, _, b3⟩ hA fun j j1 j2 => ?_
  have q := down_all (A := A.in1) ih (by show A.units + 1 + n < cLine; omega) ps qs _ _ _ _ ok1 ok2 a4 b4 j (by simpa using j1) (by simpa using j2)
  simpa using q
end
theorem rneP {A : Around} {s : Shared} (n : Nat) {p q : PyData} {u v : Value} {l1 l2 : List Addr} (ok1 : okP (n + 1) p = true) (ok2 : okP (n + 1) q = true) (hu : A.units + (n + 1) < cLine) (a : Reads s.heap u p l1) (b : Reads s.heap v q l2) :
    RcNeAt A s u v (!PyData.eqv p q) := by
  have hA : A.units < cLine := by omega
  cases a with
  | dict => cases ok1
  | none =>
    cases b with
    | none => exact RcNeAt.none_none
    | bool _ => exact RcNeAt.none_bool _
    | int _ _ => exact RcNeAt.none_int _ _
    | str _ _ => exact RcNeAt.none_str _ _
    | list z1 z2 z3 z4 => exact RcNeAt.none_list ⟨_, z1, z2, _, z3⟩ hA
    | tuple z1 z2 z3 z4 => exact RcNeAt.none_tuple ⟨_, z1, z2, _, z3⟩ hA
    | dict => cases ok2
  | bool y =>
    cases b with
    | none => exact RcNeAt.bool_none _
    | bool _ => exact RcNeAt.bool_bool _ _
    | int _ _ => exact RcNeAt.bool_int _ _ _
    | str _ _ => exact RcNeAt.bool_str _ _ _
    | list z1 z2 z3 z4 => exact RcNeAt.bool_list _ ⟨_, z1, z2, _, z3⟩ hA
    | tuple z1 z2 z3 z4 => exact RcNeAt.bool_tuple _ ⟨_, z1, z2, _, z3⟩ hA
    | dict => cases ok2
  | int y t =>
    cases b with
    | none => exact RcNeAt.int_none _ _
    | bool _ => exact RcNeAt.int_bool _ _ _
    | int _ _ => exact RcNeAt.int_int _ _ _ _
    | str _ _ => exact RcNeAt.int_str _ _ _ _
    | list z1 z2 z3 z4 => exact RcNeAt.int_list _ _ ⟨_, z1, z2, _, z3⟩ hA
    | tuple z1 z2 z3 z4 => exact RcNeAt.int_tuple _ _ ⟨_, z1, z2, _, z3⟩ hA
    | dict => cases ok2
  | str y t =>
    cases b with
    | none => exact RcNeAt.str_none _ _
    | bool _ => exact RcNeAt.str_bool _ _ _
    | int _ _ => exact RcNeAt.str_int _ _ _ _
    | str _ _ => exact RcNeAt.str_str _ _ _ _
    | list z1 z2 z3 z4 => exact RcNeAt.str_list _ _ ⟨_, z1, z2, _, z3⟩ hA
    | tuple z1 z2 z3 z4 => exact RcNeAt.str_tuple _ _ ⟨_, z1, z2, _, z3⟩ hA
    | dict => cases ok2
  | list a1 a2 a3 a4 =>
    cases b with
    | none => exact RcNeAt.list_none ⟨_, a1, a2, _, a3⟩ hA
    | bool _ => exact RcNeAt.list_bool _ ⟨_, a1, a2, _, a3⟩ hA
    | int _ _ => exact RcNeAt.list_int _ _ ⟨_, a1, a2, _, a3⟩ hA
    | str _ _ => exact RcNeAt.list_str _ _ ⟨_, a1, a2, _, a3⟩ hA
    | dict => cases ok2
    | tuple b1 b2 b3 b4 => exact RcNeAt.list_tuple ⟨_, a1, a2, _, a3⟩ ⟨_, b1, b2, _, b3⟩ hA
    | list b1 b2 b3 b4 => exact nows_list (eqP n) hu ok1 ok2 a1 a2 a3 a4 b1 b2 b3 b4
  | tuple a1 a2 a3 a4 =>
    cases b with
    | none => exact RcNeAt.tuple_none ⟨_, a1, a2, _, a3⟩ hA
    | bool _ => exact RcNeAt.tuple_bool _ ⟨_, a1, a2, _, a3⟩ hA
    | int _ _ => exact RcNeAt.tuple_int _ _ ⟨_, a1, a2, _, a3⟩ hA
    | str _ _ => exact RcNeAt.tuple_str _ _ ⟨_, a1, a2, _, a3⟩ hA
    | dict => cases ok2
    | list b1 b2 b3 b4 => exact RcNeAt.tuple_list ⟨_, a1, a2, _, a3⟩ ⟨_, b1, b2, _, b3⟩ hA
    | tuple b1 b2 b3 b4 => exact nows_tup (eqP n) hu ok1 ok2 a1 a2 a3 a4 b1 b2 b3 b4
theorem reads_of {X : Cx} {pins : List (Addr × Obj)} {σ : L2.St} {H : Hp} {s : Shared} {R : List (Addr × HO)} {M : MH} (I : Inv X pins σ H s) (m : RelM X.K R M H) :
    ∀ (n : Nat) {d : D} {v : V} {u : Value} {p : PyData}, pyOf M n d = some p → IsD X.K H d v → RelV v u → okP n p = true ∧ ∃ as, Reads s.heap u p as := by
  intro n
  induction n with
  | zero => intro d v u p e; cases e
  | succ n ih =>
    have all : ∀ (ds : List D) (vs : List V) (us : List Value) (ps : List PyData), ds.mapM (pyOf M n) = some ps → IsDs X.K H ds vs → Vals vs us → ps.all (okP n) = true ∧ ∃ as, ReadsAll s.heap us ps as := by
      intro ds
      induction ds with
      | nil =>
        intro vs us ps e i r
        rw [List.mapM_nil] at e
        cases e
        rw [i.inv_nil] at r
        cases r
        exact ⟨rfl, _, .nil⟩
      | cons d ds ihd =>
        intro vs us ps e i r
        obtain ⟨x, ys, rfl, i1, i2⟩ := i.inv
        rw [List.mapM_cons] at e
        cases e1 : pyOf M n d with
        | none => rw [e1] at e; cases e
        | some q =>
          rw [e1] at e
          cases e2 : ds.mapM (pyOf M n) with
          | none => rw [e2] at e; cases e
          | some qs =>
            rw [e2] at e
            cases e
            cases r with
            | cons r1 r2 =>
              obtain ⟨o1, as, h1⟩ := ih e1 i1 r1
              obtain ⟨o2, bs, h2⟩ := ihd _ _ _ e2 i2 r2
              exact ⟨by rw [List.all_cons, o1, o2]; rfl, _, .cons h1 h2⟩
    intro d v u p e i r
    cases d with
    | non => cases e; cases inv_non i; cases r; exact ⟨rfl, _, .none⟩
    | bl b => cases e; cases inv_bl i; cases r; exact ⟨rfl, _, .bool b⟩
    | int b => cases e; cases inv_int i; obtain ⟨t, rfl⟩ := r; exact ⟨rfl, _, .int b t⟩
    | str b => cases e; cases inv_str i; obtain ⟨t, rfl⟩ := r; exact ⟨rfl, _, .str b t⟩
    | tup ds =>
      obtain ⟨a, xs, rfl, sx, i1⟩ := inv_tup i
      cases r
      have e' : (ds.mapM (pyOf M n)).map PyData.tuple = some p := e
      cases e2 : ds.mapM (pyOf M n) with
      | none => rw [e2] at e'; cases e'
      | some qs =>
        rw [e2] at e'
        cases e'
        obtain ⟨its, rv, ⟨o, ho, hc, k, hd⟩, _⟩ := I.tuple sx
        obtain ⟨o2, as, h2⟩ := all ds xs its qs e2 i1 rv
        exact ⟨o2, _, .tuple ho hc hd h2⟩
    | fl ds =>
      obtain ⟨a, xs, rfl, sx, i1⟩ := inv_fl i
      cases r
      have e' : (ds.mapM (pyOf M n)).map PyData.list = some p := e
      cases e2 : ds.mapM (pyOf M n) with
      | none => rw [e2] at e'; cases e'
      | some qs =>
        rw [e2] at e'
        cases e'
        obtain ⟨its, rv, ⟨o, k, ho, hc, _, hd⟩, _⟩ := I.list sx.sq
        obtain ⟨o2, as, h2⟩ := all ds xs its qs e2 i1 rv
        exact ⟨o2, _, .list ho hc hd h2⟩
    | ref a =>
      cases inv_ref i
      cases r
      have e' : (match M.get a with
        | some (.lst ds) => (ds.mapM (pyOf M n)).map PyData.list
        | _ => none) = some p := e
      cases g : M.get a with
      | none => rw [g] at e'; cases e'
      | some o =>
        rw [g] at e'
        cases o with
        | ins C fs => cases e'
        | lst ds =>
          cases e2 : ds.mapM (pyOf M n) with
          | none =>
            have e3 : (ds.mapM (pyOf M n)).map PyData.list = some p := e'
            rw [e2] at e3; cases e3
          | some qs =>
            have e3 : (ds.mapM (pyOf M n)).map PyData.list = some p := e'
            rw [e2] at e3
            cases e3
            obtain ⟨xs, hx, i1⟩ := lst_of m g
            obtain ⟨its, rv, ⟨o, k, ho, hc, _, hd⟩, _⟩ := I.list (SqL.of hx)
            obtain ⟨o2, as, h2⟩ := all ds xs its qs e2 i1 rv
            exact ⟨o2, _, .list ho hc hd h2⟩
end Mx
namespace Mx
open PySem PySem.Spec PyProof.Rows L2 PySem.SeqAt
section
variable {X : Cx}
def cmpQ (op : CmpOp) : D → D → MH → KE → Prop := fun x y M Q => cmpD op x y M fun k => Q (.bl k) M
theorem scal_of {K : PySem.W.Frag} {H : Hp} {d e : D} {x y : V} {b : Bool} (h : scalD d e = some b) (i : IsD K H d x) (j : IsD K H e y) : scal x y = true ∧ decide (x = y) = b := by
  cases d <;> cases e <;> first | (cases h; done) | skip
  · cases inv_non i; cases inv_non j; cases h; exact ⟨rfl, rfl⟩
  · cases inv_bl i; cases inv_bl j; cases h
    refine ⟨rfl, ?_⟩
    rw [dec_bl]; rw [Bool.beq_eq_decide_eq]
  · cases inv_int i; cases inv_int j; cases h
    refine ⟨rfl, ?_⟩
    rw [dec_int, Bool.beq_eq_decide_eq]
  · cases inv_str i; cases inv_str j; cases h
    refine ⟨rfl, ?_⟩
    rw [dec_str]
    exact Bool.beq_eq_decide_eq _ _
theorem od_eq (hu : X.A.units + 64 < cLine) : OpR X (compareOp .Eq) (rD2 X.K (cmpQ .Eq)) := by
  rintro pins s σ H x y v u Q I rx ry ⟨R, M, d, e, Qd, m, ix, iy, h, up⟩
  have h' : eqD d e M fun k => Qd (.bl k) M := h
  unfold eqD at h'
  cases g : scalD d e with
  | some b =>
    rw [g] at h'
    obtain ⟨s1, s2⟩ := scal_of g ix iy
    refine op_eq pins s σ H x y v u Q I rx ry ⟨s1, ?_⟩
    rw [s2]
    exact up _ M _ H h' .rfl m mk_bl
  | none =>
    rw [g] at h'
    obtain ⟨pa, pb, e1, e2, q⟩ := h'
    obtain ⟨o1, as, r1⟩ := reads_of I m 40 e1 ix rx
    obtain ⟨o2, bs, r2⟩ := reads_of I m 40 e2 iy ry
    exact rcP 39 o1 o2 (by omega) r1 r2 X.prog X.w X.xe _ ⟨.bl _, H, I, rfl, up _ M _ H q .rfl m mk_bl⟩
theorem od_ne (hu : X.A.units + 64 < cLine) : OpR X (compareOp .NotEq) (rD2 X.K (cmpQ .NotEq)) := by
  rintro pins s σ H x y v u Q I rx ry ⟨R, M, d, e, Qd, m, ix, iy, h, up⟩
  have h' : eqD d e M fun k => Qd (.bl (!k)) M := h
  unfold eqD at h'
  cases g : scalD d e with
  | some b =>
    rw [g] at h'
    obtain ⟨s1, s2⟩ := scal_of g ix iy
    refine op_ne pins s σ H x y v u Q I rx ry ⟨s1, ?_⟩
    rw [s2]
    exact up _ M _ H h' .rfl m mk_bl
  | none =>
    rw [g] at h'
    obtain ⟨pa, pb, e1, e2, q⟩ := h'
    obtain ⟨o1, as, r1⟩ := reads_of I m 40 e1 ix rx
    obtain ⟨o2, bs, r2⟩ := reads_of I m 40 e2 iy ry
    exact rneP 39 o1 o2 (by omega) r1 r2 X.prog X.w X.xe _ ⟨.bl _, H, I, rfl, up _ M _ H q .rfl m mk_bl⟩
theorem od_lt : OpR X (compareOp .Lt) (rD2 X.K (cmpQ .Lt)) := by
  rintro pins s σ H x y v u Q I rx ry ⟨R, M, d, e, Qd, m, ix, iy, h, up⟩
  cases d <;> cases e <;> first | exact (show False from h).elim | skip
  cases inv_int ix; cases inv_int iy
  exact op_lt pins s σ H _ _ v u Q I rx ry ⟨_, _, rfl, rfl, up _ M _ H h .rfl m mk_bl⟩
theorem od_le : OpR X (compareOp .LtE) (rD2 X.K (cmpQ .LtE)) := by
  rintro pins s σ H x y v u Q I rx ry ⟨R, M, d, e, Qd, m, ix, iy, h, up⟩
  cases d <;> cases e <;> first | exact (show False from h).elim | skip
  cases inv_int ix; cases inv_int iy
  exact op_le pins s σ H _ _ v u Q I rx ry ⟨_, _, rfl, rfl, up _ M _ H h .rfl m mk_bl⟩
theorem od_gt : OpR X (compareOp .Gt) (rD2 X.K (cmpQ .Gt)) := by
  rintro pins s σ H x y v u Q I rx ry ⟨R, M, d, e, Qd, m, ix, iy, h, up⟩
  cases d <;> cases e <;> first | exact (show False from h).elim | skip
  cases inv_int ix; cases inv_int iy
  exact op_gt pins s σ H _ _ v u Q I rx ry ⟨_, _, rfl, rfl, up _ M _ H h .rfl m mk_bl⟩
theorem od_ge : OpR X (compareOp .GtE) (rD2 X.K (cmpQ .GtE)) := by
  rintro pins s σ H x y v u Q I rx ry ⟨R, M, d, e, Qd, m, ix, iy, h, up⟩
  cases d <;> cases e <;> first | exact (show False from h).elim | skip
  cases inv_int ix; cases inv_int iy
  exact op_ge pins s σ H _ _ v u Q I rx ry ⟨_, _, rfl, rfl, up _ M _ H h .rfl m mk_bl⟩
theorem non_iff {K : PySem.W.Frag} {H : Hp} {d : D} {x : V} (i : IsD K H d x) : decide (x = .non) = (match d with | .non => true | _ => false) := by
  cases d with
  | non => cases inv_non i; rfl
  | bl _ => cases inv_bl i; rfl
  | int _ => cases inv_int i; rfl
  | str _ => cases inv_str i; rfl
  | ref _ => cases inv_ref i; rfl
  | tup _ => obtain ⟨a, xs, rfl, _⟩ := inv_tup i; rfl
  | fl _ => obtain ⟨a, xs, rfl, _⟩ := inv_fl i; rfl
theorem od_is : OpR X (compareOp .Is) (rD2 X.K (cmpQ .Is)) := by
  rintro pins s σ H x y v u Q I rx ry ⟨R, M, d, e, Qd, m, ix, iy, h, up⟩
  cases e <;> first | exact (show False from h).elim | skip
  cases inv_non iy
  refine op_isN pins s σ H x _ v u Q I rx ry ⟨rfl, ?_⟩
  rw [non_iff ix]
  cases d <;> exact up _ M _ H h .rfl m mk_bl
theorem od_isnot : OpR X (compareOp .IsNot) (rD2 X.K (cmpQ .IsNot)) := by
  rintro pins s σ H x y v u Q I rx ry ⟨R, M, d, e, Qd, m, ix, iy, h, up⟩
  cases e <;> first | exact (show False from h).elim | skip
  cases inv_non iy
  refine op_notN pins s σ H x _ v u Q I rx ry ⟨rfl, ?_⟩
  rw [non_iff ix]
  cases d <;> exact up _ M _ H h .rfl m mk_bl
theorem seq_of {K : PySem.W.Frag} {R : List (Addr × HO)} {M : MH} {H : Hp} {d : D} {x : V} {k : List D → Prop} (m : RelM K R M H) (i : IsD K H d x) (h : seqD d M k) :
    ∃ a xs ds, x = .ref a ∧ (SqL K H a xs ∨ SqT K H a xs) ∧ IsDs K H ds xs ∧ k ds ∧ ((∃ es, d = .tup es) ↔ SqT K H a xs ∧ d = .tup ds) := by
  cases d with
  | tup ds =>
    obtain ⟨a, xs, rfl, sx, r⟩ := inv_tup i
    exact ⟨a, xs, ds, rfl, .inr sx, r, h, ⟨fun _ => ⟨sx, rfl⟩, fun _ => ⟨_, rfl⟩⟩⟩
  | fl ds =>
    obtain ⟨a, xs, rfl, sx, r⟩ := inv_fl i
    exact ⟨a, xs, ds, rfl, .inl sx.sq, r, h, ⟨fun ⟨es, z⟩ => (nomatch z), fun z => (nomatch z.2)⟩⟩
  | ref p =>
    cases inv_ref i
    have h' : (match M.get p with
      | some (.lst ds) => k ds
      | _ => False) := h
    cases g : M.get p with
    | none => rw [g] at h'; exact h'.elim
    | some o =>
      rw [g] at h'
      cases o with
      | ins C fs => exact (show False from h').elim
      | lst ds =>
        obtain ⟨xs, hx, r⟩ := lst_of m g
        exact ⟨p, xs, ds, rfl, .inl (SqL.of hx), r, h', ⟨fun ⟨es, z⟩ => (nomatch z), fun z => (nomatch z.2)⟩⟩
  | non => exact (show False from h).elim
  | bl _ => exact (show False from h).elim
  | int _ => exact (show False from h).elim
  | str _ => exact (show False from h).elim
theorem any_read {pins : List (Addr × Obj)} {σ : L2.St} {H : Hp} {s : Shared} {R : List (Addr × HO)} {M : MH} (I : Inv X pins σ H s) (m : RelM X.K R M H) : ∀ (ds : List D) (xs : List V) (us : List Value) (ps : List PyData), ds.mapM (pyOf M 40) = some ps → IsDs X.K H ds xs → Vals xs us →
    ∃ f : Value → PyData, us.map f = ps ∧ ∀ w' ∈ us, okP 40 (f w') = true ∧ ∃ as, Reads s.heap w' (f w') as
  | [], _, _, _, e, i, r => by
    rw [List.mapM_nil] at e
    cases e
    rw [i.inv_nil] at r
    cases r
    exact ⟨fun _ => .none, rfl, fun w' hw => by simp at hw⟩
  | d :: ds, _, _, _, e, i, r => by
    obtain ⟨x, ys, rfl, i1, i2⟩ := i.inv
    rw [List.mapM_cons] at e
    cases e1 : pyOf M 40 d with
    | none => rw [e1] at e; cases e
    | some q =>
      rw [e1] at e
      cases e2 : ds.mapM (pyOf M 40) with
      | none => rw [e2] at e; cases e
      | some qs =>
        rw [e2] at e
        cases e
        cases r with
        | @cons _ uu _ uus r1 r2 =>
          obtain ⟨f, hf, hr⟩ := any_read I m ds ys uus qs e2 i2 r2
          obtain ⟨o1, as, h1⟩ := reads_of I m 40 e1 i1 r1
          classical
          refine ⟨fun z => if z = uu then q else f z, ?_, fun w' hw => ?_⟩
          · rw [List.map_cons, if_pos rfl]
            congr 1
            rw [← hf]
            refine List.map_congr_left fun z hz => ?_
            by_cases e : z = uu
            · subst e
              rw [if_pos rfl]
              obtain ⟨o2, bs, h2⟩ := hr z hz
              exact uniqP 40 o1 h1 h2
            · rw [if_neg e]
          · by_cases e : w' = uu
            · subst e
              show okP 40 (if w' = w' then q else f w') = true ∧ ∃ as, Reads s.heap w' (if w' = w' then q else f w') as
              rw [if_pos rfl]
              exact ⟨o1, as, h1⟩
            · show okP 40 (if w' = uu then q else f w') = true ∧ ∃ as, Reads s.heap w' (if w' = uu then q else f w') as
              rw [if_neg e]
              rcases List.mem_cons.mp hw with z | z
              · exact absurd z e
              · exact hr w' z
theorem in_run {neg : Bool} (hu : X.A.units + 64 < cLine) {pins : List (Addr × Obj)} {s : Shared} {σ : L2.St} {H : Hp} {x y : V} {v u : Value} {Q : VK} {R : List (Addr × HO)} {M : MH} {d e : D} {Qd : KE} (I : Inv X pins σ H s) (rx : RelV x v) (ry : RelV y u) (m : RelM X.K R M H) (ix : IsD X.K H d x) (iy : IsD X.K H e y)
    (h : seqD e M fun ds => ∃ pa pbs, pyOf M 40 d = some pa ∧ ds.mapM (pyOf M 40) = some pbs ∧ Qd (.bl (if neg = true then !(pbs.any fun z => PyData.eqv z pa) else pbs.any fun z => PyData.eqv z pa)) M) (up : UpE X.K R H Qd Q) :
    wpAny (model X.prog X.w) X.A (compareOp (if neg = true then .NotIn else .In) v u) (EP X pins σ Q) X.xe s := by
  obtain ⟨a, ys, ds, rfl, sq, r, ⟨pa, pbs, e1, e2, q⟩, _⟩ := seq_of m iy h
  cases ry
  obtain ⟨o1, as, h1⟩ := reads_of I m 40 e1 ix rx
  have fin : ∀ (its : List Value), Vals ys its → ∃ f : Value → Bool, (its.toArray.any f = pbs.any fun z => PyData.eqv z pa) ∧ ∀ z, z ∈ its.toArray → EqAt X.A.in1 s z v (f z) := fun its rv => by
    obtain ⟨f, hf, hr⟩ := any_read I m ds ys its pbs e2 r rv
    refine ⟨fun z => PyData.eqv (f z) pa, ?_, fun z hz => ?_⟩
    · rw [← hf, List.any_map]
      simp only [List.any_toArray]
      first | rfl | congr
    · obtain ⟨o2, bs, h2⟩ := hr z (by simpa using hz)
      exact eqP 40 o2 o1 (by show X.A.units + 1 + 40 < cLine; omega) h2 h1
  rcases sq with sq | sq
  · obtain ⟨its, rv, pl, hz⟩ := I.list sq
    obtain ⟨f, hf, hq⟩ := fin its rv
    cases neg with
    | true => exact notIn_listAt f pl.isList hq (by rw [hf]; exact ⟨.bl _, H, I, rfl, up _ M _ H q .rfl m mk_bl⟩)
    | false => exact in_listAt f pl.isList hq (by rw [hf]; exact ⟨.bl _, H, I, rfl, up _ M _ H q .rfl m mk_bl⟩)
  · obtain ⟨its, rv, pl, hz⟩ := I.tuple sq
    obtain ⟨f, hf, hq⟩ := fin its rv
    cases neg with
    | true => exact notIn_tupleAt f pl hq (by rw [hf]; exact ⟨.bl _, H, I, rfl, up _ M _ H q .rfl m mk_bl⟩)
    | false => exact in_tupleAt f pl hq (by rw [hf]; exact ⟨.bl _, H, I, rfl, up _ M _ H q .rfl m mk_bl⟩)
theorem od_in (hu : X.A.units + 64 < cLine) : OpR X (compareOp .In) (rD2 X.K (cmpQ .In)) := by
  rintro pins s σ H x y v u Q I rx ry ⟨R, M, d, e, Qd, m, ix, iy, h, up⟩
  have h' : inD d e M fun k => Qd (.bl k) M := h
  have go : (seqD e M fun ds => ∃ pa pbs, pyOf M 40 d = some pa ∧ ds.mapM (pyOf M 40) = some pbs ∧ Qd (.bl (pbs.any fun z => PyData.eqv z pa)) M) → wpAny (model X.prog X.w) X.A (compareOp .In v u) (EP X pins σ Q) X.xe s :=
    fun q => in_run (neg := false) hu I rx ry m ix iy q up
  cases d <;> cases e <;> first
    | (cases inv_str ix; cases inv_str iy
       exact op_in_str pins s σ H _ _ v u Q I rx ry ⟨_, _, rfl, rfl, up _ M _ H h' .rfl m mk_bl⟩)
    | exact go h'
theorem od_notin (hu : X.A.units + 64 < cLine) : OpR X (compareOp .NotIn) (rD2 X.K (cmpQ .NotIn)) := by
  rintro pins s σ H x y v u Q I rx ry ⟨R, M, d, e, Qd, m, ix, iy, h, up⟩
  have h' : inD d e M fun k => Qd (.bl (!k)) M := h
  have go : (seqD e M fun ds => ∃ pa pbs, pyOf M 40 d = some pa ∧ ds.mapM (pyOf M 40) = some pbs ∧ Qd (.bl (!(pbs.any fun z => PyData.eqv z pa))) M) → wpAny (model X.prog X.w) X.A (compareOp .NotIn v u) (EP X pins σ Q) X.xe s :=
    fun q => in_run (neg := true) hu I rx ry m ix iy q up
  cases d <;> cases e <;> first
    | (cases inv_str ix; cases inv_str iy
       exact op_notIn_str pins s σ H _ _ v u Q I rx ry ⟨_, _, rfl, rfl, up _ M _ H h' .rfl m mk_bl⟩)
    | exact go h'
theorem od_cmp (hu : X.A.units + 64 < cLine) : ∀ op, OpR X (compareOp op) (rD2 X.K (cmpQ op))
  | .Eq => od_eq hu
  | .NotEq => od_ne hu
  | .Lt => od_lt
  | .LtE => od_le
  | .Gt => od_gt
  | .GtE => od_ge
  | .Is => od_is
  | .IsNot => od_isnot
  | .In => od_in hu
  | .NotIn => od_notin hu
theorem tru_of {K : PySem.W.Frag} {R : List (Addr × HO)} {M : MH} {H : Hp} {d : D} {x : V} {k : Bool → Prop} (m : RelM K R M H) (i : IsD K H d x) (h : truD d M k) : ∃ b, TruV K x H b ∧ k b := by
  have em : ∀ {ds : List D} {xs : List V}, IsDs K H ds xs → (!ds.isEmpty) = !xs.isEmpty := fun {ds xs} r => by
    cases ds with
    | nil => rw [r.inv_nil]; rfl
    | cons d ds => obtain ⟨x, ys, rfl, _⟩ := r.inv; rfl
  cases d with
  | non => cases inv_non i; exact ⟨_, rfl, h⟩
  | bl _ => cases inv_bl i; exact ⟨_, rfl, h⟩
  | int _ => cases inv_int i; exact ⟨_, rfl, h⟩
  | str _ => cases inv_str i; exact ⟨_, ⟨h.1, rfl⟩, h.2⟩
  | tup ds =>
    obtain ⟨a, xs, rfl, sx, r⟩ := inv_tup i
    exact ⟨_, .inr (.inl ⟨xs, sx, em r⟩), h⟩
  | fl ds =>
    obtain ⟨a, xs, rfl, sx, r⟩ := inv_fl i
    exact ⟨_, .inl ⟨xs, sx.sq, em r⟩, h⟩
  | ref p =>
    cases inv_ref i
    have h' : (match M.get p with
      | some (.lst ds) => k (!ds.isEmpty)
      | _ => False) := h
    cases g : M.get p with
    | none => rw [g] at h'; exact h'.elim
    | some o =>
      rw [g] at h'
      cases o with
      | ins C fs => exact (show False from h').elim
      | lst ds =>
        obtain ⟨xs, hx, r⟩ := lst_of m g
        exact ⟨_, .inl ⟨xs, SqL.of hx, em r⟩, h'⟩
theorem at_of {K : PySem.W.Frag} {H : Hp} {ds : List D} {xs : List V} {n : Int} {d : D} (r : IsDs K H ds xs) (h : atI ds n = some d) : ∃ x, atI xs n = some x ∧ IsD K H d x := by
  unfold atI at h ⊢
  rw [r.length]
  cases g : ixN ds.length n with
  | none => rw [g] at h; cases h
  | some j =>
    rw [g] at h
    exact r.get h
theorem id_ix : IxR X (rD2 X.K idxD) := by
  rintro value slice pins s σ H x y v u Q I rx ry ⟨R, M, d, e, Qd, m, ix, iy, h, up⟩ hs
  cases e <;> first | exact (show False from h).elim | skip
  cases inv_int iy
  cases d with
  | tup ds =>
    obtain ⟨a, xs, rfl, sx, r⟩ := inv_tup ix
    obtain ⟨d, e1, q⟩ := h
    obtain ⟨z, e2, iz⟩ := at_of r e1
    exact ix_tup value slice pins s σ H _ _ v u Q I rx ry ⟨_, xs, _, z, rfl, rfl, sx, e2, up _ M _ H q .rfl m iz⟩ hs
  | fl ds =>
    obtain ⟨a, xs, rfl, sx, r⟩ := inv_fl ix
    obtain ⟨d, e1, q⟩ := h
    obtain ⟨z, e2, iz⟩ := at_of r e1
    exact ix_list value slice pins s σ H _ _ v u Q I rx ry ⟨_, xs, _, z, rfl, rfl, sx.sq, e2, up _ M _ H q .rfl m iz⟩ hs
  | str z =>
    cases inv_str ix
    obtain ⟨hz, c, e1, q⟩ := h
    exact ix_str value slice pins s σ H _ _ v u Q I rx ry ⟨z, _, c, rfl, rfl, hz, e1, up _ M _ H q .rfl m mk_str⟩ hs
  | ref p =>
    cases inv_ref ix
    rename_i n
    have h' : (match M.get p with
      | some (.lst ds) => ∃ d, atI ds n = some d ∧ Qd d M
      | _ => False) := h
    cases g : M.get p with
    | none => rw [g] at h'; exact h'.elim
    | some o =>
      rw [g] at h'
      cases o with
      | ins C fs => exact (show False from h').elim
      | lst ds =>
        obtain ⟨xs, hx, r⟩ := lst_of m g
        obtain ⟨d, e1, q⟩ := h'
        obtain ⟨z, e2, iz⟩ := at_of r e1
        exact ix_list value slice pins s σ H _ _ v u Q I rx ry ⟨_, xs, _, z, rfl, rfl, SqL.of hx, e2, up _ M _ H q .rfl m iz⟩ hs
  | non => exact (show False from h).elim
  | bl _ => exact (show False from h).elim
  | int _ => exact (show False from h).elim
theorem cut_of {K : PySem.W.Frag} {H : Hp} {ds : List D} {xs : List V} (r : IsDs K H ds xs) (lo hi : Option Int) : IsDs K H (cutD ds lo hi) (cutV xs lo hi) := by
  unfold cutD cutV
  rw [r.length]
  exact (r.drop _).take _
end
end Mx
namespace Mx
open PySem PySem.Spec PyProof.Rows L2 PySem.SeqAt
section
variable {X : Cx}
theorem sd_sl : SlR X (fun x lo hi H Q => ∃ R M d Qd, RelM X.K R M H ∧ IsD X.K H d x ∧ slcD d lo hi M Qd ∧ UpE X.K R H Qd Q) := by
  rintro pins s σ H x v vl vu lo hi sl Q I rx hs pl pu ⟨R, M, d, Qd, m, ix, h, up⟩
  cases d with
  | tup ds =>
    obtain ⟨a, xs, rfl, sx, r⟩ := inv_tup ix
    refine sl_tupA pins s σ H _ v vl vu lo hi sl Q I rx hs pl pu ⟨a, xs, rfl, sx, fun e => ?_, fun _ p hp => tup_new m up h (cut_of r lo hi) hp⟩
    have e1 : cutD ds lo hi = ds := by
      unfold cutD
      rw [← r.length, e.1, e.2, List.drop_zero, Nat.sub_zero, r.length, List.take_length]
    have h' : Qd (.tup (cutD ds lo hi)) M := h
    rw [e1] at h'
    exact up _ M _ H h' .rfl m (mk_tup sx r)
  | str z =>
    cases inv_str ix
    obtain ⟨hz, q⟩ := h
    refine sl_str pins s σ H _ v vl vu lo hi sl Q I rx hs pl pu ⟨z, rfl, hz, ?_⟩
    have e : cutS z lo hi = ⟨(cutD z.cps.toList lo hi).toArray⟩ := by
      unfold cutS cutD
      rw [show z.length = z.cps.toList.length by simp [Str.length]]
    rw [e]
    exact up _ M _ H q .rfl m mk_str
  | fl ds =>
    obtain ⟨a, xs, rfl, sx, r⟩ := inv_fl ix
    exact sl_list pins s σ H _ v vl vu lo hi sl Q I rx hs pl pu ⟨a, xs, rfl, sx.sq, fun p hp => lst_new m up h (cut_of r lo hi) hp⟩
  | ref p =>
    cases inv_ref ix
    have h' : (match M.get p with
      | some (.lst ds) => ∀ r, M.get r = none → Qd (.ref r) ((r, .lst (cutD ds lo hi)) :: M)
      | _ => False) := h
    cases g : M.get p with
    | none => rw [g] at h'; exact h'.elim
    | some o =>
      rw [g] at h'
      cases o with
      | ins C fs => exact (show False from h').elim
      | lst ds =>
        obtain ⟨xs, hx, r⟩ := lst_of m g
        exact sl_list pins s σ H _ v vl vu lo hi sl Q I rx hs pl pu ⟨p, xs, rfl, SqL.of hx, fun p hp => lst_new m up h' (cut_of r lo hi) hp⟩
  | non => exact (show False from h).elim
  | bl _ => exact (show False from h).elim
  | int _ => exact (show False from h).elim
theorem IsDs.inv1 {K : PySem.W.Frag} {H : Hp} {d : D} {vs : List V} (h : IsDs K H [d] vs) : ∃ x, vs = [x] ∧ IsD K H d x := by
  obtain ⟨x, ys, rfl, r, t⟩ := h.inv
  rw [t.inv_nil]
  exact ⟨x, rfl, r⟩
theorem IsDs.inv2 {K : PySem.W.Frag} {H : Hp} {d e : D} {vs : List V} (h : IsDs K H [d, e] vs) : ∃ x y, vs = [x, y] ∧ IsD K H d x ∧ IsD K H e y := by
  obtain ⟨x, ys, rfl, r, t⟩ := h.inv
  obtain ⟨y, rfl, q⟩ := t.inv1
  exact ⟨x, y, rfl, r, q⟩
def CallD (X : Cx) (f : Value) (r : List D → MH → KE → Prop) : Prop := CallR X f (rDs X.K r)
theorem cd_len : CallD X (.builtin "len") lenD := by
  rintro pins s σ H vs us Q I r ⟨R, M, ds, Qd, m, i, h, up⟩
  match ds, h with
  | [d], h =>
    obtain ⟨x, rfl, ix⟩ := i.inv1
    have go : (seqD d M fun xs => Qd (.int xs.length) M) → wpAny (model X.prog X.w) X.A (call (.builtin "len") us) (EP X pins σ Q) X.xe s := fun h => by
      obtain ⟨a, xs, ds, rfl, sq, r1, q, _⟩ := seq_of m ix h
      refine call_len_seq pins s σ H _ us Q I r ⟨a, xs, rfl, sq, ?_⟩
      rw [r1.length]
      exact up _ M _ H q .rfl m mk_int
    cases d with
    | str z =>
      cases inv_str ix
      obtain ⟨hz, q⟩ := h
      exact call_len_str pins s σ H _ us Q I r ⟨z, rfl, hz, up _ M _ H q .rfl m mk_int⟩
    | tup _ => exact go h
    | fl _ => exact go h
    | ref _ => exact go h
    | non => exact go h
    | bl _ => exact go h
    | int _ => exact go h
  | [], h => exact (show False from h).elim
  | _ :: _ :: _, h =>
    rename_i a b l
    cases a <;> exact (show False from h).elim
theorem cd_int : CallD X (.type "int") intD := by
  rintro pins s σ H vs us Q I r ⟨R, M, ds, Qd, m, i, h, up⟩
  match ds, h with
  | [.int k], h =>
    obtain ⟨x, rfl, ix⟩ := i.inv1
    cases inv_int ix
    exact call_int1 pins s σ H _ us Q I r (.inl ⟨k, rfl, up _ M _ H h .rfl m mk_int⟩)
  | [.str z], ⟨n, h1, h2, h3⟩ =>
    obtain ⟨x, rfl, ix⟩ := i.inv1
    cases inv_str ix
    exact call_int_str pins s σ H _ us Q I r ⟨z, n, rfl, h1, h2, up _ M _ H h3 .rfl m mk_int⟩
theorem cd_str : CallD X (.type "str") strD := by
  rintro pins s σ H vs us Q I r ⟨R, M, ds, Qd, m, i, h, up⟩
  match ds, h with
  | [.int k], h =>
    obtain ⟨x, rfl, ix⟩ := i.inv1
    cases inv_int ix
    exact call_str_int pins s σ H _ us Q I r ⟨k, rfl, h.1, up _ M _ H h.2 .rfl m mk_str⟩
theorem cd_abs : CallD X (.builtin "abs") absD := by
  rintro pins s σ H vs us Q I r ⟨R, M, ds, Qd, m, i, h, up⟩
  match ds, h with
  | [.int k], h =>
    obtain ⟨x, rfl, ix⟩ := i.inv1
    cases inv_int ix
    exact call_abs pins s σ H _ us Q I r ⟨k, rfl, up _ M _ H h .rfl m mk_int⟩
theorem cd_ord : CallD X (.builtin "ord") ordD := by
  rintro pins s σ H vs us Q I r ⟨R, M, ds, Qd, m, i, h, up⟩
  match ds, h with
  | [.str k], h =>
    obtain ⟨x, rfl, ix⟩ := i.inv1
    cases inv_str ix
    exact call_ord pins s σ H _ us Q I r ⟨k, rfl, h.1, up _ M _ H h.2 .rfl m mk_int⟩
theorem cd_max (hc : X.calm = true) : CallD X (.builtin "max") maxD := by
  rintro pins s σ H vs us Q I r ⟨R, M, ds, Qd, m, i, h, up⟩
  match ds, h with
  | [.int k, .int l], h =>
    obtain ⟨x, y, rfl, ix, iy⟩ := i.inv2
    cases inv_int ix; cases inv_int iy
    exact call_max2 hc pins s σ H _ us Q I r ⟨k, l, rfl, up _ M _ H h .rfl m mk_int⟩
theorem cd_min (hc : X.calm = true) : CallD X (.builtin "min") minD := by
  rintro pins s σ H vs us Q I r ⟨R, M, ds, Qd, m, i, h, up⟩
  match ds, h with
  | [.int k, .int l], h =>
    obtain ⟨x, y, rfl, ix, iy⟩ := i.inv2
    cases inv_int ix; cases inv_int iy
    exact call_min2 hc pins s σ H _ us Q I r ⟨k, l, rfl, up _ M _ H h .rfl m mk_int⟩
theorem cd_divmod : CallD X (.builtin "divmod") divmodD := by
  rintro pins s σ H vs us Q I r ⟨R, M, ds, Qd, m, i, h, up⟩
  match ds, h with
  | [.int k, .int l], h =>
    obtain ⟨x, y, rfl, ix, iy⟩ := i.inv2
    cases inv_int ix; cases inv_int iy
    exact call_divmodW pins s σ H _ us Q I r ⟨k, l, rfl, h.1, fun p hp => tup_new m up h.2 (.cons mk_int (.cons mk_int .nil)) hp⟩
theorem cd_tuple : CallD X (.type "tuple") tupleD := by
  rintro pins s σ H vs us Q I r ⟨R, M, ds, Qd, m, i, h, up⟩
  match ds, h with
  | [d], h =>
    obtain ⟨x, rfl, ix⟩ := i.inv1
    obtain ⟨a, xs, es, rfl, sq, r1, q, _⟩ := seq_of m ix h
    refine call_tuple_of pins s σ H _ us Q I r ⟨a, xs, rfl, ?_⟩
    rcases sq with sq | sq
    · exact .inl ⟨sq, fun l hl => tup_new m up q r1 hl⟩
    · exact .inr ⟨sq, up _ M _ H q .rfl m (mk_tup sq r1)⟩
theorem cd_list : CallD X (.type "list") listD := by
  rintro pins s σ H vs us Q I r ⟨R, M, ds, Qd, m, i, h, up⟩
  match ds, h with
  | [d], h =>
    obtain ⟨x, rfl, ix⟩ := i.inv1
    obtain ⟨a, xs, es, rfl, sq, r1, q, _⟩ := seq_of m ix h
    exact call_list_of pins s σ H _ us Q I r ⟨a, xs, rfl, sq, fun l hl => lst_new m up q r1 hl⟩
theorem nodict : ∀ (n : Nat) {p : PyData}, okP n p = true → p.hasDict = false ∧ p.depth ≤ n := by
  intro n
  induction n with
  | zero => intro p h; cases h
  | succ n ih =>
    have all : ∀ ps : List PyData, ps.all (okP n) = true → PyData.hasDictAll ps = false ∧ PyData.depthAll ps ≤ n := by
      intro ps
      induction ps with
      | nil => intro _; exact ⟨by simp only [PyData.hasDictAll], by simp only [PyData.depthAll]; omega⟩
      | cons p ps ihp =>
        intro h
        rw [List.all_cons, Bool.and_eq_true] at h
        obtain ⟨a, b⟩ := ih h.1
        obtain ⟨c, d⟩ := ihp h.2
        exact ⟨by simp only [PyData.hasDictAll, a, c, Bool.or_self], by simp only [PyData.depthAll]; omega⟩
    intro p h
    cases p with
    | none => exact ⟨by simp only [PyData.hasDict], by simp only [PyData.depth]; omega⟩
    | bool _ => exact ⟨by simp only [PyData.hasDict], by simp only [PyData.depth]; omega⟩
    | int _ => exact ⟨by simp only [PyData.hasDict], by simp only [PyData.depth]; omega⟩
    | str _ => exact ⟨by simp only [PyData.hasDict], by simp only [PyData.depth]; omega⟩
    | list xs => obtain ⟨a, b⟩ := all xs h; exact ⟨by simp only [PyData.hasDict, a], by simp only [PyData.depth]; omega⟩
    | tuple xs => obtain ⟨a, b⟩ := all xs h; exact ⟨by simp only [PyData.hasDict, a], by simp only [PyData.depth]; omega⟩
    | dict _ => cases h
theorem cd_repr (hg : X.A.guards = some []) (hu : X.A.units + 64 < cLine) : CallD X (.builtin "repr") reprD := by
  rintro pins s σ H vs us Q I r ⟨R, M, ds, Qd, m, i, h, up⟩
  match ds, h with
  | [d], ⟨p, e, hs, hz, q⟩ =>
    obtain ⟨x, rfl, ix⟩ := i.inv1
    obtain ⟨u, rfl, ru⟩ := vals1 r
    obtain ⟨ok, as, rd⟩ := reads_of I m 40 e ix ru
    obtain ⟨nd, dp⟩ := nodict 40 ok
    have fin : ∀ (k : Nat) (t : Tok), EP X pins σ Q (.str p.shown t) { s with toks := k } := fun k t => ⟨.str p.shown, H, I.tok k, ⟨t, rfl⟩, up _ M _ H q .rfl m mk_str⟩
    have far : ∀ a : Addr, u = .ref a → wpAny (model X.prog X.w) X.A (call (.builtin "repr") [u]) (EP X pins σ Q) X.xe s := fun a ea => by
      subst ea
      exact repr_of_reads' rd hs (PyData.noDict_hsm nd) hg (by omega) (fun _ _ e => e) (fun h' t tk hk => ⟨.str p.shown, H, I.kept (t' := tk) hk, ⟨t, rfl⟩, up _ M _ H q .rfl m mk_str⟩) hz
    cases rd with
    | none => exact PySem.P.repr_of_none (fin _ _)
    | bool b => exact PySem.P.repr_of_bool (fin _ _)
    | int n t => exact PySem.P.repr_of_int (by simpa [PyData.showable] using hs) (fin _ _)
    | str z t => exact PySem.P.repr_of_str (fin _ _) hz
    | list => exact far _ rfl
    | tuple => exact far _ rfl
    | dict => exact far _ rfl
theorem cd_blt (hc : X.calm = true) (hg : X.A.guards = some []) (hu : X.A.units + 64 < cLine) : ∀ f : BF, CallD X (match f with
    | .int => .type "int" | .str => .type "str" | .tuple => .type "tuple" | .list => .type "list"
    | .len => .builtin "len" | .abs => .builtin "abs" | .ord => .builtin "ord" | .max => .builtin "max" | .min => .builtin "min" | .divmod => .builtin "divmod" | .repr => .builtin "repr") (bltD f)
  | .len => cd_len
  | .int => cd_int
  | .str => cd_str
  | .abs => cd_abs
  | .ord => cd_ord
  | .max => cd_max hc
  | .min => cd_min hc
  | .divmod => cd_divmod
  | .tuple => cd_tuple
  | .list => cd_list
  | .repr => cd_repr hg hu
def MetD (X : Cx) (id : String) (r : D → List D → MH → KE → Prop) : Prop := MtR X id fun x vs H Q => ∃ R M d ds Qd, RelM X.K R M H ∧ IsD X.K H d x ∧ IsDs X.K H ds vs ∧ r d ds M Qd ∧ UpE X.K R H Qd Q
theorem vals_strs {K : PySem.W.Frag} {H : Hp} {ss : List Str} : IsDs K H (ss.map D.str) (ss.map V.str) := IsDs.strs.mpr rfl
theorem md_append : MetD X "list.append" (metD .append) := by
  rintro pins s σ H x vs v us Q I rx r ⟨R, M, d, ds, Qd, m, ix, i, h, up⟩
  match d, ds, h with
  | .ref p, [e], ⟨xs, g, hz, q⟩ =>
    obtain ⟨y, rfl, iy⟩ := i.inv1
    cases inv_ref ix
    obtain ⟨zs, hx, r1⟩ := lst_of m g
    exact mt_append pins s σ H _ _ v us Q I rx r ⟨p, zs, y, rfl, rfl, hx, by rw [r1.length]; exact hz, lst_put m up g hx q (r1.append (.one iy)) mk_non⟩
theorem md_split : MetD X "str.split" (metD .split) := by
  rintro pins s σ H x vs v us Q I rx r ⟨R, M, d, ds, Qd, m, ix, i, h, up⟩
  match d, ds, h with
  | .str a, [.str b], ⟨h1, h2, q⟩ =>
    obtain ⟨y, rfl, iy⟩ := i.inv1
    cases inv_str ix; cases inv_str iy
    exact mt_split pins s σ H _ _ v us Q I rx r ⟨a, b, rfl, rfl, h1, h2, fun p hp => lst_new m up q vals_strs hp⟩
theorem md_partition : MetD X "str.partition" (metD .partition) := by
  rintro pins s σ H x vs v us Q I rx r ⟨R, M, d, ds, Qd, m, ix, i, h, up⟩
  match d, ds, h with
  | .str a, [.str b], ⟨h1, h2, q⟩ =>
    obtain ⟨y, rfl, iy⟩ := i.inv1
    cases inv_str ix; cases inv_str iy
    exact mt_partition pins s σ H _ _ v us Q I rx r ⟨a, b, rfl, rfl, h1, h2, fun p hp => tup_new m up q (.cons mk_str (.cons mk_str (.cons mk_str .nil))) hp⟩
theorem mt_rpartition : MtR X "str.rpartition" (fun x xs H Q => ∃ a b, x = .str a ∧ xs = [.str b] ∧ (b.length == 0) = false ∧ a.length ≤ sizeLine ∧
    ∀ p, H p = none → Q (.ref p) (upd H p (.tup [.str (Txt.rpartition a b).1, .str (Txt.rpartition a b).2.1, .str (Txt.rpartition a b).2.2]))) := by
  rintro pins s σ H x xs v us Q I rx rs ⟨y, z, rfl, rfl, ne, sz, k⟩
  obtain ⟨tx, rfl⟩ := rx
  obtain ⟨w', rfl, tz, rfl⟩ := vals1 rs
  refine call_meets F.slot_str_rpartition (typeIs_str _ _ _) F.entry_str_rpartition (F.args_str_rpartition_2 _ _) (meets_str_rpartition y z tx tz ne sz) ?_
  unfold Txt.rpartition at k
  cases e : Builtin.Str.lastOccurrence y z 0 y.length with
  | none =>
    rw [e] at k
    exact laid_parts I k
  | some i =>
    rw [e] at k
    exact laid_parts I k
theorem md_rpartition : MetD X "str.rpartition" (metD .rpartition) := by
  rintro pins s σ H x vs v us Q I rx r ⟨R, M, d, ds, Qd, m, ix, i, h, up⟩
  match d, ds, h with
  | .str a, [.str b], ⟨h1, h2, q⟩ =>
    obtain ⟨y, rfl, iy⟩ := i.inv1
    cases inv_str ix; cases inv_str iy
    exact mt_rpartition pins s σ H _ _ v us Q I rx r ⟨a, b, rfl, rfl, h1, h2, fun p hp => tup_new m up q (.cons mk_str (.cons mk_str (.cons mk_str .nil))) hp⟩
theorem md_count : MetD X "str.count" (metD .count) := by
  rintro pins s σ H x vs v us Q I rx r ⟨R, M, d, ds, Qd, m, ix, i, h, up⟩
  match d, ds, h with
  | .str a, [.str b], q =>
    obtain ⟨y, rfl, iy⟩ := i.inv1
    cases inv_str ix; cases inv_str iy
    exact mt_count pins s σ H _ _ v us Q I rx r ⟨a, b, rfl, rfl, up _ M _ H q .rfl m mk_int⟩
theorem md_find : MetD X "str.find" (metD .find) := by
  rintro pins s σ H x vs v us Q I rx r ⟨R, M, d, ds, Qd, m, ix, i, h, up⟩
  match d, ds, h with
  | .str a, [.str b], q =>
    obtain ⟨y, rfl, iy⟩ := i.inv1
    cases inv_str ix; cases inv_str iy
    exact mt_find pins s σ H _ _ v us Q I rx r ⟨a, b, rfl, rfl, up _ M _ H q .rfl m mk_int⟩
theorem md_rfind : MetD X "str.rfind" (metD .rfind) := by
  rintro pins s σ H x vs v us Q I rx r ⟨R, M, d, ds, Qd, m, ix, i, h, up⟩
  match d, ds, h with
  | .str a, [.str b], q =>
    obtain ⟨y, rfl, iy⟩ := i.inv1
    cases inv_str ix; cases inv_str iy
    exact mt_rfind pins s σ H _ _ v us Q I rx r ⟨a, b, rfl, rfl, up _ M _ H q .rfl m mk_int⟩
theorem md_join : MetD X "str.join" (metD .join) := by
  rintro pins s σ H x vs v us Q I rx r ⟨R, M, d, ds, Qd, m, ix, i, h, up⟩
  match d, ds, h with
  | .str sep, [y], ⟨ss, hs, hz, q⟩ =>
    obtain ⟨z, rfl, iy⟩ := i.inv1
    cases inv_str ix
    cases y with
    | tup es =>
      obtain ⟨a, xs, rfl, sx, rr⟩ := inv_tup iy
      have hs : es = ss.map .str := hs
      subst hs
      rw [IsDs.strs.mp rr] at sx
      exact mt_join pins s σ H _ _ v us Q I rx r ⟨sep, a, ss, rfl, rfl, .inr sx, hz, up _ M _ H q .rfl m mk_str⟩
    | fl es =>
      obtain ⟨a, xs, rfl, sx, rr⟩ := inv_fl iy
      have hs : es = ss.map .str := hs
      subst hs
      rw [IsDs.strs.mp rr] at sx
      exact mt_join pins s σ H _ _ v us Q I rx r ⟨sep, a, ss, rfl, rfl, .inl sx.sq, hz, up _ M _ H q .rfl m mk_str⟩
    | ref p =>
      unfold seqD at hs
      revert hs
      simp only
      cases g : M.get p with
      | none => exact False.elim
      | some o => cases o with
        | ins C fs => exact False.elim
        | lst es =>
          intro hs
          obtain ⟨xs, hx, rr⟩ := lst_of m g
          have hs : es = ss.map .str := hs
          subst hs
          rw [IsDs.strs.mp rr] at hx
          cases inv_ref iy
          exact mt_join pins s σ H _ _ v us Q I rx r ⟨sep, p, ss, rfl, rfl, .inl (SqL.of hx), hz, up _ M _ H q .rfl m mk_str⟩
    | non => exact False.elim hs
    | bl b => exact False.elim hs
    | int i => exact False.elim hs
    | str s => exact False.elim hs
theorem use_of {f : LF} (hc : X.calm = true) {pins : List (Addr × Obj)} {s : Shared} {σ : L2.St} {H : Hp} {Q : VK} {R : List (Addr × HO)} {M : MH} {ds : List D} {p : Addr} {xs : List V} {Qd : KE} (I : Inv X pins σ H s) (m : RelM X.K R M H) (hp : H p = some (.lst xs)) (i : IsDs X.K H ds xs) (h : oflD f ds M Qd) (up : UpE X.K R H Qd Q) :
    match f with
    | .join sep => ∀ t, wpAny (model X.prog X.w) X.A (call (.builtin "str.join") [.str sep t, .ref p]) (EP X pins σ Q) X.xe s
    | .tuple => wpAny (model X.prog X.w) X.A (call (.type "tuple") [.ref p]) (EP X pins σ Q) X.xe s
    | .len => wpAny (model X.prog X.w) X.A (call (.builtin "len") [.ref p]) (EP X pins σ Q) X.xe s
    | .all => wpAny (model X.prog X.w) X.A (call (.builtin "all") [.ref p]) (EP X pins σ Q) X.xe s
    | .any => wpAny (model X.prog X.w) X.A (call (.builtin "any") [.ref p]) (EP X pins σ Q) X.xe s
    | .sum => wpAny (model X.prog X.w) X.A (call (.builtin "sum") [.ref p]) (EP X pins σ Q) X.xe s := by
  have r1 : Vals [V.ref p] [Value.ref p] := .cons rfl .nil
  cases f with
  | tuple => exact call_tuple_of pins s σ H _ _ Q I r1 ⟨p, xs, rfl, .inl ⟨SqL.of hp, fun l hl => tup_new m up h i hl⟩⟩
  | len =>
    refine call_len_seq pins s σ H _ _ Q I r1 ⟨p, xs, rfl, .inl (SqL.of hp), ?_⟩
    rw [i.length]
    exact up _ M _ H h .rfl m mk_int
  | all =>
    obtain ⟨bs, rfl, q⟩ := h
    have e := IsDs.bls.mp i
    subst e
    exact cr_all hc pins s σ H _ _ Q I r1 ⟨p, bs, rfl, SqL.of hp, up _ M _ H q .rfl m mk_bl⟩
  | any =>
    obtain ⟨bs, rfl, q⟩ := h
    have e := IsDs.bls.mp i
    subst e
    exact cr_any hc pins s σ H _ _ Q I r1 ⟨p, bs, rfl, SqL.of hp, up _ M _ H q .rfl m mk_bl⟩
  | sum =>
    obtain ⟨bs, rfl, q⟩ := h
    have e := IsDs.ints.mp i
    subst e
    exact cr_sum hc pins s σ H _ _ Q I r1 ⟨p, bs, rfl, SqL.of hp, up _ M _ H q .rfl m mk_int⟩
  | join sep =>
    obtain ⟨ss, rfl, hz, q⟩ := h
    have e := IsDs.strs.mp i
    subst e
    intro t
    exact mt_join pins s σ H (.str sep) [.ref p] (.str sep t) [.ref p] Q I ⟨t, rfl⟩ r1 ⟨sep, p, ss, rfl, rfl, .inl (SqL.of hp), hz, up _ M _ H q .rfl m mk_str⟩
theorem ty_of {K : PySem.W.Frag} {H : Hp} {R : List (Addr × HO)} {M : MH} {d : D} {x : V} {T : String} {b : Bool} (m : RelM K R M H) (ix : IsD K H d x) (h : isiD d M T = some b) : ∃ t : String, TyX K H x (.type t) ∧ kitB t T = some b := by
  cases d with
  | non =>
    cases inv_non ix
    refine ⟨_, .base .non, ?_⟩
    unfold isiD at h
    split at h <;> first | (cases h; decide +kernel) | (exfalso; simp_all; done) | cases h
  | bl y =>
    cases inv_bl ix
    refine ⟨_, .base (.bl y), ?_⟩
    unfold isiD at h
    split at h <;> first | (cases h; decide +kernel) | (exfalso; simp_all; done) | cases h
  | int y =>
    cases inv_int ix
    refine ⟨_, .base (.int y), ?_⟩
    unfold isiD at h
    split at h <;> first | (cases h; decide +kernel) | (exfalso; simp_all; done) | cases h
  | str y =>
    cases inv_str ix
    refine ⟨_, .base (.str y), ?_⟩
    unfold isiD at h
    split at h <;> first | (cases h; decide +kernel) | (exfalso; simp_all; done) | cases h
  | tup ds =>
    obtain ⟨a, xs, rfl, sx, _⟩ := inv_tup ix
    have ty : TyX K H (.ref a) (.type "tuple") := by
      rcases sx with (sx | ⟨o, sx⟩) | ⟨o, its, n, e, c, _⟩
      · exact .base (.tup sx)
      · exact .fTuple sx
      · exact .kTuple e c
    refine ⟨_, ty, ?_⟩
    unfold isiD at h
    split at h <;> first | (cases h; decide +kernel) | (exfalso; simp_all; done) | cases h
  | fl ds =>
    obtain ⟨a, xs, rfl, sx, _⟩ := inv_fl ix
    have ty : TyX K H (.ref a) (.type "list") := by
      rcases sx with ⟨o, sx⟩ | ⟨o, its, n, e, c, _⟩
      · exact .base (.frz sx)
      · exact .kList e c
    refine ⟨_, ty, ?_⟩
    unfold isiD at h
    split at h <;> first | (cases h; decide +kernel) | (exfalso; simp_all; done) | cases h
  | ref p =>
    cases inv_ref ix
    have h' : (match M.get p with
      | some (.lst _) => if T = "int" ∨ T = "str" ∨ T = "tuple" ∨ T = "bool" then some false else if T = "list" then some true else none
      | _ => none) = some b := by
      unfold isiD at h
      exact h
    cases g : M.get p with
    | none => rw [g] at h'; cases h'
    | some o =>
      rw [g] at h'
      cases o with
      | ins C fs => cases h'
      | lst ds =>
        obtain ⟨xs, hx, _⟩ := lst_of m g
        refine ⟨_, .base (.lst hx), ?_⟩
        have h2 : (if T = "int" ∨ T = "str" ∨ T = "tuple" ∨ T = "bool" then some false else if T = "list" then some true else none) = some b := h'
        split at h2
        · rename_i c
          cases h2
          rcases c with rfl | rfl | rfl | rfl <;> decide +kernel
        · split at h2
          · rename_i c
            cases h2
            subst c
            decide +kernel
          · cases h2
theorem cd_isi {T : String} : CallR X (.builtin "isinstance") (fun xs H Q => ∃ R M d Qd x, xs = [x, .ty T] ∧ RelM X.K R M H ∧ IsD X.K H d x ∧ (match isiD d M T with
    | some b => Qd (.bl b) M
    | none => False) ∧ UpE X.K R H Qd Q) := by
  rintro pins s σ H vs us Q I r ⟨R, M, d, Qd, x, rfl, m, ix, h, up⟩
  cases e : isiD d M T with
  | none => rw [e] at h; exact h.elim
  | some b =>
    rw [e] at h
    obtain ⟨t, ty, k⟩ := ty_of m ix e
    exact call_isi pins s σ H _ us Q I r ⟨x, .ty T, _, _, b, rfl, .ty T, ty, kit_ty k, up _ M _ H h .rfl m mk_bl⟩
end
end Mx
namespace Mx
open PySem PySem.Spec PyProof.Rows L2 PySem.SeqAt
section
variable {X : Cx} {a b c : Expr} {ta tb tc : ME} {ua ub uc : MT} {pos : Pos}
theorem me_cmp {op : CmpOp} (hu : X.A.units + 64 < cLine) (ha : PE X a (liftE X.K ta)) (hb : PE X b (liftE X.K tb)) (hm : behindInMarks op b = false) :
    PE X (.Compare a [op] [b] pos) (liftE X.K fun σ M Q => ta σ M fun x M1 => tb σ M1 fun y M2 => cmpD op x y M2 fun k => Q (.bl k) M2) := (pe_cmpR (od_cmp hu op) ha hb hm).of two_of
theorem bl_test {d : D} {M : MH} {Q : Bool → MH → Prop} (h : truD d M fun k => Q k M) {K : PySem.W.Frag} {H : Hp} {v : V} (i : IsD K H d v) (hb : ∃ k, d = .bl k) : ∃ k, v = .bl k ∧ Q k M := by
  obtain ⟨k, rfl⟩ := hb
  exact ⟨k, inv_bl i, h⟩
theorem cmp_bl (op : CmpOp) {d e : D} {M : MH} {Qd : Bool → MH → Prop} (h : cmpD op d e M fun k => Qd k M) : cmpQ op d e M fun d' M' => ∃ k, d' = .bl k ∧ Qd k M' := by
  have e1 : (fun k => Qd k M) = fun k => (∃ k', D.bl k = .bl k' ∧ Qd k' M) := by
    funext k
    exact propext ⟨fun q => ⟨k, rfl, q⟩, fun ⟨k', e, q⟩ => by cases e; exact q⟩
  unfold cmpQ
  rw [e1] at h
  exact h
theorem mt_cmp {op : CmpOp} (hu : X.A.units + 64 < cLine) (ha : PE X a (liftE X.K ta)) (hb : PE X b (liftE X.K tb)) (hm : behindInMarks op b = false) :
    PT X (.Compare a [op] [b] pos) (liftT X.K fun σ M Q => ta σ M fun x M1 => tb σ M1 fun y M2 => cmpD op x y M2 fun k => Q k M2) := by
  refine (pt_cmpR (od_cmp hu op) ha hb hm).of fun σ H Q ⟨R, σd, M, Qd, rel, q, u⟩ => ?_
  refine ⟨R, σd, M, _, rel, q, fun d M1 v H1 q1 k1 m1 i1 => ?_⟩
  refine ⟨R, σd, M1, _, rel.keep k1 m1, q1, fun e M2 w' H2 q2 k2 m2 i2 => ?_⟩
  exact ⟨R, M2, d, e, fun d' M' => ∃ k, d' = .bl k ∧ Qd k M', m2, i1.keep k2, i2, cmp_bl op q2, fun d' M3 z H3 ⟨k, e3, q3⟩ k3 m3 i3 => by
    subst e3
    exact ⟨k, inv_bl i3, u k M3 H3 q3 ((k1.trans k2).trans k3) m3⟩⟩
theorem me_chain {op op' : CmpOp} (hu : X.A.units + 64 < cLine) (ha : PE X a (liftE X.K ta)) (hb : PE X b (liftE X.K tb)) (hc : PE X c (liftE X.K tc)) (hm : lastMarks [op, op'] [b, c] = false) :
    PE X (.Compare a [op, op'] [b, c] pos) (liftE X.K fun σ M Q => ta σ M fun x M1 => tb σ M1 fun y M2 => cmpD op x y M2 fun k => if k = true then tc σ M2 fun z M3 => cmpD op' y z M3 fun k' => Q (.bl k') M3 else Q (.bl false) M2) := by
  refine (pe_chain (od_cmp hu op) (od_cmp hu op') ha hb hc hm).of fun σ H Q ⟨R, σd, M, Qd, rel, q, u⟩ => ?_
  refine ⟨R, σd, M, _, rel, q, fun d M1 v H1 q1 k1 m1 i1 => ?_⟩
  refine ⟨R, σd, M1, _, rel.keep k1 m1, q1, fun e M2 w' H2 q2 k2 m2 i2 => ?_⟩
  refine ⟨R, M2, d, e, _, m2, i1.keep k2, i2, cmp_bl op (Qd := fun k M' => if k = true then tc σd M' fun z M3 => cmpD op' e z M3 fun k' => Qd (.bl k') M3 else Qd (.bl false) M') q2, fun d' M3 z H3 ⟨k, e3, q3⟩ k3 m3 i3 => ?_⟩
  subst e3
  refine ⟨k, inv_bl i3, ?_⟩
  cases k with
  | false =>
    rw [if_neg (by decide)] at q3 ⊢
    exact u _ M3 _ H3 q3 ((k1.trans k2).trans k3) m3 mk_bl
  | true =>
    rw [if_pos rfl] at q3 ⊢
    exact ⟨R, σd, M3, _, ((rel.keep k1 m1).keep k2 m2).keep k3 m3, q3, fun f M4 z4 H4 q4 k4 m4 i4 => ⟨R, M4, e, f, Qd, m4, i2.keep (k3.trans k4), i4, q4, u.later (((k1.trans k2).trans k3).trans k4)⟩⟩
theorem me_nt (ha : PE X a (liftE X.K ta)) : PE X (.UnaryOp .Not a pos) (liftE X.K fun σ M Q => ta σ M fun x M1 => truD x M1 fun k => Q (.bl (!k)) M1) := by
  refine (pe_notT ha).of fun σ H Q ⟨R, σd, M, Qd, rel, q, u⟩ => ⟨R, σd, M, _, rel, q, fun d M1 v H1 q1 k1 m1 i1 => ?_⟩
  obtain ⟨k, e, q2⟩ := tru_of m1 i1 q1
  exact ⟨k, e, u _ M1 _ H1 q2 k1 m1 mk_bl⟩
theorem me_and {rest : List Expr} (ha : PE X a (liftE X.K ta)) (hb : PE X (.BoolOp .And (b :: rest) pos) (liftE X.K tb)) :
    PE X (.BoolOp .And (a :: b :: rest) pos) (liftE X.K fun σ M Q => ta σ M fun x M1 => truD x M1 fun k => if k = true then tb σ M1 Q else Q x M1) := by
  refine (pe_andT ha hb).of fun σ H Q ⟨R, σd, M, Qd, rel, q, u⟩ => ⟨R, σd, M, _, rel, q, fun d M1 v H1 q1 k1 m1 i1 => ?_⟩
  obtain ⟨k, e, q2⟩ := tru_of m1 i1 q1
  refine ⟨k, e, ?_⟩
  cases k with
  | true => exact ⟨R, σd, M1, Qd, rel.keep k1 m1, q2, u.later k1⟩
  | false => exact u _ M1 _ H1 q2 k1 m1 i1
theorem me_or {rest : List Expr} (ha : PE X a (liftE X.K ta)) (hb : PE X (.BoolOp .Or (b :: rest) pos) (liftE X.K tb)) :
    PE X (.BoolOp .Or (a :: b :: rest) pos) (liftE X.K fun σ M Q => ta σ M fun x M1 => truD x M1 fun k => if k = true then Q x M1 else tb σ M1 Q) := by
  refine (pe_orT ha hb).of fun σ H Q ⟨R, σd, M, Qd, rel, q, u⟩ => ⟨R, σd, M, _, rel, q, fun d M1 v H1 q1 k1 m1 i1 => ?_⟩
  obtain ⟨k, e, q2⟩ := tru_of m1 i1 q1
  refine ⟨k, e, ?_⟩
  cases k with
  | false => exact ⟨R, σd, M1, Qd, rel.keep k1 m1, q2, u.later k1⟩
  | true => exact u _ M1 _ H1 q2 k1 m1 i1
theorem me_ife (hc : PT X c (liftT X.K uc)) (ha : PE X a (liftE X.K ta)) (hb : PE X b (liftE X.K tb)) :
    PE X (.IfExp c a b pos) (liftE X.K fun σ M Q => uc σ M fun k M1 => if k = true then ta σ M1 Q else tb σ M1 Q) := by
  refine (pe_ifExp hc ha hb).of fun σ H Q ⟨R, σd, M, Qd, rel, q, u⟩ => ⟨R, σd, M, _, rel, q, fun k M1 H1 q1 k1 m1 => ?_⟩
  cases k with
  | true => exact ⟨R, σd, M1, Qd, rel.keep k1 m1, q1, u.later k1⟩
  | false => exact ⟨R, σd, M1, Qd, rel.keep k1 m1, q1, u.later k1⟩
theorem me_idx (ha : PE X a (liftE X.K ta)) (hb : PE X b (liftE X.K tb)) (hs : PlainIx b) : PE X (.Subscript a b pos) (liftE X.K fun σ M Q => ta σ M fun x M1 => tb σ M1 fun y M2 => idxD x y M2 Q) := (pe_ix id_ix ha hb hs).of two_of
theorem me_neg (ha : PE X a (liftE X.K ta)) : PE X (.UnaryOp .USub a pos) (liftE X.K fun σ M Q => ta σ M fun x M1 => match x with
    | .int i => Q (.int (-i)) M1
    | _ => False) := (pe_un ud_neg ha).of fun σ H Q h => one_of σ H Q h
def liftO (K : PySem.W.Frag) (t : Sd → MH → (Option Int → MH → Prop) → Prop) : TO := fun σ H Q => ∃ R σd M Qd, Rel K R σd M σ H ∧ t σd M Qd ∧ ∀ o M' H', Qd o M' → Keep K H H' → RelM K R M' H' → Q o H'
theorem mo_no : PO X none (liftO X.K fun _ M Q => Q none M) := ⟨fun pins s σ H Q I ⟨R, σd, M, Qd, rel, q, u⟩ => po_none.run pins s σ H Q I (u none M H q .rfl rel.m)⟩
theorem mo_yes (ha : PE X a (liftE X.K ta)) : PO X (some a) (liftO X.K fun σ M Q => ta σ M fun x M1 => match x with
    | .int i => Q (some i) M1
    | _ => False) := ⟨fun pins s σ H Q I ⟨R, σd, M, Qd, rel, q, u⟩ => (po_some ha).run pins s σ H Q I ⟨R, σd, M, _, rel, q, fun d M1 v H1 q1 k1 m1 i1 => by
      cases d <;> first | exact q1.elim | skip
      exact ⟨_, inv_int i1, u _ M1 H1 q1 k1 m1⟩⟩⟩
theorem me_slc {lo hi : Option Expr} {tl th : Sd → MH → (Option Int → MH → Prop) → Prop} {p2 : Pos} (ha : PE X a (liftE X.K ta)) (hl : PO X lo (liftO X.K tl)) (hh : PO X hi (liftO X.K th)) :
    PE X (.Subscript a (.Slice lo hi none p2) pos) (liftE X.K fun σ M Q => ta σ M fun x M1 => tl σ M1 fun l M2 => th σ M2 fun h M3 => slcD x l h M3 Q) := by
  refine (pe_slice sd_sl ha hl hh).of fun σ H Q ⟨R, σd, M, Qd, rel, q, u⟩ => ⟨R, σd, M, _, rel, q, fun d M1 v H1 q1 k1 m1 i1 => ?_⟩
  refine ⟨R, σd, M1, _, rel.keep k1 m1, q1, fun l M2 H2 q2 k2 m2 => ?_⟩
  exact ⟨R, σd, M2, _, (rel.keep k1 m1).keep k2 m2, q2, fun h M3 H3 q3 k3 m3 => ⟨R, M3, d, Qd, m3, i1.keep (k2.trans k3), q3, u.later ((k1.trans k2).trans k3)⟩⟩
theorem mt_tru (ha : PE X a (liftE X.K ta)) (he : ∀ whole, isTrue a X.env whole = (do let v ← whole; standAt a.pos; holding [v] (truthy v))) : PT X a (liftT X.K fun σ M Q => ta σ M fun x M1 => truD x M1 fun k => Q k M1) := by
  refine (pt_truth ha he).of fun σ H Q ⟨R, σd, M, Qd, rel, q, u⟩ => ⟨R, σd, M, _, rel, q, fun d M1 v H1 q1 k1 m1 i1 => ?_⟩
  obtain ⟨k, e, q2⟩ := tru_of m1 i1 q1
  exact ⟨k, e, u _ M1 H1 q2 k1 m1⟩
theorem mt_chain {op op' : CmpOp} (hu : X.A.units + 64 < cLine) (ha : PE X a (liftE X.K ta)) (hb : PE X b (liftE X.K tb)) (hc : PE X c (liftE X.K tc)) (hm : lastMarks [op, op'] [b, c] = false) :
    PT X (.Compare a [op, op'] [b, c] pos) (liftT X.K fun σ M Q => ta σ M fun x M1 => tb σ M1 fun y M2 => cmpD op x y M2 fun k => if k = true then tc σ M2 fun z M3 => cmpD op' y z M3 fun k' => Q k' M3 else Q false M2) := by
  refine (pt_chain (od_cmp hu op) (od_cmp hu op') ha hb hc hm).of fun σ H Q ⟨R, σd, M, Qd, rel, q, u⟩ => ?_
  refine ⟨R, σd, M, _, rel, q, fun d M1 v H1 q1 k1 m1 i1 => ?_⟩
  refine ⟨R, σd, M1, _, rel.keep k1 m1, q1, fun e M2 w' H2 q2 k2 m2 i2 => ?_⟩
  refine ⟨R, M2, d, e, _, m2, i1.keep k2, i2, cmp_bl op (Qd := fun k M' => if k = true then tc σd M' fun z M3 => cmpD op' e z M3 fun k' => Qd k' M3 else Qd false M') q2, fun d' M3 z H3 ⟨k, e3, q3⟩ k3 m3 i3 => ?_⟩
  subst e3
  refine ⟨k, inv_bl i3, ?_⟩
  cases k with
  | false =>
    rw [if_neg (by decide)] at q3 ⊢
    exact ⟨false, rfl, u _ M3 H3 q3 ((k1.trans k2).trans k3) m3⟩
  | true =>
    rw [if_pos rfl] at q3 ⊢
    exact ⟨R, σd, M3, _, ((rel.keep k1 m1).keep k2 m2).keep k3 m3, q3, fun f M4 z4 H4 q4 k4 m4 i4 => ⟨R, M4, e, f, _, m4, i2.keep (k3.trans k4), i4, cmp_bl op' q4, fun d' M5 z5 H5 ⟨k', e5, q5⟩ k5 m5 i5 => by
      subst e5
      exact ⟨k', inv_bl i5, u k' M5 H5 q5 ((((k1.trans k2).trans k3).trans k4).trans k5) m5⟩⟩⟩
theorem mt_nt (ha : PT X a (liftT X.K ua)) : PT X (.UnaryOp .Not a pos) (liftT X.K fun σ M Q => ua σ M fun k M1 => Q (!k) M1) :=
  (pt_not ha).of fun σ H Q ⟨R, σd, M, Qd, rel, q, u⟩ => ⟨R, σd, M, _, rel, q, fun k M1 H1 q1 k1 m1 => u _ M1 H1 q1 k1 m1⟩
theorem _root_.L2.PW.of {X : Cx} {e : Expr} {t t' : TT} (h : PW X e t) (i : ∀ σ H Q, t' σ H Q → t σ H Q) : PW X e t' := ⟨fun wh pins s σ H Q I q => h.run wh pins s σ H Q I (i σ H Q q)⟩
theorem mw_and {rest : List Expr} (ha : PT X a (liftT X.K ua)) (hb : PW X (.BoolOp .And (b :: rest) pos) (liftT X.K ub)) :
    PW X (.BoolOp .And (a :: b :: rest) pos) (liftT X.K fun σ M Q => ua σ M fun k M1 => if k = true then ub σ M1 Q else Q false M1) := by
  refine (pw_and ha hb).of fun σ H Q ⟨R, σd, M, Qd, rel, q, u⟩ => ⟨R, σd, M, _, rel, q, fun k M1 H1 q1 k1 m1 => ?_⟩
  cases k with
  | true => exact ⟨R, σd, M1, Qd, rel.keep k1 m1, q1, u.later k1⟩
  | false => exact u _ M1 H1 q1 k1 m1
theorem mw_or {rest : List Expr} (ha : PT X a (liftT X.K ua)) (hb : PW X (.BoolOp .Or (b :: rest) pos) (liftT X.K ub)) :
    PW X (.BoolOp .Or (a :: b :: rest) pos) (liftT X.K fun σ M Q => ua σ M fun k M1 => if k = true then Q true M1 else ub σ M1 Q) := by
  refine (pw_or ha hb).of fun σ H Q ⟨R, σd, M, Qd, rel, q, u⟩ => ⟨R, σd, M, _, rel, q, fun k M1 H1 q1 k1 m1 => ?_⟩
  cases k with
  | true => exact u _ M1 H1 q1 k1 m1
  | false => exact ⟨R, σd, M1, Qd, rel.keep k1 m1, q1, u.later k1⟩
theorem mt_ife (hc : PT X c (liftT X.K uc)) (ha : PT X a (liftT X.K ua)) (hb : PT X b (liftT X.K ub)) :
    PT X (.IfExp c a b pos) (liftT X.K fun σ M Q => uc σ M fun k M1 => if k = true then ua σ M1 Q else ub σ M1 Q) := by
  refine ⟨fun pins s σ H Q I ⟨R, σd, M, Qd, rel, q, u⟩ => ?_⟩
  have e : isTrue (.IfExp c a b pos) X.env (eval (.IfExp c a b pos) X.env) = (do if ← isTrue c X.env (eval c X.env) then isTrue a X.env (eval a X.env) else isTrue b X.env (eval b X.env)) := by
    first | rfl | (unfold isTrue; rfl)
  rw [e]
  refine wpAny_bind (thn (hc.run pins s σ H (fun k H1 => if k = true then liftT X.K ua σ H1 Q else liftT X.K ub σ H1 Q) I ⟨R, σd, M, _, rel, q, fun k M1 H1 q1 k1 m1 => ?_⟩) fun k s1 ⟨H1, I1, q1⟩ => ?_)
  · cases k with
    | true => exact ⟨R, σd, M1, Qd, rel.keep k1 m1, q1, u.later k1⟩
    | false => exact ⟨R, σd, M1, Qd, rel.keep k1 m1, q1, u.later k1⟩
  · cases k with
    | true => exact ha.run pins s1 σ H1 Q I1 q1
    | false => exact hb.run pins s1 σ H1 Q I1 q1
theorem me_bfn {f : BF} {id : String} {x : Str} {n : Nat} {es : List Expr} {t : MA} {p : Pos} (hc : CallD X (.builtin id) (bltD f)) (hg : Gl X x) (hm : X.mg x = none) (hv : bootBuiltins x = some (.builtin id)) (ha : PA X (a :: es) (liftA X.K n t))
    (hn : x ≠ "__name__") (hdb : (x == ("__debug__" : Str)) = false) (he : starEach (a :: es) X.env = (false, eval a X.env) :: starEach es X.env) (hpl : (backTo pos (starEach es X.env)).any (·.1) = false) :
    PE X (.Call (.Name x p) (a :: es) [] pos) (liftE X.K fun σ M Q => t σ M fun ds M1 => bltD f ds M1 Q) := (pe_callB hc hg hm hv ha hn hdb he hpl).of fun σ H Q h => args_of σ H Q h
theorem me_bty {f : BF} {T : String} {x : Str} {n : Nat} {es : List Expr} {t : MA} {p : Pos} (hc : CallD X (.type T) (bltD f)) (hg : Gl X x) (hm : X.mg x = none) (hv : bootBuiltins x = some (.type T)) (ha : PA X (a :: es) (liftA X.K n t))
    (hn : x ≠ "__name__") (hdb : (x == ("__debug__" : Str)) = false) (he : starEach (a :: es) X.env = (false, eval a X.env) :: starEach es X.env) (hpl : (backTo pos (starEach es X.env)).any (·.1) = false) :
    PE X (.Call (.Name x p) (a :: es) [] pos) (liftE X.K fun σ M Q => t σ M fun ds M1 => bltD f ds M1 Q) := (pe_callTy hc hg hm hv ha hn hdb he hpl).of fun σ H Q h => args_of σ H Q h
end
end Mx
namespace Mx
open PySem PySem.Spec PyProof.Rows L2 PySem.SeqAt
section
variable {X : Cx} {a b c : Expr} {ta tb tc : ME} {pos : Pos}
theorem ty_str {K : PySem.W.Frag} {H : Hp} {z : Str} {v : V} (i : IsD K H (.str z) v) : tyV K "str" v H := by cases inv_str i; rfl
theorem me_met {n : Nat} {f : MF} {T id : String} {name : Str} {es : List Expr} {t : MA} {apos : Pos} (pa : PlainAttrs T) (slot : Slot T name id) (hty : typeOf (.builtin id) = pure (.type "method_descriptor")) (hm : MetD X id (metD f))
    (ty : ∀ {R M H d v}, RelM X.K R M H → IsD X.K H d v → mtyD f d M → tyV X.K T v H) (ho : PE X a (liftE X.K ta)) (ha : PA X (b :: es) (liftA X.K n t))
    (hbase : attributeBase a name X.env (eval a X.env) = eval a X.env)
    (hfew : ((backTo pos (starEach (b :: es) X.env)).all (fun x => !x.1) && (backToKw pos (keywordEach [] X.env)).all (fun x => x.1.isSome) && decide ((b :: es).length + ([] : List Keyword).length + (if ([] : List Keyword).isEmpty then 0 else 1) < 30)) = true)
    (hline : (apos.endLine == pos.line) = true) (hs : starEach (b :: es) X.env = (false, eval b X.env) :: starEach es X.env) (hplain : (backTo pos (starEach es X.env)).any (·.1) = false) :
    PE X (.Call (.Attribute a name apos) (b :: es) [] pos) (liftE X.K fun σ M Q => ta σ M fun x M1 => mtyD f x M1 ∧ t σ M1 fun ds M2 => metD f x ds M2 Q) := by
  refine (pe_bm pa slot hty hm ho ha hbase hfew hline hs hplain).of fun σ H Q ⟨R, σd, M, Qd, rel, q, u⟩ => ⟨R, σd, M, _, rel, q, fun d M1 v H1 q1 k1 m1 i1 => ?_⟩
  refine ⟨ty m1 i1 q1.1, R, σd, M1, _, rel.keep k1 m1, q1.2, fun ds M2 vs H2 _ q2 k2 m2 i2 => ?_⟩
  exact ⟨R, M2, d, ds, Qd, m2, i1.keep k2, i2, q2, u.later (k1.trans k2)⟩
def usesD (f : LF) : String := match f with
  | .tuple => "tuple" | .len => "len" | .all => "all" | .any => "any" | .sum => "sum" | .join _ => "str.join"
theorem me_use {f : LF} {x : Str} {t : MA} {p : Pos} (hc : X.calm = true) (ha : PE X a (liftL X.K t)) (hg : Gl X x) (hm : X.mg x = none) (hv : bootBuiltins x = some (match f with | .tuple => .type "tuple" | f => .builtin (usesD f))) (nj : ∀ sep, f ≠ .join sep)
    (hn : x ≠ "__name__") (hdb : (x == ("__debug__" : Str)) = false) (he : starEach [a] X.env = [(false, eval a X.env)]) :
    PE X (.Call (.Name x p) [a] [] pos) (liftE X.K fun σ M Q => t σ M fun ds M1 => oflD f ds M1 Q) := by
  have pa : PA X [a] (tCons (liftL X.K t) tNil) := pa_cons ha pa_nil he
  have rule : ∀ fn : Value, fn = (match f with | .tuple => .type "tuple" | f => .builtin (usesD f)) → CallR X fn (fun vs H Q => ∃ R M ds p xs Qd, vs = [.ref p] ∧ RelM X.K R M H ∧ H p = some (.lst xs) ∧ IsDs X.K H ds xs ∧ oflD f ds M Qd ∧ UpE X.K R H Qd Q) := by
    rintro fn rfl pins s σ H vs us Q I r ⟨R, M, ds, p, xs, Qd, rfl, m, hp, i, h, up⟩
    cases Vals.ref1 r
    have q := use_of (f := f) hc I m hp i h up
    cases f with
    | join sep => exact absurd rfl (nj sep)
    | tuple => exact q
    | len => exact q
    | all => exact q
    | any => exact q
    | sum => exact q
  have go : ∀ (σ : L2.St) (H : Hp) (Q : VK), liftE X.K (fun σ M Q => t σ M fun ds M1 => oflD f ds M1 Q) σ H Q → tCB (fun vs H Q => ∃ R M ds p xs Qd, vs = [.ref p] ∧ RelM X.K R M H ∧ H p = some (.lst xs) ∧ IsDs X.K H ds xs ∧ oflD f ds M Qd ∧ UpE X.K R H Qd Q) (tCons (liftL X.K t) tNil) σ H Q := by
    rintro σ H Q ⟨R, σd, M, Qd, rel, q, u⟩
    exact ⟨R, σd, M, _, rel, q, fun ds M1 p xs H1 q1 k1 m1 n n1 hp hR i1 => ⟨R, M1, ds, p, xs, Qd, rfl, m1, hp, i1, q1, u.later k1⟩⟩
  cases f with
  | join sep => exact absurd rfl (nj sep)
  | tuple => exact (pe_callTy (rule _ rfl) hg hm hv pa hn hdb he rfl).of go
  | len => exact (pe_callB (rule _ rfl) hg hm hv pa hn hdb he rfl).of go
  | all => exact (pe_callB (rule _ rfl) hg hm hv pa hn hdb he rfl).of go
  | any => exact (pe_callB (rule _ rfl) hg hm hv pa hn hdb he rfl).of go
  | sum => exact (pe_callB (rule _ rfl) hg hm hv pa hn hdb he rfl).of go
theorem me_join {sep : Str} {t : MA} {apos p2 : Pos} {j : Nat} (hc : X.calm = true) (ha : PE X a (liftL X.K t)) (he : starEach [a] X.env = [(false, eval a X.env)]) (hline : (apos.endLine == pos.line) = true) :
    PE X (.Call (.Attribute (.Constant (.str sep) j p2) "join" apos) [a] [] pos) (liftE X.K fun σ M Q => t σ M fun ds M1 => oflD (.join sep) ds M1 Q) := by
  have pa : PA X [a] (tCons (liftL X.K t) tNil) := pa_cons ha pa_nil he
  have rule : MtR X "str.join" (fun x vs H Q => ∃ R M ds p xs Qd, x = .str sep ∧ vs = [.ref p] ∧ RelM X.K R M H ∧ H p = some (.lst xs) ∧ IsDs X.K H ds xs ∧ oflD (.join sep) ds M Qd ∧ UpE X.K R H Qd Q) := by
    rintro pins s σ H x vs v us Q I rx r ⟨R, M, ds, p, xs, Qd, rfl, rfl, m, hp, i, h, up⟩
    cases Vals.ref1 r
    obtain ⟨tk, rfl⟩ := rx
    exact use_of (f := .join sep) hc I m hp i h up tk
  refine (pe_bm PySem.F.plainAttrs_str PySem.F.slot_str_join PySem.F.type_str_join rule (pe_str (x := sep)) pa rfl ?_ hline he rfl).of fun σ H Q ⟨R, σd, M, Qd, rel, q, u⟩ => ?_
  · rw [he]; rfl
  · exact ⟨rfl, R, σd, M, _, rel, q, fun ds M1 p xs H1 q1 k1 m1 n n1 hp hR i1 => ⟨R, M1, ds, p, xs, Qd, rfl, rfl, m1, hp, i1, q1, u.later k1⟩⟩
theorem me_isi {T : String} {y : Str} {p p2 : Pos} (ha : PE X a (liftE X.K ta)) (hg : Gl X "isinstance") (hm : X.mg "isinstance" = none) (hgT : Gl X y) (hmT : X.mg y = none) (hvT : bootBuiltins y = some (.type T)) (hnT : y ≠ "__name__") (hdT : (y == ("__debug__" : Str)) = false)
    (he : starEach [a, .Name y p2] X.env = (false, eval a X.env) :: starEach [.Name y p2] X.env) :
    PE X (.Call (.Name "isinstance" p) [a, .Name y p2] [] pos) (liftE X.K fun σ M Q => ta σ M fun x M1 => match isiD x M1 T with
      | some b => Q (.bl b) M1
      | none => False) := by
  have pT : PE X (.Name y p2) (tC (.ty T)) := pe_bltn hgT hmT hvT rfl hnT hdT
  have pa : PA X [a, .Name y p2] (tCons (liftE X.K ta) (tCons (tC (.ty T)) tNil)) := pa_cons ha (pa_cons pT pa_nil rfl) he
  refine (pe_callB (cd_isi (T := T)) hg hm boot_isinstance pa (by decide) (by decide) he rfl).of fun σ H Q ⟨R, σd, M, Qd, rel, q, u⟩ => ?_
  exact ⟨R, σd, M, _, rel, q, fun d M1 v H1 q1 k1 m1 i1 => ⟨R, M1, d, Qd, v, rfl, m1, i1, q1, u.later k1⟩⟩
def rFs : List (Str ⊕ ME) → Str → Sd → MH → (Str → MH → Prop) → Prop
  | [], acc, _, M, Q => Q acc M
  | .inl s :: r, acc, σ, M, Q => acc.length + s.length ≤ sizeLine ∧ rFs r (acc ++ s) σ M Q
  | .inr t :: r, acc, σ, M, Q => t σ M fun x M1 => fmtD x fun s => acc.length + s.length ≤ sizeLine ∧ rFs r (acc ++ s) σ M1 Q
theorem len_app (x y : Str) : (x ++ y).length = x.length + y.length := strLen_append x y
inductive Part (X : Cx) : Expr → (Str ⊕ ME) → TE → Prop where
  | lit {s : Str} {j : Nat} {p : Pos} : Part X (.Constant (.str s) j p) (.inl s) (tC (.str s))
  | val {e : Expr} {t : ME} {p : Pos} (h : PE X e (liftE X.K t)) : Part X (.FormattedValue e (-1) none p) (.inr t) (tFmt (liftE X.K t))
inductive Parts (X : Cx) : List Expr → List (Str ⊕ ME) → List TE → Prop where
  | nil : Parts X [] [] []
  | cons {e : Expr} {m : Str ⊕ ME} {t : TE} {es : List Expr} {ms : List (Str ⊕ ME)} {ts : List TE} (h : Part X e m t) (r : Parts X es ms ts) : Parts X (e :: es) (m :: ms) (t :: ts)
theorem Parts.pj {es : List Expr} {ms : List (Str ⊕ ME)} {ts : List TE} (h : Parts X es ms ts) : PJ X es ts := by
  induction h with
  | nil => exact .nil
  | cons h r ih =>
    cases h with
    | lit => exact .cons pe_str ih
    | val h => exact .cons (pe_fmt h) ih
theorem Parts.read {es : List Expr} {ms : List (Str ⊕ ME)} {ts : List TE} (h : Parts X es ms ts) : ∀ (acc : Str) (σ : L2.St) (H : Hp) (Q : Str → Hp → Prop) (R : List (Addr × HO)) (σd : Sd) (M : MH) (Qd : Str → MH → Prop), acc.length ≤ sizeLine → Rel X.K R σd M σ H → rFs ms acc σd M Qd →
    (∀ s M' H', Qd s M' → Keep X.K H H' → RelM X.K R M' H' → Q s H') → tJs ts acc σ H Q := by
  induction h with
  | nil => exact fun acc σ H Q R σd M Qd hz rel q u => u acc M H q .rfl rel.m
  | cons h r ih =>
    intro acc σ H Q R σd M Qd hz rel q u
    cases h with
    | @lit s j p => exact ⟨s, rfl, by rw [len_app]; exact q.1, ih _ σ H Q R σd M Qd (by rw [len_app]; exact q.1) rel q.2 u⟩
    | val h =>
      refine ⟨R, σd, M, _, rel, q, fun d M1 v H1 q1 k1 m1 i1 => ?_⟩
      have go : ∀ y : Str, (acc.length + y.length ≤ sizeLine ∧ rFs _ (acc ++ y) σd M1 Qd) → ∃ z : Str, V.str y = .str z ∧ (acc ++ z).length ≤ sizeLine ∧ tJs _ (acc ++ z) σ H1 Q := fun y hy =>
        ⟨y, rfl, by rw [len_app]; exact hy.1, ih _ σ H1 Q R σd M1 Qd (by rw [len_app]; exact hy.1) (rel.keep k1 m1) hy.2 fun s M' H' q' k' m' => u s M' H' q' (k1.trans k') m'⟩
      cases d <;> first | exact q1.elim | skip
      · cases inv_int i1
        exact .inr ⟨_, rfl, q1.1, go _ q1.2⟩
      · cases inv_str i1
        have q2 : acc.length + _ ≤ sizeLine ∧ _ := q1
        exact .inl ⟨_, rfl, by have := q2.1; omega, go _ q1⟩
theorem me_fst {v1 v2 : Expr} {rest : List Expr} {ms : List (Str ⊕ ME)} {ts : List TE} (h : Parts X (v1 :: v2 :: rest) ms ts) : PE X (.JoinedStr (v1 :: v2 :: rest) pos) (liftE X.K fun σ M Q => rFs ms Str.empty σ M fun s M1 => Q (.str s) M1) := by
  refine (pe_joined h.pj).of fun σ H Q ⟨R, σd, M, Qd, rel, q, u⟩ => ?_
  exact h.read Str.empty σ H _ R σd M _ (Nat.zero_le _) rel q fun s M' H' q' k' m' => u _ M' _ H' q' k' m' mk_str
end

structure FnG (P : Program) (w : World) (K : PySem.W.Frag) (mg : Str → Option Value) (base : Heap) (k : Nat) (f : Addr) (fd : FuncData) (ps : List Str) (sp : Sp) : Prop where
  len : ∀ vs H Q E, sp vs H Q E → vs.length = ps.length
  run : ∀ (A : Around) (outer : List Env) (s : Shared) (H : Hp) (args : Args) (us : List Value) (vs : List V) (Q : VK) (E : XK), Room k A → A.guards = some [] → Env0 P w K mg base A outer s H → BindsTo s fd args (ps.zip us) →
    Vals vs us → sp vs H Q E → codeAny (model P w) A (.call (.ref f) args) (CR CX0 outer P w H s Q E) s
theorem FnG.mono {P : Program} {w : World} {K : PySem.W.Frag} {mg : Str → Option Value} {base : Heap} {j k : Nat} {f : Addr} {fd : FuncData} {ps : List Str} {sp : Sp} (F : FnG P w K mg base j f fd ps sp) (h : j ≤ k) : FnG P w K mg base k f fd ps sp :=
  ⟨F.len, fun A outer s H args us vs Q E hr => F.run A outer s H args us vs Q E (hr.mono h)⟩
def liftSp (K : PySem.W.Frag) (n : Nat) (sp : FSp) : Sp := fun vs H Q _ => ∃ R M ds Qd, ds.length = n ∧ RelM K R M H ∧ IsDs K H ds vs ∧ sp ds M Qd (fun _ _ => False) ∧ UpE K R H Qd Q
structure CallOk (X : Cx) (f : Str) (n : Nat) (sp : FSp) : Prop where
  ex : ∃ (k : Nat) (fa : Addr) (fd : FuncData) (ps : List Str), ps.length = n ∧ FnG X.prog X.w X.K X.mg X.base k fa fd ps (liftSp X.K n sp) ∧ Room k X.A ∧ X.mg f = some (.ref fa) ∧ PySem.W.keepIn X.K (.ref fa) = true ∧ Binds X.K fd ps []
section
variable {X : Cx} {a : Expr} {pos : Pos}
theorem me_call {f : Str} {n : Nat} {sp : FSp} {es : List Expr} {t : MA} {p : Pos} (hG : X.A.guards = some []) (C : CallOk X f n sp) (hg : Gl X f) (ha : PA X (a :: es) (liftA X.K n t))
    (hdb : (f == ("__debug__" : Str)) = false) (he : starEach (a :: es) X.env = (false, eval a X.env) :: starEach es X.env) (hpl : (backTo pos (starEach es X.env)).any (·.1) = false) :
    PE X (.Call (.Name f p) (a :: es) [] pos) (liftE X.K fun σ M Q => t σ M fun ds M1 => sp ds M1 Q fun _ _ => False) := by
  obtain ⟨k, fa, fd, ps, hps, F, hr, hm, hk, hb⟩ := C.ex
  refine ⟨fun pins s σ H Q I ⟨R, σd, M, Qd, rel, q, u⟩ => ?_⟩
  refine wpAny_Call_Name_kw (ld_glob I hg hm ?_ hdb)
  refine PySem.W.callWith_K (h₀ := X.base) I.ok.mod.kin hk (thn (ha.run pos pins s σ H (fun vs H1 => liftSp X.K n sp vs H1 Q fun _ _ _ => False) I ⟨R, σd, M, _, rel, q, fun ds M1 vs H1 l1 q1 k1 m1 i1 => ?_⟩) fun us s1 ⟨vs, H1, I1, r, q1⟩ => ⟨I1.kIn, ?_⟩) he hpl
  · exact ⟨R, M1, ds, Qd, l1, m1, i1, q1, u.later k1⟩
  · have el := F.len _ _ _ _ q1
    have hl2 : (us ++ ([] : List Value)).length = ps.length := by rw [List.append_nil, ← r.length]; exact el
    have bt := hb s1 us I1.kIn hl2
    rw [List.append_nil] at bt
    refine wpAny_call (codeAny_mono (F.run X.A X.stack s1 H1 ⟨us, []⟩ us vs Q (fun _ _ _ => False) hr hG I1.env0 bt r q1) fun res s2 hq => ?_)
    cases res with
    | error e => exact hq.elim
    | ok fl => cases fl with
      | ret z => exact I1.after hq
      | next => exact hq.elim
      | brk => exact hq.elim
      | cont => exact hq.elim
structure KwOk (X : Cx) (f : Str) (m : Nat) (ks : List Str) (sp : FSp) : Prop where
  ex : ∃ (k : Nat) (fa : Addr) (fd : FuncData) (ps : List Str) (sp0 : FSp) (g : List Value → List Value → List Value) (gV : List V → List V → List V) (gD : List D → List D → List D),
    FnG X.prog X.w X.K X.mg X.base k fa fd ps (liftSp X.K ps.length sp0) ∧ Room k X.A ∧ X.mg f = some (.ref fa) ∧ PySem.W.keepIn X.K (.ref fa) = true ∧ KBn X.K fd ps m ks g gV ∧
    (∀ H ds vs es zs, IsDs X.K H ds vs → IsDs X.K H es zs → IsDs X.K H (gD ds es) (gV vs zs)) ∧ (∀ ds es, ds.length = m → es.length = ks.length → (gD ds es).length = ps.length) ∧
    ∀ ds es M Q E, ds.length = m → es.length = ks.length → sp (ds ++ es) M Q E → sp0 (gD ds es) M Q E
theorem mk_nil : PK X [] (liftA X.K 0 fun _ M Q => Q [] M) := ⟨fun pos pins s σ H Q I ⟨R, σd, M, Qd, rel, q, u⟩ => pk_nil.run pos pins s σ H Q I (u [] M [] H rfl q .rfl rel.m .nil)⟩
theorem mk_cons {nm : Option Str} {kpos : Pos} {kws : List Keyword} {n : Nat} {ta : ME} {t : MA} (ha : PE X a (liftE X.K ta)) (hr : PK X kws (liftA X.K n t)) : PK X (⟨nm, a, kpos⟩ :: kws) (liftA X.K (n + 1) fun σ M Q => ta σ M fun d M1 => t σ M1 fun ds M2 => Q (d :: ds) M2) := by
  refine ⟨fun pos pins s σ H Q I ⟨R, σd, M, Qd, r, q, u⟩ => (pk_cons ha hr).run pos pins s σ H Q I ?_⟩
  refine ⟨R, σd, M, _, r, q, fun d M1 v H1 q1 k1 m1 i1 => ?_⟩
  exact ⟨R, σd, M1, _, r.keep k1 m1, q1, fun ds M2 vs H2 l2 q2 k2 m2 i2 => u (d :: ds) M2 (v :: vs) H2 (by rw [List.length_cons, l2]) q2 (k1.trans k2) m2 (.cons (i1.keep k2) i2)⟩
theorem kw_all {pos : Pos} {env : Env} : ∀ {kws : List Keyword} {ks : List Str}, kws.map (·.arg) = ks.map some →
    (backToKw pos (keywordEach kws env)).all (·.1.isSome) = true ∧ (backToKw pos (keywordEach kws env)).filterMap (·.1) = ks ∧ (backToKw pos (keywordEach kws env)).any (·.1.isNone) = false
  | [], [], _ => ⟨rfl, rfl, rfl⟩
  | [], _ :: _, h => by cases h
  | _ :: _, [], h => by cases h
  | ⟨nm, e, p⟩ :: kws, k :: ks, h => by
    have h' : nm :: kws.map (·.arg) = some k :: ks.map some := h
    injection h' with e1 e2
    subst e1
    obtain ⟨a, b, c⟩ := kw_all (pos := pos) (env := env) e2
    refine ⟨?_, ?_, ?_⟩
    · show (true && (backToKw pos (keywordEach kws env)).all (·.1.isSome)) = true
      rw [a]
      rfl
    · show k :: (backToKw pos (keywordEach kws env)).filterMap (·.1) = k :: ks
      rw [b]
    · show (false || (backToKw pos (keywordEach kws env)).any (·.1.isNone)) = false
      rw [c]
      rfl
theorem run_kw {f : Str} {ks : List Str} {sp : FSp} {k : Nat} {fa : Addr} {fd : FuncData} {ps : List Str} {sp0 : FSp} {g : List Value → List Value → List Value} {gV : List V → List V → List V} {gD : List D → List D → List D} {m : Nat} {pins : List (Addr × Obj)} {σ : L2.St} {H : Hp} {s : Shared} {Q : VK}
    {us ws : List Value} {vs zs : List V} {R : List (Addr × HO)} {M : MH} {ds es : List D} {Qd : KE} (hG : X.A.guards = some []) (F : FnG X.prog X.w X.K X.mg X.base k fa fd ps (liftSp X.K ps.length sp0)) (hr : Room k X.A) (hb : KBn X.K fd ps m ks g gV)
    (hd : ∀ H ds vs es zs, IsDs X.K H ds vs → IsDs X.K H es zs → IsDs X.K H (gD ds es) (gV vs zs)) (hl : ∀ ds es, ds.length = m → es.length = ks.length → (gD ds es).length = ps.length)
    (I : Inv X pins σ H s) (r : Vals vs us) (rz : Vals zs ws) (ml : RelM X.K R M H) (i1 : IsDs X.K H ds vs) (i2 : IsDs X.K H es zs) (l1 : ds.length = m) (l2 : es.length = ks.length) (h : sp0 (gD ds es) M Qd fun _ _ => False) (up : UpE X.K R H Qd Q) :
    wpAny (model X.prog X.w) X.A (call (.ref fa) us (ks.zip ws)) (EP X pins σ Q) X.xe s := by
  have lu : us.length = m := by rw [← r.length, i1.length, l1]
  have lw : ws.length = ks.length := by rw [← rz.length, i2.length, l2]
  refine wpAny_call (codeAny_mono (F.run X.A X.stack s H ⟨us, ks.zip ws⟩ (g us ws) (gV vs zs) Q (fun _ _ _ => False) hr hG I.env0 (hb.to s us ws I.kIn lu lw) (hb.rel r rz) ⟨R, M, gD ds es, Qd, hl ds es l1 l2, ml, hd _ _ _ _ _ i1 i2, h, up⟩) fun res s' hq => ?_)
  cases res with
  | error e => exact hq.elim
  | ok fl => cases fl with
    | ret u => exact I.after hq
    | next => exact hq.elim
    | brk => exact hq.elim
    | cont => exact hq.elim
abbrev KwEnd (X : Cx) (n : Nat) (ks : List Str) (sp : FSp) (Q : VK) (vs zs : List V) (H : Hp) : Prop := ∃ R M ds es Qd, RelM X.K R M H ∧ IsDs X.K H ds vs ∧ IsDs X.K H es zs ∧ ds.length = n ∧ es.length = ks.length ∧ sp (ds ++ es) M Qd (fun _ _ => False) ∧ UpE X.K R H Qd Q
theorem me_callk {f : Str} {n : Nat} {ks : List Str} {sp : FSp} {e : Expr} {r : List Expr} {kws : List Keyword} {t tk : MA} {p : Pos} (hG : X.A.guards = some []) (C : KwOk X f n ks sp) (hg : Gl X f) (ha : PA X (e :: r) (liftA X.K n t)) (hk : PK X kws (liftA X.K ks.length tk)) (hks : kws.map (·.arg) = ks.map some)
    (hdb : (f == ("__debug__" : Str)) = false) (he : starEach (e :: r) X.env = (false, eval e X.env) :: starEach r X.env) (hpl : (backTo pos (starEach (e :: r) X.env)).any (·.1) = false) :
    PE X (.Call (.Name f p) (e :: r) kws pos) (liftE X.K fun σ M Q => t σ M fun ds M1 => tk σ M1 fun ds' M2 => sp (ds ++ ds') M2 Q fun _ _ => False) := by
  obtain ⟨k, fa, fd, ps, sp0, g, gV, gD, F, hr, hm, kp, hb, hd, hlen, hsp⟩ := C.ex
  obtain ⟨a1, a2, a3⟩ := kw_all (pos := pos) (env := X.env) hks
  refine ⟨fun pins s σ H Q I ⟨R, σd, M, Qd, rel, q, u⟩ => ?_⟩
  refine wpAny_Call_Name_kw (ld_glob I hg hm ?_ hdb)
  refine PySem.W.callWith_KW (h₀ := X.base) I.ok.mod.kin kp a1 (thn (ha.run pos pins s σ H (fun vs H1 => liftA X.K ks.length tk σ H1 fun zs H2 => KwEnd X n ks sp Q vs zs H2) I
    ⟨R, σd, M, _, rel, q, fun ds M1 vs H1 l1 q1 k1 m1 i1 => ⟨R, σd, M1, _, rel.keep k1 m1, q1, fun ds' M2 zs H2 l2 q2 k2 m2 i2 => ⟨R, M2, ds, ds', Qd, m2, i1.keep k2, i2, l1, l2, q2, u.later (k1.trans k2)⟩⟩⟩) fun us s1 ⟨vs, H1, I1, r1, q1⟩ => ?_) (by rw [hpl, a3]; rfl) he
  refine thn (hk.run pos pins s1 σ H1 _ I1 q1) fun ws s2 ⟨zs, H2, I2, rz, R2, M2, ds, es, Qd2, m2, i1, i2, l1, l2, q2, u2⟩ => ⟨I2.kIn, ?_⟩
  rw [a2]
  exact run_kw (f := f) (sp := sp) hG F hr hb hd hlen I2 r1 rz m2 i1 i2 l1 l2 (hsp _ _ _ _ _ l1 l2 q2) u2
theorem me_callk0 {f : Str} {ks : List Str} {sp : FSp} {kws : List Keyword} {tk : MA} {p : Pos} (hG : X.A.guards = some []) (C : KwOk X f 0 ks sp) (hg : Gl X f) (hk : PK X kws (liftA X.K ks.length tk)) (hks : kws.map (·.arg) = ks.map some) (hdb : (f == ("__debug__" : Str)) = false) :
    PE X (.Call (.Name f p) [] kws pos) (liftE X.K fun σ M Q => tk σ M fun ds' M2 => sp ([] ++ ds') M2 Q fun _ _ => False) := by
  obtain ⟨k, fa, fd, ps, sp0, g, gV, gD, F, hr, hm, kp, hb, hd, hlen, hsp⟩ := C.ex
  obtain ⟨a1, a2, a3⟩ := kw_all (pos := pos) (env := X.env) hks
  refine ⟨fun pins s σ H Q I ⟨R, σd, M, Qd, rel, q, u⟩ => ?_⟩
  refine wpAny_Call_Name_kw (ld_glob I hg hm ?_ hdb)
  refine PySem.W.callWith_KW0 (h₀ := X.base) I.ok.mod.kin kp a1 ?_ (by rw [a3]; rfl)
  refine thn (hk.run pos pins s σ H (fun zs H2 => KwEnd X 0 ks sp Q [] zs H2) I ⟨R, σd, M, _, rel, q, fun ds' M2 zs H2 l2 q2 k2 m2 i2 => ⟨R, M2, [], ds', Qd, m2, .nil, i2, rfl, l2, q2, u.later k2⟩⟩) fun ws s2 ⟨zs, H2, I2, rz, R2, M2, ds, es, Qd2, m2, i1, i2, l1, l2, q2, u2⟩ => ⟨I2.kIn, ?_⟩
  rw [a2]
  exact run_kw (f := f) (sp := sp) (us := []) hG F hr hb hd hlen I2 .nil rz m2 i1 i2 l1 l2 (hsp _ _ _ _ _ l1 l2 q2) u2
end
end Mx
namespace Mx
open PySem PySem.Spec PyProof.Rows L2 PySem.SeqAt
abbrev MG := D → Sd → MH → KS → Prop
abbrev MGs := List D → Sd → MH → KS → Prop
abbrev MS := MK → KS
def UpK (K : PySem.W.Frag) (R : List (Addr × HO)) (H : Hp) (Qd : KS) (Q : L2.St → Hp → Prop) : Prop := ∀ σd M' σ' H', Qd σd M' → Keep K H H' → Rel K R σd M' σ' H' → Q σ' H'
theorem UpK.later {K : PySem.W.Frag} {R : List (Addr × HO)} {H H1 : Hp} {Qd : KS} {Q : L2.St → Hp → Prop} (u : UpK K R H Qd Q) (k : Keep K H H1) : UpK K R H1 Qd Q := fun σd M' σ' H' q k' r => u σd M' σ' H' q (k.trans k') r
def liftG (K : PySem.W.Frag) (t : MG) : TG := fun v σ H Q => ∃ R σd M Qd d, Rel K R σd M σ H ∧ IsD K H d v ∧ t d σd M Qd ∧ UpK K R H Qd Q
def liftGs (K : PySem.W.Frag) (t : MGs) : TGs := fun vs σ H Q => ∃ R σd M Qd ds, Rel K R σd M σ H ∧ IsDs K H ds vs ∧ t ds σd M Qd ∧ UpK K R H Qd Q
structure UpS (K : PySem.W.Frag) (R : List (Addr × HO)) (H : Hp) (k : MK) (Dn : Ends) : Prop where
  nx : UpK K R H k.nx Dn.nx
  rt : UpE K R H k.rt Dn.rt
  bk : UpK K R H k.bk Dn.bk
  ct : UpK K R H k.ct Dn.ct
theorem UpS.later {K : PySem.W.Frag} {R : List (Addr × HO)} {H H1 : Hp} {k : MK} {Dn : Ends} (u : UpS K R H k Dn) (h : Keep K H H1) : UpS K R H1 k Dn := ⟨u.nx.later h, u.rt.later h, u.bk.later h, u.ct.later h⟩
def liftS (K : PySem.W.Frag) (t : MS) : TS := fun Dn σ H => ∃ R σd M k, Rel K R σd M σ H ∧ t k σd M ∧ UpS K R H k Dn
theorem _root_.L2.PG.of {X : Cx} {e : Expr} {t t' : TG} (h : PG X e t) (i : ∀ v σ H Q, t' v σ H Q → t v σ H Q) : PG X e t' := ⟨fun pins s σ H v u Q I r q => h.run pins s σ H v u Q I r (i v σ H Q q)⟩
theorem _root_.L2.PGs.of {X : Cx} {e : List Expr} {t t' : TGs} (h : PGs X e t) (i : ∀ v σ H Q, t' v σ H Q → t v σ H Q) : PGs X e t' := ⟨fun pins s σ H v u Q I r q => h.run pins s σ H v u Q I r (i v σ H Q q)⟩
theorem _root_.L2.PS.of {X : Cx} {e : Stmt} {t t' : TS} (h : PS X e t) (i : ∀ Dn σ H, t' Dn σ H → t Dn σ H) : PS X e t' := ⟨fun pins s σ H Dn I q => h.run pins s σ H Dn I (i Dn σ H q)⟩
theorem _root_.L2.PSs.of {X : Cx} {e : List Stmt} {t t' : TS} (h : PSs X e t) (i : ∀ Dn σ H, t' Dn σ H → t Dn σ H) : PSs X e t' := ⟨fun pins s σ H Dn I q => h.run pins s σ H Dn I (i Dn σ H q)⟩
theorem RelS.set {K : PySem.W.Frag} {σd : Sd} {σ : L2.St} {H : Hp} (r : RelS K σd σ H) {i : Nat} {d : D} {v : V} (h : IsD K H d v) : RelS K (σd.set i (some d)) (σ.set i (some v)) H where
  len := by rw [List.length_set, List.length_set, r.len]
  at_ := fun j e q => by
    by_cases hj : j = i
    · subst hj
      by_cases hl : j < σd.length
      · rw [List.getElem?_set_self hl] at q
        cases q
        exact ⟨v, List.getElem?_set_self (by rw [r.len]; exact hl), h⟩
      · rw [List.getElem?_eq_none (by rw [List.length_set]; omega)] at q
        cases q
    · rw [List.getElem?_set_ne (Ne.symm hj)] at q ⊢
      exact r.at_ j e q
theorem RelS.unset {K : PySem.W.Frag} {σd : Sd} {σ : L2.St} {H : Hp} (r : RelS K σd σ H) {i : Nat} : RelS K (σd.set i none) (σ.set i none) H where
  len := by rw [List.length_set, List.length_set, r.len]
  at_ := fun j e q => by
    by_cases hj : j = i
    · subst hj
      by_cases hl : j < σd.length
      · rw [List.getElem?_set_self hl] at q
        cases q
      · rw [List.getElem?_eq_none (by rw [List.length_set]; omega)] at q
        cases q
    · rw [List.getElem?_set_ne (Ne.symm hj)] at q ⊢
      exact r.at_ j e q
theorem RelS.wipe {K : PySem.W.Frag} {σd : Sd} {σ : L2.St} {H : Hp} (r : RelS K σd σ H) : ∀ vs : List Nat, RelS K (wipeD σd vs) (L2.wipe σ vs) H
  | [] => r
  | v :: vs => (RelS.wipe r vs).unset
section
variable {X : Cx} {a b c : Expr} {ta tb tc : ME} {ua ub uc : MT} {pos : Pos}
theorem mg_nm {i : Nat} {x : Str} (hN : X.N.Nodup) (hi : X.N[i]? = some x) (hx : Loc X.env.scope x) (hf : X.fn x = true ∨ X.env.scope.names.lookup x = some .local) : PG X (.Name x pos) (liftG X.K fun d σ M Q => Q (σ.set i (some d)) M) :=
  (pg_name hN hi hx hf).of fun v σ H Q ⟨R, σd, M, Qd, d, rel, i1, q, u⟩ => u _ M _ H q .rfl ⟨rel.s.set i1, rel.m⟩
theorem mgs_nil : PGs X [] (liftGs X.K fun ds σ M Q => ds = [] ∧ Q σ M) :=
  pgs_nil.of fun v σ H Q ⟨R, σd, M, Qd, ds, rel, i1, ⟨e, q⟩, u⟩ => by
    subst e
    exact ⟨i1.inv_nil, u _ M _ H q .rfl rel⟩
theorem mgs_cons {es : List Expr} {t : MG} {ts : MGs} (h1 : PG X a (liftG X.K t)) (h2 : PGs X es (liftGs X.K ts)) (hs : (assignEach (a :: es) X.env).map (·.2) = assign a X.env :: (assignEach es X.env).map (·.2)) :
    PGs X (a :: es) (liftGs X.K fun ds σ M Q => match ds with
      | d :: r => t d σ M fun σ1 M1 => ts r σ1 M1 Q
      | [] => False) := by
  refine (pgs_cons h1 h2 hs).of fun vs σ H Q ⟨R, σd, M, Qd, ds, rel, i1, q, u⟩ => ?_
  match ds, q with
  | d :: r, q =>
    obtain ⟨x, ys, rfl, j1, j2⟩ := i1.inv
    refine ⟨x, ys, rfl, R, σd, M, _, d, rel, j1, q, fun σd1 M1 σ1 H1 q1 k1 r1 => ?_⟩
    exact ⟨R, σd1, M1, Qd, r, r1, j2.keep k1, q1, u.later k1⟩
  | [], q => exact q.elim
theorem mg_tp {es : List Expr} {ts : MGs} {k n : Nat} (hc : X.calm = true) (h : PGs X es (liftGs X.K ts)) (hn : (assignEach es X.env).length = n) (hst : (assignEach es X.env).findIdx? (·.1) = none) :
    PG X (.Tuple es k pos) (liftG X.K fun d σ M Q => match d with
      | .tup ds => ds.length = n ∧ ts ds σ M Q
      | _ => False) := by
  refine (pg_tup hc h hn hst).of fun v σ H Q ⟨R, σd, M, Qd, d, rel, i1, q, u⟩ => ?_
  cases d <;> first | exact q.elim | skip
  obtain ⟨p, xs, rfl, sx, r⟩ := inv_tup i1
  exact ⟨p, xs, rfl, sx, by rw [r.length]; exact q.1, R, σd, M, Qd, _, rel, r, q.2, u⟩
theorem mg_ix (ho : PE X a (liftE X.K ta)) (hi : PE X b (liftE X.K tb))
    (ha : ∀ v, assign (.Subscript a b pos) X.env v = (do
      let ov ← holding [v] (eval a X.env)
      let iv ← holding [v, ov] (eval b X.env)
      standAt pos
      holding [v, ov, iv] (setItem ov iv v)
      release [v, ov, iv] [])) :
    PG X (.Subscript a b pos) (liftG X.K fun d σ M Q => ta σ M fun x M1 => tb σ M1 fun y M2 => match x, y with
      | .ref p, .int n => ∃ xs j, M2.get p = some (.lst xs) ∧ ixN xs.length n = some j ∧ Q σ (M2.put p (.lst (xs.set j d)))
      | _, _ => False) := by
  refine (pg_sub ho hi set_list ha).of fun v σ H Q ⟨R, σd, M, Qd, d, rel, i1, q, u⟩ => ?_
  refine ⟨R, σd, M, _, rel, q, fun e M1 x H1 q1 k1 m1 j1 => ?_⟩
  refine ⟨R, σd, M1, _, rel.keep k1 m1, q1, fun f M2 y H2 q2 k2 m2 j2 => ?_⟩
  cases e <;> cases f <;> first | exact q2.elim | skip
  obtain ⟨xs, j, g, hj, q3⟩ := q2
  obtain ⟨zs, hz, r⟩ := lst_of m2 g
  have k3 : Keep X.K H2 (upd H2 _ (.lst (zs.set j v))) := .put hz trivial
  refine ⟨_, zs, _, j, inv_ref (j1.keep k2), inv_int j2, hz, by rw [r.length]; exact hj, ?_⟩
  have i2 := (i1.keep (k1.trans k2))
  exact u _ _ _ _ q3 ((k1.trans k2).trans k3) ⟨rel.s.keep ((k1.trans k2).trans k3), m2.put g k3 ⟨_, upd_same, (r.set j i2).keep k3⟩⟩
variable {st : Stmt} {sts : List Stmt} {t u : MS}
theorem mss_nil : PSs X [] (liftS X.K fun k σ M => k.nx σ M) := pss_nil.of fun Dn σ H ⟨R, σd, M, k, rel, q, up⟩ => up.nx _ M _ H q .rfl rel
theorem mss_cons (h1 : PS X st (liftS X.K t)) (h2 : PSs X sts (liftS X.K u)) : PSs X (st :: sts) (liftS X.K fun k σ M => t ⟨u k, k.rt, k.bk, k.ct⟩ σ M) := by
  refine (pss_cons h1 h2).of fun Dn σ H ⟨R, σd, M, k, rel, q, up⟩ => ?_
  exact ⟨R, σd, M, _, rel, q, ⟨fun σd1 M1 σ1 H1 q1 k1 r1 => ⟨R, σd1, M1, k, r1, q1, up.later k1⟩, up.rt, up.bk, up.ct⟩⟩
theorem ms_expr (h : PE X a (liftE X.K ta)) (hs : swapsWith a none pos.line X.env = pure false) : PS X (.Expr a pos) (liftS X.K fun k σ M => ta σ M fun _ M1 => k.nx σ M1) :=
  (ps_expr h hs).of fun Dn σ H ⟨R, σd, M, k, rel, q, up⟩ => ⟨R, σd, M, _, rel, q, fun d M1 v H1 q1 k1 m1 i1 => up.nx _ M1 _ H1 q1 k1 (rel.keep k1 m1)⟩
theorem ms_ret (h : PE X a (liftE X.K ta)) : PS X (.Return (some a) pos) (liftS X.K fun k σ M => ta σ M k.rt) := (ps_ret h).of fun Dn σ H ⟨R, σd, M, k, rel, q, up⟩ => ⟨R, σd, M, _, rel, q, up.rt⟩
theorem ms_retN : PS X (.Return none pos) (liftS X.K fun k σ M => k.rt .non M) := ps_retN.of fun Dn σ H ⟨R, σd, M, k, rel, q, up⟩ => up.rt _ M _ H q .rfl rel.m mk_non
theorem ms_pass : PS X (.Pass pos) (liftS X.K fun k σ M => k.nx σ M) := ps_pass.of fun Dn σ H ⟨R, σd, M, k, rel, q, up⟩ => up.nx _ M _ H q .rfl rel
theorem ms_brk : PS X (.Break pos) (liftS X.K fun k σ M => k.bk σ M) := ps_break.of fun Dn σ H ⟨R, σd, M, k, rel, q, up⟩ => up.bk _ M _ H q .rfl rel
theorem ms_cont : PS X (.Continue pos) (liftS X.K fun k σ M => k.ct σ M) := ps_continue.of fun Dn σ H ⟨R, σd, M, k, rel, q, up⟩ => up.ct _ M _ H q .rfl rel
theorem ms_never : PS X st (liftS X.K fun _ _ _ => False) := ps_never.of fun Dn σ H ⟨R, σd, M, k, rel, q, up⟩ => q.elim
theorem ms_asg {tg : Expr} {g : MG} (he : PE X a (liftE X.K ta)) (hg : PG X tg (liftG X.K g)) (hs : swapsWithSole [tg] a pos.line X.env = pure false) (hw : swappedStores [tg] a X.env = pure none) (h1 : (assignEach [tg] X.env).map (·.2) = [assign tg X.env]) :
    PS X (.Assign [tg] a pos) (liftS X.K fun k σ M => ta σ M fun d M1 => g d σ M1 k.nx) := by
  refine (ps_asg he hg hs hw h1).of fun Dn σ H ⟨R, σd, M, k, rel, q, up⟩ => ?_
  exact ⟨R, σd, M, _, rel, q, fun d M1 v H1 q1 k1 m1 i1 => ⟨R, σd, M1, _, d, rel.keep k1 m1, i1, q1, up.nx.later k1⟩⟩
theorem ms_par {i j : Nat} {x y : Str} {px py pt : Pos} {kt k2 pt2} (hc : X.calm = true) (hN : X.N.Nodup) (hi : X.N[i]? = some x) (hj : X.N[j]? = some y) (hij : i ≠ j) (hx : X.env.scope.names.lookup x = some .local) (hy : X.env.scope.names.lookup y = some .local)
    (ha : PA X [a, b] (liftA X.K 2 fun σ M Q => ta σ M fun d M1 => tb σ M1 fun e M2 => Q [d, e] M2)) (hw : swappedStores [.Tuple [.Name x px, .Name y py] kt pt] (.Tuple [a, b] k2 pt2) X.env = pure (some [x, y]))
    (hs : swapsWithSole [.Tuple [.Name x px, .Name y py] kt pt] (.Tuple [a, b] k2 pt2) pos.line X.env = pure false) :
    PS X (.Assign [.Tuple [.Name x px, .Name y py] kt pt] (.Tuple [a, b] k2 pt2) pos) (liftS X.K fun k σ M => ta σ M fun d M1 => tb σ M1 fun e M2 => k.nx ((σ.set i (some d)).set j (some e)) M2) := by
  refine (ps_par hc hN hi hj hij hx hy ha hw hs).of fun Dn σ H ⟨R, σd, M, k, rel, q, up⟩ => ?_
  refine ⟨R, σd, M, fun ds M' => ∃ d e, ds = [d, e] ∧ k.nx ((σd.set i (some d)).set j (some e)) M', rel, ?_, fun ds M1 vs H1 _ ⟨d, e, e1, q1⟩ k1 m1 i1 => ?_⟩
  · have e : (fun d M1 => tb σd M1 fun e M2 => k.nx ((σd.set i (some d)).set j (some e)) M2) = fun d M1 => tb σd M1 fun e M2 => ∃ d' e', [d, e] = [d', e'] ∧ k.nx ((σd.set i (some d')).set j (some e')) M2 := by
      funext d M1
      refine congrArg (tb σd M1) ?_
      funext e M2
      exact propext ⟨fun h => ⟨d, e, rfl, h⟩, fun ⟨d', e', h1, h2⟩ => by cases h1; exact h2⟩
    have q' : ta σd M (fun d M1 => tb σd M1 fun e M2 => k.nx ((σd.set i (some d)).set j (some e)) M2) := q
    rw [e] at q'
    exact q'
  · subst e1
    obtain ⟨v, w', rfl, j1, j2⟩ := i1.inv2
    exact ⟨v, w', rfl, up.nx _ M1 _ H1 q1 k1 ⟨(((rel.s.keep k1).set j1).set j2), m1⟩⟩
theorem ms_ife {l r : List Stmt} (hc : PT X c (liftT X.K uc)) (ha : PSs X l (liftS X.K t)) (hb : PSs X r (liftS X.K u)) : PS X (.If c l r pos) (liftS X.K fun k σ M => uc σ M fun b M1 => if b = true then t k σ M1 else u k σ M1) := by
  refine (ps_if hc ha hb).of fun Dn σ H ⟨R, σd, M, k, rel, q, up⟩ => ⟨R, σd, M, _, rel, q, fun b M1 H1 q1 k1 m1 => ?_⟩
  cases b with
  | true => exact ⟨R, σd, M1, k, rel.keep k1 m1, q1, up.later k1⟩
  | false => exact ⟨R, σd, M1, k, rel.keep k1 m1, q1, up.later k1⟩
theorem ms_aug {i : Nat} {x : Str} {p : Pos} (hN : X.N.Nodup) (hi : X.N[i]? = some x) (hx : Loc X.env.scope x) (hf : X.fn x = true ∨ X.env.scope.names.lookup x = some .local) (he : PE X a (liftE X.K ta)) :
    PS X (.AugAssign (.Name x p) .Add a pos) (liftS X.K fun k σ M => match σ[i]? with
      | some (some (.int n)) => ta σ M fun y M1 => match y with
        | .int m => k.nx (σ.set i (some (.int (n + m)))) M1
        | _ => False
      | _ => False) := by
  refine (ps_aug hN hi hx he ip_add hf).of fun Dn σ H ⟨R, σd, M, k, rel, q, up⟩ => ?_
  revert q
  cases e : σd[i]? with
  | none => exact False.elim
  | some o =>
    cases o with
    | none => exact False.elim
    | some d =>
      cases d <;> first | exact False.elim | skip
      intro q
      obtain ⟨v, hv, iv⟩ := rel.s.at_ i _ e
      cases inv_int iv
      refine ⟨_, hv, R, σd, M, _, rel, q, fun d M1 w' H1 q1 k1 m1 i1 => ?_⟩
      cases d <;> first | exact q1.elim | skip
      exact ⟨_, _, rfl, inv_int i1, up.nx _ M1 _ H1 q1 k1 ⟨(rel.s.keep k1).set mk_int, m1⟩⟩
theorem ms_whl {l : List Stmt} (hp : PassesOwn (model X.prog X.w) X.A X.env X.xe) (hc : PT X c (liftT X.K uc)) (hb : PSs X l (liftS X.K t)) :
    PS X (.While c l [] pos) (liftS X.K fun k σ M => ∃ n, whileD uc (fun next => t ⟨next, k.rt, k.nx, next⟩) k.nx n σ M) := by
  refine (ps_while hp hc hb).of fun Dn σ H ⟨R, σd, M, k, rel, ⟨n, q⟩, up⟩ => ?_
  refine ⟨fun m σ1 H1 => Keep X.K H H1 ∧ ∃ σd1 M1, Rel X.K R σd1 M1 σ1 H1 ∧ whileD uc (fun next => t ⟨next, k.rt, k.nx, next⟩) k.nx m σd1 M1, ⟨n, .rfl, σd, M, rel, q⟩, ?_⟩
  rintro m σ1 H1 ⟨k1, σd1, M1, rel1, q1⟩
  cases m with
  | zero => exact q1.elim
  | succ m =>
    refine ⟨R, σd1, M1, _, rel1, q1, fun b M2 H2 q2 k2 m2 => ?_⟩
    cases b with
    | false => exact up.nx _ M2 _ H2 q2 (k1.trans k2) (rel1.keep k2 m2)
    | true =>
      refine ⟨fun σ' H' => Keep X.K H H' ∧ ∃ σd' M', Rel X.K R σd' M' σ' H' ∧ whileD uc (fun next => t ⟨next, k.rt, k.nx, next⟩) k.nx m σd' M', fun σ' H' z => ⟨m, Nat.lt_succ_self m, z⟩, ?_⟩
      have again : UpK X.K R H2 (whileD uc (fun next => t ⟨next, k.rt, k.nx, next⟩) k.nx m) fun σ' H' => Keep X.K H H' ∧ ∃ σd' M', Rel X.K R σd' M' σ' H' ∧ whileD uc (fun next => t ⟨next, k.rt, k.nx, next⟩) k.nx m σd' M' :=
        fun σd3 M3 σ3 H3 q3 k3 r3 => ⟨(k1.trans k2).trans k3, σd3, M3, r3, q3⟩
      exact ⟨R, σd1, M2, _, rel1.keep k2 m2, q2, again, up.rt.later (k1.trans k2), up.nx.later (k1.trans k2), again⟩
end
def ItOk (K : PySem.W.Frag) (H0 : Hp) (J : It) (items : List D) (chk : MH → Prop) : Prop := ∀ i R M H, Keep K H0 H → RelM K R M H → chk M →
  (i = items.length → J.stop i H) ∧ ∀ d, items[i]? = some d → J.go i H ∧ ∀ x H', J.yld i H x H' → Keep K H H' ∧ RelM K R M H' ∧ IsD K H' d x
abbrev MI := Sd → MH → (List D → (MH → Prop) → MH → Prop) → Prop
def liftI (K : PySem.W.Frag) (t : MI) : TI := fun σ H Rj => ∃ R σd M Qd, Rel K R σd M σ H ∧ t σd M Qd ∧ ∀ items chk M' H' J, Qd items chk M' → Keep K H H' → RelM K R M' H' → ItOk K H' J items chk → Rj J H'
theorem _root_.L2.PI.of {X : Cx} {tg e : Expr} {t t' : TI} (h : PI X tg e t) (i : ∀ σ H R, t' σ H R → t σ H R) : PI X tg e t' := ⟨fun pins s σ H R I q => h.run pins s σ H R I (i σ H R q)⟩
theorem walk_drop {chk : MH → Prop} {turn : D → KS → KS} {fin : KS} {items : List D} {i : Nat} {d : D} (e : items[i]? = some d) : walkD chk turn fin (items.drop i) = fun σ M => chk M ∧ turn d (walkD chk turn fin (items.drop (i + 1))) σ M := by
  obtain ⟨hi, e2⟩ := List.getElem?_eq_some_iff.mp e
  rw [List.drop_eq_getElem_cons hi, e2]
  rfl
section
variable {X : Cx} {pos : Pos} {tg iter : Expr} {l : List Stmt} {t : MS} {g : MG} {ti : MI}
theorem ms_for (hp : PassesOwn (model X.prog X.w) X.A X.env X.xe) (hc : X.calm = true) (hi : PI X tg iter (liftI X.K ti)) (hg : PG X tg (liftG X.K g)) (hb : PSs X l (liftS X.K t)) (hs : ∀ x, foldedSetIterable iter X.env x = pure x) :
    PS X (.For tg iter l [] pos) (liftS X.K fun k σ M => ti σ M fun items chk M1 => walkD chk (fun d next σ1 M2 => g d σ1 M2 fun σ2 M3 => t ⟨next, k.rt, k.nx, next⟩ σ2 M3) k.nx items σ M1) := by
  refine (ps_for hp hc hi hg hb hs).of fun Dn σ H ⟨R, σd, M, k, rel, q, up⟩ => ?_
  refine ⟨R, σd, M, _, rel, q, fun items chk M1 H1 J q1 k1 m1 ok => ?_⟩
  let wk : Nat → KS := fun i => walkD chk (fun d next σ1 M2 => g d σ1 M2 fun σ2 M3 => t ⟨next, k.rt, k.nx, next⟩ σ2 M3) k.nx (items.drop i)
  refine ⟨fun i m σ2 H2 => m = items.length - i ∧ i ≤ items.length ∧ Keep X.K H1 H2 ∧ ∃ σd2 M2, Rel X.K R σd2 M2 σ2 H2 ∧ wk i σd2 M2, ⟨items.length, rfl, Nat.zero_le _, .rfl, σd, M1, rel.keep k1 m1, q1⟩, ?_⟩
  rintro i m σ2 H2 ⟨rfl, hl, k2, σd2, M2, r2, q2⟩
  by_cases hlt : i < items.length
  · have e : items[i]? = some items[i] := List.getElem?_eq_getElem hlt
    have q3 : chk M2 ∧ g items[i] σd2 M2 fun σ3 M3 => t ⟨wk (i + 1), k.rt, k.nx, wk (i + 1)⟩ σ3 M3 := by
      have h3 : walkD chk (fun d next σ1 M2 => g d σ1 M2 fun σ2 M3 => t ⟨next, k.rt, k.nx, next⟩ σ2 M3) k.nx (items.drop i) σd2 M2 := q2
      rw [walk_drop e] at h3
      exact h3
    obtain ⟨-, go⟩ := ok i R M2 H2 k2 r2.m q3.1
    obtain ⟨g1, g2⟩ := go _ e
    refine .inr ⟨g1, fun σ' H' => Keep X.K H1 H' ∧ ∃ σd' M', Rel X.K R σd' M' σ' H' ∧ wk (i + 1) σd' M', fun σ' H' z => ⟨items.length - (i + 1), by omega, rfl, hlt, z⟩, fun x H3 y => ?_⟩
    obtain ⟨k3, m3, i3⟩ := g2 x H3 y
    refine ⟨R, σd2, M2, _, items[i], r2.keep k3 m3, i3, q3.2, fun σd4 M4 σ4 H4 q4 k4 r4 => ?_⟩
    have again : UpK X.K R H4 (wk (i + 1)) fun σ' H' => Keep X.K H1 H' ∧ ∃ σd' M', Rel X.K R σd' M' σ' H' ∧ wk (i + 1) σd' M' := fun σd5 M5 σ5 H5 q5 k5 r5 => ⟨(((k2.trans k3).trans k4).trans k5), σd5, M5, r5, q5⟩
    have kk := ((k1.trans k2).trans k3).trans k4
    exact ⟨R, σd4, M4, _, r4, q4, again, up.rt.later kk, up.nx.later kk, again⟩
  · have e0 : items.drop i = [] := List.drop_eq_nil_of_le (by omega)
    have q3 : chk M2 ∧ k.nx σd2 M2 := by
      have h3 : walkD chk (fun d next σ1 M2 => g d σ1 M2 fun σ2 M3 => t ⟨next, k.rt, k.nx, next⟩ σ2 M3) k.nx (items.drop i) σd2 M2 := q2
      rw [e0] at h3
      exact h3
    exact .inl ⟨(ok i R M2 H2 k2 r2.m q3.1).1 (by omega), up.nx _ M2 _ H2 q3.2 (k1.trans k2) r2⟩
end
end Mx
namespace Mx
open PySem PySem.Spec PyProof.Rows L2 PySem.SeqAt
section
variable {X : Cx} {tg e : Expr}
def iVal (K : PySem.W.Frag) (t : TE) : TI := fun σ H Z => t σ H fun v H1 =>
  (∃ a, v = .ref a ∧ (∃ xs, SqL K H1 a xs) ∧ Z (Itl K a) H1) ∨ (∃ a, v = .ref a ∧ (∃ xs, SqT K H1 a xs) ∧ Z (Itt K a) H1) ∨ ∃ x, v = .str x ∧ Z (Its x) H1
theorem pi_val {t : TE} (he : PE X e t) : PI X tg e (iVal X.K t) := by
  refine ⟨fun pins s σ H Z I h => ?_⟩
  refine thn (he.run pins s σ H _ I h) fun v s1 ⟨y, H1, I1, ry, q⟩ => ?_
  rcases q with ⟨a, rfl, ⟨xs, hq⟩, q⟩ | ⟨a, rfl, ⟨xs, hq⟩, q⟩ | ⟨x, rfl, q⟩
  · cases ry
    obtain ⟨its, rv, p, -⟩ := I1.list hq
    exact wpAny_pyIter_list p.isList (pi_one (tk := s1.toks) I1 _ (turn_list a _) ⟨_, Heap.get?_push_size _ rfl, rfl, rfl⟩ q)
  · cases ry
    obtain ⟨its, rv, p, -⟩ := I1.tuple hq
    exact wpAny_pyIter_tuple (items := its.toArray) p (pi_one (tk := s1.toks) I1 _ (turn_tuple a _) ⟨_, Heap.get?_push_size _ rfl, rfl, rfl⟩ q)
  · obtain ⟨t, rfl⟩ := ry
    rcases hb : x.cps.all (· < 128) with _ | _
    · exact wpAny_pyIter_wide hb (pi_one (tk := s1.toks) I1 _ (turn_str _ x t "str_iterator" (.inr rfl)) ⟨_, Heap.get?_push_size _ rfl, rfl, rfl⟩ q)
    · exact wpAny_pyIter_ascii hb (pi_one (tk := s1.toks) I1 _ (turn_str _ x t "str_ascii_iterator" (.inl rfl)) ⟨_, Heap.get?_push_size _ rfl, rfl, rfl⟩ q)

set_option maxHeartbeats 2000000 in
theorem meets_enumB {v : Value} {o : Obj} {G : Heap → Prop} (B : Begins v o G) : Meets (Builtin.«enumerate.__new__» ⟨[.type "enumerate", v], []⟩) (fun _ Z s => G s.heap ∧
      Z (.ok (.ret (.ref (s.heap.push o).objs.size))) { s with heap := (s.heap.push o).push { cls := .type "enumerate", data := .fields #[.none, .bool false, .ref s.heap.objs.size, rawInt 0, .none, .none] } }) := by
  refine .of_wp fun prog w A Z s h => ?_
  obtain ⟨hp, g, d, tk, os⟩ := s
  obtain ⟨h1, h⟩ := h
  have hsub := sub_enumerate
  have its : ∀ {A' : Around} {E : Value → Shared → Prop} {Q : Value → Shared → Prop}, Q (.ref hp.objs.size) ⟨hp.push o, g, d, tk, os⟩ → wpAny (model prog w) A' (pyIter v) Q E ⟨hp, g, d, tk, os⟩ := fun q => B.iter prog w _ _ ⟨hp, g, d, tk, os⟩ _ h1 q
  wp_walk using its
  refine wpAny_stack_any fun st => wpAny_pure ?_
  split
  · rename_i c _ _ _ _ _
    rcases (c == Value.type "enumerate") with _ | _ <;> wp_walk using its <;> exact ⟨_, rfl, h⟩
  · wp_walk using its
    exact ⟨_, rfl, h⟩
theorem call_enumB {prog : Program} {w : World} {A : Around} {E : Value → Shared → Prop} {s : Shared} {v : Value} {o : Obj} {G : Heap → Prop} {Q : Value → Shared → Prop} (B : Begins v o G) (h1 : G s.heap)
    (h : ∀ h', IsEnum h' (s.heap.objs.size + 1) s.heap.objs.size 0 .none → h'.get? s.heap.objs.size = some o → (∀ b u, s.heap.get? b = some u → h'.get? b = some u) → Q (.ref (s.heap.objs.size + 1)) { s with heap := h' }) :
    wpAny (model prog w) A (call (.type "enumerate") [v]) Q E s := by
  refine callType_new F.called_enumerate (by decide) (F.typeCall_enumerate_1 _) (F.newCall_enumerate_1 _) (fun ob => F.args_object_init_2 ob _) F.entry_enumerate_new (meets_enumB B) ⟨h1, ?_⟩
  have hz : (s.heap.push o).objs.size = s.heap.objs.size + 1 := Heap.size_push ..
  show _ ∧ _
  rw [hz]
  have he : IsEnum ((s.heap.push o).push { cls := .type "enumerate", data := .fields #[.none, .bool false, .ref s.heap.objs.size, rawInt 0, .none, .none] }) (s.heap.objs.size + 1) s.heap.objs.size 0 .none := by
    have q := Heap.get?_push_size (s.heap.push o) (o := { cls := .type "enumerate", data := .fields #[.none, .bool false, .ref s.heap.objs.size, rawInt 0, .none, .none] }) rfl
    rw [hz] at q
    exact q
  exact ⟨⟨_, he, rfl⟩, h _ he (Heap.get?_push_of_some _ (Heap.get?_push_size _ B.free)) fun b u x => Heap.get?_push_of_some _ (Heap.get?_push_of_some _ x)⟩
def Iet (K : PySem.W.Frag) (a : Addr) : It :=
  ⟨fun i H => ∃ (xs : List V) (x : V), SqT K H a xs ∧ xs[i]? = some x, fun i H v H' => ∃ T x, v = .ref T ∧ H T = none ∧ H' = upd H T (.tup [.int (i : Nat), x]) ∧ ∀ xs, SqT K H a xs → xs[i]? = some x, fun i H => ∃ xs : List V, SqT K H a xs ∧ xs.length = i⟩
def Ies (x : Str) : It :=
  ⟨fun i _ => i < x.cps.size, fun i H v H' => ∃ T c, v = .ref T ∧ H T = none ∧ H' = upd H T (.tup [.int (i : Nat), .str ⟨#[c]⟩]) ∧ x.cps[i]? = some c, fun i _ => i = x.cps.size⟩
variable {P : Program} {w : World} {K : PySem.W.Frag} {elts : List Expr} {kk : Nat} {tpos : Pos}
theorem turn_enumT (a e it : Addr) : Turn P w K (.Tuple elts kk tpos) (Iet K a) [e, it] e (fun i h => (∃ old, IsEnum h e it ((i : Nat) : Int) old) ∧ h.IsTupleIter it a i ∧ e ≠ it) where
  mem := by simp
  obj := fun i h ⟨⟨old, he⟩, ⟨o, ho, hc, hd⟩, _⟩ b hb => by
    rcases (by simpa using hb : b = e ∨ b = it) with rfl | rfl
    · exact ⟨_, he, fun v q => nomatch q⟩
    · exact ⟨o, ho, fun v q => by rw [hd] at q; cases q⟩
  keep := fun i h h' ⟨⟨old, he⟩, hi, hne⟩ k => ⟨⟨old, k e (by simp) _ he⟩, hi.at fun o q => k it (by simp) o q, hne⟩
  item := by
    intro X hP hw hK hc i pins s σ H E I hf st hg
    subst hP hw hK
    obtain ⟨⟨old, he⟩, hit, hne⟩ := st
    obtain ⟨xs, x, hq, hx⟩ := hg
    obtain ⟨its, rv, p, -⟩ := I.tuple hq
    obtain ⟨u, hu, ru⟩ := rv.get hx
    have hel : e < s.heap.objs.size := Heap.lt_size he
    have hil : it < s.heap.objs.size := by obtain ⟨_, q, _⟩ := hit; exact Heap.lt_size q
    have hti : a ≠ it := fun z => by
      obtain ⟨o1, g1, c1, _⟩ := hit
      obtain ⟨o2, g2, c2, _⟩ := (show s.heap.IsTuple a its.toArray from p)
      rw [z, g1] at g2; cases g2
      rw [c1] at c2; exact absurd c2 (by decide)
    have hte : e ≠ a := fun z => by
      obtain ⟨o2, g2, c2, _⟩ := (show s.heap.IsTuple a its.toArray from p)
      rw [← z, he] at g2; cases g2
      simp at c2
    have hlt : i < its.toArray.size := by
      have := (List.getElem?_eq_some_iff.mp hu).1
      simpa using this
    refine wpAny_pyNext_enum_itemD (Draws.tuple (A := X.A.in1) (I.ok.hd hc) it a hti its.toArray) he ⟨hit, p⟩ hlt hne (by simp [hne, hte]) fun x' h' tk hP ho st' hT hsz hk => ?_
    have ex : x' = u := by
      have q : its[i]? = some x' := by simpa using hP
      rw [hu] at q; exact (Option.some.inj q).symm
    subst ex
    refine ⟨_, rfl, wpAny_letOwnedTupleGo_enum (s := { s with heap := h', toks := tk + 1 }) ho fun h'' he' sb => ?_⟩
    have hT2 : h''.get? s.heap.objs.size = some { cls := .type "tuple", data := .seq #[.int i tk, x'] } := (sb.2 _ (Nat.ne_of_gt hel)).trans hT
    have new : ObjOk X.prog X.w (upd H s.heap.objs.size (.tup [.int (i : Nat), x])) h'' s.heap.objs.size (.tup [.int (i : Nat), x]) :=
      ⟨by show 2 ≤ sizeLine; decide, [.int i tk, x'], .cons ⟨_, rfl⟩ (.cons ru .nil), ⟨_, hT2, rfl, _, rfl⟩⟩
    have I1 : Inv X pins σ (upd H s.heap.objs.size (.tup [.int (i : Nat), x])) { s with heap := h'', toks := tk + 1 } :=
      I.turnedNew (ch := [e, it]) (fun b ob hb q => (sb.2 b (fun z => hb (by simp [z]))).trans (hk b ob (fun z => hb (by simp [z])) (fun z => hb (by simp [z])) q)) hf (Nat.le_refl _) new
    refine ⟨.ref s.heap.objs.size, _, I1, rfl, ⟨_, x, rfl, I.hok.fresh (Nat.le_refl _), rfl, fun ys hy => by rw [I.tuple_inj hy hq]; exact hx⟩, ⟨⟨x', ?_⟩, st'.1.at fun o q => (sb.2 it (Ne.symm hne)).trans q, hne⟩, fun b hb => ?_⟩
    · have e1 : ((i + 1 : Nat) : Int) = (i : Int) + 1 := by omega
      rw [e1]; exact he'
    · have hb' : b < s.heap.objs.size := by
        rcases (by simpa using hb : b = e ∨ b = it) with rfl | rfl
        · exact hel
        · exact hil
      rw [upd_ne (Nat.ne_of_lt hb')]
      exact (hf b hb).1
  done := by
    intro X hP hw hK hc i pins s σ H E I hf st hg
    subst hP hw hK
    obtain ⟨⟨old, he⟩, hit, hne⟩ := st
    obtain ⟨xs, hq, hx⟩ := hg
    obtain ⟨its, rv, p, -⟩ := I.tuple hq
    have hti : a ≠ it := fun z => by
      obtain ⟨o1, g1, c1, _⟩ := hit
      obtain ⟨o2, g2, c2, _⟩ := (show s.heap.IsTuple a its.toArray from p)
      rw [z, g1] at g2; cases g2
      rw [c1] at c2; exact absurd c2 (by decide)
    obtain ⟨f0, f1, f2, f3, f4, f5⟩ := hf it (by simp)
    have hl := rv.length
    have ei : i = its.toArray.size := by simp; omega
    exact wpAny_pyNext_enum_endD (Draws.tuple (A := X.A.in1) (I.ok.hd hc) it a hti its.toArray) he ⟨ei ▸ hit, p⟩ fun h' eb => ⟨rfl, I.turned (t' := s.toks) (fun b o hb q => eb b o hb q) f0 f1 f3 f4 f5⟩
  self := fun A i s Q E st h => let ⟨⟨_, he⟩, _⟩ := st; wpAny_pyIter_enum he h
theorem turn_enumS (x : Str) (t : Tok) (e it : Addr) : Turn P w K (.Tuple elts kk tpos) (Ies x) [e, it] e (fun i h => (∃ old, IsEnum h e it ((i : Nat) : Int) old) ∧ h.IsStrIter it (strIterType x) x t i ∧ e ≠ it) where
  mem := by simp
  obj := fun i h ⟨⟨old, he⟩, ⟨o, ho, hc, hd⟩, _⟩ b hb => by
    rcases (by simpa using hb : b = e ∨ b = it) with rfl | rfl
    · exact ⟨_, he, fun v q => nomatch q⟩
    · exact ⟨o, ho, fun v q => by rw [hd] at q; cases q⟩
  keep := fun i h h' ⟨⟨old, he⟩, ⟨o, ho, hi⟩, hne⟩ k => ⟨⟨old, k e (by simp) _ he⟩, ⟨o, k it (by simp) o ho, hi⟩, hne⟩
  item := by
    intro X hP hw hK hc i pins s σ H E I hf st hg
    subst hP hw hK
    obtain ⟨⟨old, he⟩, hit, hne⟩ := st
    have hel : e < s.heap.objs.size := Heap.lt_size he
    have hil : it < s.heap.objs.size := by obtain ⟨_, q, _⟩ := hit; exact Heap.lt_size q
    refine wpAny_pyNext_enum_itemD (Draws.text (A := X.A.in1) (I.ok.hd hc) it x t) he hit hg hne (by simp [hne]) fun x' h' tk hP ho st' hT hsz hk => ?_
    obtain ⟨c, u, hx, rfl⟩ := hP
    refine ⟨_, rfl, wpAny_letOwnedTupleGo_enum (s := { s with heap := h', toks := tk + 1 }) ho fun h'' he' sb => ?_⟩
    have hT2 : h''.get? s.heap.objs.size = some { cls := .type "tuple", data := .seq #[.int i tk, .str ⟨#[c]⟩ u] } := (sb.2 _ (Nat.ne_of_gt hel)).trans hT
    have new : ObjOk X.prog X.w (upd H s.heap.objs.size (.tup [.int (i : Nat), .str ⟨#[c]⟩])) h'' s.heap.objs.size (.tup [.int (i : Nat), .str ⟨#[c]⟩]) :=
      ⟨by show 2 ≤ sizeLine; decide, [.int i tk, .str ⟨#[c]⟩ u], .cons ⟨_, rfl⟩ (.cons ⟨_, rfl⟩ .nil), ⟨_, hT2, rfl, _, rfl⟩⟩
    have I1 : Inv X pins σ (upd H s.heap.objs.size (.tup [.int (i : Nat), .str ⟨#[c]⟩])) { s with heap := h'', toks := tk + 1 } :=
      I.turnedNew (ch := [e, it]) (fun b ob hb q => (sb.2 b (fun z => hb (by simp [z]))).trans (hk b ob (fun z => hb (by simp [z])) (fun z => hb (by simp [z])) q)) hf (Nat.le_refl _) new
    refine ⟨.ref s.heap.objs.size, _, I1, rfl, ⟨_, c, rfl, I.hok.fresh (Nat.le_refl _), rfl, hx⟩, ⟨⟨.str ⟨#[c]⟩ u, ?_⟩, ?_, hne⟩, fun b hb => ?_⟩
    · have e1 : ((i + 1 : Nat) : Int) = (i : Int) + 1 := by omega
      rw [e1]; exact he'
    · obtain ⟨o, g, c', d'⟩ := st'
      exact ⟨o, (sb.2 it (Ne.symm hne)).trans g, c', d'⟩
    · have hb' : b < s.heap.objs.size := by
        rcases (by simpa using hb : b = e ∨ b = it) with rfl | rfl
        · exact hel
        · exact hil
      rw [upd_ne (Nat.ne_of_lt hb')]
      exact (hf b hb).1
  done := by
    intro X hP hw hK hc i pins s σ H E I hf st hg
    subst hP hw hK
    obtain ⟨⟨old, he⟩, hit, hne⟩ := st
    obtain ⟨f0, f1, f2, f3, f4, f5⟩ := hf it (by simp)
    have ei : i = x.cps.size := hg
    exact wpAny_pyNext_enum_endD (Draws.text (A := X.A.in1) (I.ok.hd hc) it x t) he (ei ▸ hit) fun h' eb => ⟨rfl, I.turned (t' := s.toks) (fun b o hb q => eb b o hb q) f0 f1 f3 f4 f5⟩
  self := fun A i s Q E st h => let ⟨⟨_, he⟩, _⟩ := st; wpAny_pyIter_enum he h
def iEn (K : PySem.W.Frag) (t : TA) : TI := fun σ H Z => t σ H fun vs H1 =>
  (∃ a, vs = [.ref a] ∧ (∃ xs, SqL K H1 a xs) ∧ Z (Ite K a) H1) ∨ (∃ a, vs = [.ref a] ∧ (∃ xs, SqT K H1 a xs) ∧ Z (Iet K a) H1) ∨ ∃ x, vs = [.str x] ∧ Z (Ies x) H1
theorem pie_enum {pins : List (Addr × Obj)} {σ : L2.St} {H : Hp} {s : Shared} {Z : It → Hp → Prop} {J : It} {tn : Nat → Heap → Prop} {h' : Heap} {E : Value → Shared → Prop} (I : Inv X pins σ H s) (hk : ∀ b u, s.heap.get? b = some u → h'.get? b = some u)
    (he : IsEnum h' (s.heap.objs.size + 1) s.heap.objs.size 0 .none) (T : Turn X.prog X.w X.K tg J [s.heap.objs.size + 1, s.heap.objs.size] (s.heap.objs.size + 1) tn) (st : tn 0 h') (q : Z J H) :
    wpAny (model X.prog X.w) X.A (pyIter (.ref (s.heap.objs.size + 1))) (PIE X pins σ tg Z) E { s with heap := h' } := by
  refine wpAny_pyIter_enum he ⟨s.heap.objs.size + 1, [s.heap.objs.size + 1, s.heap.objs.size], tn, J, H, rfl, I.kept (t' := s.toks) hk, T, st, fun b hb => ?_, q⟩
  have hle : s.heap.objs.size ≤ b := by
    rcases (by simpa using hb : b = s.heap.objs.size + 1 ∨ b = s.heap.objs.size) with rfl | rfl
    · exact Nat.le_add_right _ _
    · exact Nat.le_refl _
  exact I.fpOk hle (I.hok.fresh hle)
theorem pi_en {ta : TA} {p pos : Pos} (hg : Gl X "enumerate") (hm : X.mg "enumerate" = none) (ha : PA X [e] ta) (hs : starEach [e] X.env = [(false, eval e X.env)]) :
    PI X (.Tuple elts kk tpos) (.Call (.Name "enumerate" p) [e] [] pos) (iEn X.K ta) := by
  refine ⟨fun pins s σ H Z I h => ?_⟩
  refine Call_ (ld_blt I hg hm boot_enumerate (PyProof.Rows.callWith_type1 (thn (ha.run pos pins s σ H _ I h) fun us s1 ⟨vs, H1, I1, r1, q1⟩ => ?_) hs rfl))
  rcases q1 with ⟨a, rfl, ⟨xs, hq⟩, q⟩ | ⟨a, rfl, ⟨xs, hq⟩, q⟩ | ⟨x, rfl, q⟩
  · cases r1 with
    | cons r rr =>
      cases rr
      cases r
      obtain ⟨its, rv, p', -⟩ := I1.list hq
      exact call_enumB (begins_list a its.toArray) p'.isList fun h' he hi hk => pie_enum I1 hk he (turn_enum a _ _) ⟨⟨.none, he⟩, ⟨_, hi, rfl, rfl⟩, Nat.succ_ne_self _⟩ q
  · cases r1 with
    | cons r rr =>
      cases rr
      cases r
      obtain ⟨its, rv, p', -⟩ := I1.tuple hq
      exact call_enumB (begins_tuple a its.toArray) p' fun h' he hi hk => pie_enum I1 hk he (turn_enumT a _ _) ⟨⟨.none, he⟩, ⟨_, hi, rfl, rfl⟩, Nat.succ_ne_self _⟩ q
  · cases r1 with
    | cons r rr =>
      cases rr
      obtain ⟨t, rfl⟩ := r
      exact call_enumB (begins_text x t) trivial fun h' he hi hk => pie_enum I1 hk he (turn_enumS x t _ _) ⟨⟨.none, he⟩, ⟨_, hi, rfl, rfl⟩, Nat.succ_ne_self _⟩ q
end
end Mx
namespace Mx
open PySem PySem.Spec PyProof.Rows L2 PySem.SeqAt
def liftGw (K : PySem.W.Frag) (vs : List Nat) (t : MG) : TG := fun v σ H Q => ∃ R σd M Qd d, Rel K R σd M σ H ∧ IsD K H d v ∧ t d σd M Qd ∧ UpK K R H Qd fun σ' H' => L2.wipe σ' vs = L2.wipe σ vs → Q σ' H'
def liftGsw (K : PySem.W.Frag) (vs : List Nat) (t : MGs) : TGs := fun us σ H Q => ∃ R σd M Qd ds, Rel K R σd M σ H ∧ IsDs K H ds us ∧ t ds σd M Qd ∧ UpK K R H Qd fun σ' H' => L2.wipe σ' vs = L2.wipe σ vs → Q σ' H'
theorem wipe_set {i : Nat} {x : Option V} : ∀ {vs : List Nat} {σ : L2.St}, i ∈ vs → L2.wipe (σ.set i x) vs = L2.wipe σ vs
  | [], _, h => by cases h
  | v :: vs, σ, h => by
    show (L2.wipe (σ.set i x) vs).set v none = (L2.wipe σ vs).set v none
    by_cases e : i ∈ vs
    · rw [wipe_set e]
    · have e1 : i = v := by
        rcases List.mem_cons.mp h with h | h
        · exact h
        · exact absurd h e
      subst e1
      have c : ∀ (ws : List Nat) (τ : L2.St), i ∉ ws → L2.wipe (τ.set i x) ws = (L2.wipe τ ws).set i x := by
        intro ws
        induction ws with
        | nil => intro τ _; rfl
        | cons u us ih =>
          intro τ hn
          show (L2.wipe (τ.set i x) us).set u none = ((L2.wipe τ us).set u none).set i x
          rw [ih τ (fun z => hn (List.mem_cons_of_mem _ z))]
          exact List.set_comm _ _ (fun z => hn (z ▸ List.mem_cons_self))
      rw [c vs σ e, List.set_set]
theorem wipe_idem : ∀ (vs : List Nat) (σ : L2.St), L2.wipe (L2.wipe σ vs) vs = L2.wipe σ vs := by
  intro vs
  have c : ∀ (us ws : List Nat) (τ : L2.St), (∀ u ∈ us, u ∈ ws) → L2.wipe (L2.wipe τ us) ws = L2.wipe τ ws := by
    intro us
    induction us with
    | nil => intro ws τ _; rfl
    | cons u us ih =>
      intro ws τ h
      show L2.wipe ((L2.wipe τ us).set u none) ws = _
      rw [wipe_set (h u List.mem_cons_self), ih ws τ fun z hz => h z (List.mem_cons_of_mem _ hz)]
  exact fun σ => c vs vs σ fun _ h => h
section
variable {X : Cx} {a b c : Expr} {pos : Pos} {vs : List Nat}
theorem mgw_nm {i : Nat} {x : Str} (hv : i ∈ vs) (hN : X.N.Nodup) (hi : X.N[i]? = some x) (hx : Loc X.env.scope x) (hf : X.fn x = true ∨ X.env.scope.names.lookup x = some .local) : PG X (.Name x pos) (liftGw X.K vs fun d σ M Q => Q (σ.set i (some d)) M) :=
  (pg_name hN hi hx hf).of fun v σ H Q ⟨R, σd, M, Qd, d, rel, i1, q, u⟩ => u _ M _ H q .rfl ⟨rel.s.set i1, rel.m⟩ (wipe_set hv)
theorem mgsw_nil : PGs X [] (liftGsw X.K vs fun ds σ M Q => ds = [] ∧ Q σ M) :=
  pgs_nil.of fun v σ H Q ⟨R, σd, M, Qd, ds, rel, i1, ⟨e, q⟩, u⟩ => by
    subst e
    exact ⟨i1.inv_nil, u _ M _ H q .rfl rel rfl⟩
theorem mgsw_cons {es : List Expr} {t : MG} {ts : MGs} (h1 : PG X a (liftGw X.K vs t)) (h2 : PGs X es (liftGsw X.K vs ts)) (hs : (assignEach (a :: es) X.env).map (·.2) = assign a X.env :: (assignEach es X.env).map (·.2)) :
    PGs X (a :: es) (liftGsw X.K vs fun ds σ M Q => match ds with
      | d :: r => t d σ M fun σ1 M1 => ts r σ1 M1 Q
      | [] => False) := by
  refine (pgs_cons h1 h2 hs).of fun us σ H Q ⟨R, σd, M, Qd, ds, rel, i1, q, u⟩ => ?_
  match ds, q with
  | d :: r, q =>
    obtain ⟨x, ys, rfl, j1, j2⟩ := i1.inv
    refine ⟨x, ys, rfl, R, σd, M, _, d, rel, j1, q, fun σd1 M1 σ1 H1 q1 k1 r1 w1 => ?_⟩
    exact ⟨R, σd1, M1, Qd, r, r1, j2.keep k1, q1, fun σd2 M2 σ2 H2 q2 k2 r2 w2 => u σd2 M2 σ2 H2 q2 (k1.trans k2) r2 (w2.trans w1)⟩
  | [], q => exact q.elim
theorem mgw_tp {es : List Expr} {ts : MGs} {k n : Nat} (hc : X.calm = true) (h : PGs X es (liftGsw X.K vs ts)) (hn : (assignEach es X.env).length = n) (hst : (assignEach es X.env).findIdx? (·.1) = none) :
    PG X (.Tuple es k pos) (liftGw X.K vs fun d σ M Q => match d with
      | .tup ds => ds.length = n ∧ ts ds σ M Q
      | _ => False) := by
  refine (pg_tup hc h hn hst).of fun v σ H Q ⟨R, σd, M, Qd, d, rel, i1, q, u⟩ => ?_
  cases d <;> first | exact q.elim | skip
  obtain ⟨p, xs, rfl, sx, r⟩ := inv_tup i1
  exact ⟨p, xs, rfl, sx, by rw [r.length]; exact q.1, R, σd, M, Qd, _, rel, r, q.2, u⟩
theorem mpt_nil : PTs X [] (liftT X.K fun _ M Q => Q true M) := ⟨fun pins s σ H Q I ⟨R, σd, M, Qd, rel, q, u⟩ => pts_nil.run pins s σ H Q I (u true M H q .rfl rel.m)⟩
theorem gather_drop {chk : MH → Prop} {turn : D → (Option D → MH → Prop) → MH → Prop} {fin : List D → MH → Prop} {items acc : List D} {i : Nat} {d : D} (e : items[i]? = some d) : gatherD chk turn fin (items.drop i) acc = fun M => chk M ∧ turn d (fun r M' => match r with
    | none => gatherD chk turn fin (items.drop (i + 1)) acc M'
    | some x => acc.length < sizeLine ∧ gatherD chk turn fin (items.drop (i + 1)) (acc ++ [x]) M') M := by
  obtain ⟨hi, e2⟩ := List.getElem?_eq_some_iff.mp e
  rw [List.drop_eq_getElem_cons hi, e2]
  rfl
def rLc (ti : MI) (g : MG) (tt : MT) (te : ME) (own : List Nat) : MA := fun σ M Q => ti σ M fun items chk M1 =>
  gatherD chk (fun d k M2 => g d (wipeD σ own) M2 fun σ' M3 => tt σ' M3 fun b M4 => if b = true then te σ' M4 fun x M5 => k (some x) M5 else k none M4) Q items [] M1
theorem lc_lift {K : PySem.W.Frag} {ti : MI} {g : MG} {tt : MT} {te : ME} {vs : List Nat} {σ : L2.St} {H : Hp} {Q : VK} (h : liftL K (rLc ti g tt te vs) σ H Q) : tLc (liftI K ti) (liftGw K vs g) (liftT K tt) (liftE K te) vs σ H Q := by
  obtain ⟨R, σd, M, Qd, rel, q, u⟩ := h
  refine ⟨R, σd, M, _, rel, q, fun items chk M1 H1 J q1 k1 m1 ok Dn hDn => ?_⟩
  let turn : D → (Option D → MH → Prop) → MH → Prop := fun d k M2 => g d (wipeD σd vs) M2 fun σ' M3 => tt σ' M3 fun b M4 => if b = true then te σ' M4 fun x M5 => k (some x) M5 else k none M4
  have hH : H Dn = none := k1.dom Dn hDn
  have kk : Keep K H1 (upd H1 Dn (.lst [])) := .new hDn
  refine ⟨fun i m H2 => m = items.length - i ∧ i ≤ items.length ∧ Keep K H1 H2 ∧ ∃ acc av M2, RelM K ((Dn, .lst av) :: R) M2 H2 ∧ IsDs K H2 acc av ∧ gatherD chk turn Qd (items.drop i) acc M2,
    ⟨items.length, rfl, Nat.zero_le _, kk, [], [], M1, ?_, .nil, q1⟩, ?_⟩
  · refine (m1.lay hDn).wide (R' := [(Dn, .lst [])]) fun p hp => ?_
    have : p = (Dn, .lst []) := by simpa using hp
    subst this
    exact ⟨m1.fresh hDn, upd_same⟩
  rintro i m H2 ⟨rfl, hl, k2, acc, av, M2, m2, ia, q2⟩
  have hd2 : M2.get Dn = none ∧ H2 Dn = some (.lst av) := m2.res (Dn, .lst av) List.mem_cons_self
  by_cases hlt : i < items.length
  · have e : items[i]? = some items[i] := List.getElem?_eq_getElem hlt
    rw [gather_drop e] at q2
    obtain ⟨-, go⟩ := ok i _ M2 H2 k2 m2 q2.1
    obtain ⟨g1, g2⟩ := go _ e
    refine .inr ⟨g1, fun H' => Keep K H1 H' ∧ ∃ acc av M2, RelM K ((Dn, .lst av) :: R) M2 H' ∧ IsDs K H' acc av ∧ gatherD chk turn Qd (items.drop (i + 1)) acc M2, fun H' z => ⟨items.length - (i + 1), by omega, rfl, hlt, z⟩, fun x H3 y => ?_⟩
    obtain ⟨k3, m3, i3⟩ := g2 x H3 y
    have k03 : Keep K H H3 := (k1.trans k2).trans k3
    refine ⟨_, wipeD σd vs, M2, _, items[i], ⟨(rel.s.keep k03).wipe vs, m3⟩, i3, q2.2, fun σd4 M4 σ4 H4 q4 k4 r4 w4 => ?_⟩
    refine ⟨by rw [w4, wipe_idem], ?_⟩
    refine ⟨_, σd4, M4, _, r4, q4, fun b M5 H5 q5 k5 m5 => ?_⟩
    cases b with
    | false =>
      rw [if_neg (by decide)] at q5 ⊢
      exact ⟨((k2.trans k3).trans k4).trans k5, acc, av, M5, m5, ia.keep ((k3.trans k4).trans k5), q5⟩
    | true =>
      rw [if_pos rfl] at q5 ⊢
      refine ⟨_, σd4, M5, _, r4.keep k5 m5, q5, fun d M6 v H6 q6 k6 m6 i6 => ?_⟩
      have hd6 : M6.get Dn = none ∧ H6 Dn = some (.lst av) := m6.res (Dn, .lst av) List.mem_cons_self
      have hlen : acc.length < sizeLine := q6.1
      have k7 : Keep K H6 (upd H6 Dn (.lst (av ++ [v]))) := .put hd6.2 trivial
      have ia6 : IsDs K H6 acc av := ia.keep (((k3.trans k4).trans k5).trans k6)
      refine ⟨av, hd6.2, by rw [ia6.length]; exact hlen, ((((k2.trans k3).trans k4).trans k5).trans k6).trans k7, acc ++ [d], av ++ [v], M6, ⟨fun b o e => ?_, fun p hp => ?_⟩, (ia6.append (.one i6)).keep k7, q6.2⟩
      · exact (m6.ok b o e).upd (fun z => by rw [z, hd6.1] at e; cases e) k7
      · rcases List.mem_cons.mp hp with rfl | hp
        · exact ⟨hd6.1, upd_same⟩
        · have h7 := m6.res p (List.mem_cons_of_mem _ hp)
          have h0 := rel.m.res p hp
          have hne : p.1 ≠ Dn := ne_of_none h0.2 hH
          exact ⟨h7.1, by rw [upd_ne hne]; exact h7.2⟩
  · have e0 : items.drop i = [] := List.drop_eq_nil_of_le (by omega)
    rw [e0] at q2
    have q3 : chk M2 ∧ Qd acc M2 := q2
    have ei : i = items.length := by omega
    refine .inl ⟨(ok i _ M2 H2 k2 m2 q3.1).1 ei, u acc M2 Dn av H2 q3.2 (k1.trans k2) (m2.less fun p hp => List.mem_cons_of_mem _ hp) (rel.m.fresh hH) hd2.1 hd2.2 (fun b hb => ne_of_none (rel.m.res b hb).2 hH) ia⟩
theorem ml_lc {elt tg iter : Expr} {ifs : List Expr} {scope : Scope} {own : List (Str × Nat)} {ti : MI} {g : MG} {tt : MT} {te : ME} (hc : X.calm = true) (hN : X.N.Nodup) (hi : PI X tg iter (liftI X.K ti)) (ok : BlkOk X.N X.env.scope scope own)
    (hg : ∀ (s : Shared) (H : Hp) (C : Addr) (cl : List (Str × Addr)) (fp : List Addr), PG (X.blk s H scope (compEnvC scope cl C X.env) fp) tg (liftGw X.K (own.map (·.2)) g)) (ht : ∀ (s : Shared) (H : Hp) (C : Addr) (cl : List (Str × Addr)) (fp : List Addr), PTs (X.blk s H scope (compEnvC scope cl C X.env) fp) ifs (liftT X.K tt))
    (he : ∀ (s : Shared) (H : Hp) (C : Addr) (cl : List (Str × Addr)) (fp : List Addr), PE (X.blk s H scope (compEnvC scope cl C X.env) fp) elt (liftE X.K te)) (hs : ∀ x, foldedSetIterable iter X.env x = pure x) :
    PE X (.ListComp elt [⟨tg, iter, ifs, 0⟩] scope pos) (liftL X.K (rLc ti g tt te (own.map (·.2)))) := (pe_lc hc hN hi ok hg ht he hs).of fun σ H Q h => lc_lift h
theorem ms_setLc {i : Nat} {y : Str} {py spos : Pos} {elt tg iter : Expr} {ifs : List Expr} {scope : Scope} {own : List (Str × Nat)} {ti : MI} {g : MG} {tt : MT} {te : ME} (hc : X.calm = true) (hN : X.N.Nodup) (hy : X.N[i]? = some y) (hyl : X.env.scope.names.lookup y = some .local)
    (hsw : swapsWith (.ListComp elt [⟨tg, iter, ifs, 0⟩] scope pos) (some (.Name y py)) spos.line X.env = pure true) (hi : PI X tg iter (liftI X.K ti)) (ok : BlkOk X.N X.env.scope scope own)
    (hg : ∀ (s : Shared) (H : Hp) (C : Addr) (cl : List (Str × Addr)) (fp : List Addr), PG (X.blk s H scope (compEnvC scope cl C X.env) fp) tg (liftGw X.K (own.map (·.2)) g)) (ht : ∀ (s : Shared) (H : Hp) (C : Addr) (cl : List (Str × Addr)) (fp : List Addr), PTs (X.blk s H scope (compEnvC scope cl C X.env) fp) ifs (liftT X.K tt))
    (he : ∀ (s : Shared) (H : Hp) (C : Addr) (cl : List (Str × Addr)) (fp : List Addr), PE (X.blk s H scope (compEnvC scope cl C X.env) fp) elt (liftE X.K te)) (hs : ∀ x, foldedSetIterable iter X.env x = pure x) :
    PS X (.Assign [.Name y py] (.ListComp elt [⟨tg, iter, ifs, 0⟩] scope pos) spos) (liftS X.K fun k σ M => rLc ti g tt te (own.map (·.2)) σ M fun ds M1 => ∀ r, M.get r = none → M1.get r = none → k.nx (σ.set i (some (.ref r))) ((r, .lst ds) :: M1)) := by
  refine (ps_setLc hc hN hy hyl hsw hi ok hg ht he hs).of fun Dn σ H ⟨R, σd, M, k, rel, q, up⟩ => ?_
  refine lc_lift (Q := fun x H1 => gName i x σ H1 Dn.nx) ⟨R, σd, M, _, rel, q, fun ds M1 p xs H1 q1 k1 m1 n n1 hp hR i1 => ?_⟩
  refine up.nx (σd.set i (some (.ref p))) ((p, .lst ds) :: M1) (σ.set i (some (.ref p))) H1 (q1 p n n1) k1 ⟨(rel.s.keep k1).set mk_ref, ⟨fun b o e => ?_, fun b hb => ?_⟩⟩
  · by_cases hb : b = p
    · subst hb
      rw [MH.get_same] at e; cases e
      exact ⟨xs, hp, i1⟩
    · rw [MH.get_ne hb] at e
      exact m1.ok b o e
  · rw [MH.get_ne (hR b hb)]
    exact m1.res b hb
end
end Mx
namespace Mx
open PySem PySem.Spec PyProof.Rows L2 PySem.SeqAt
section
variable {K : PySem.W.Frag} {H : Hp} {a : Addr} {ds : List D}
theorem it_tup (h : IsD K H (.tup ds) (.ref a)) : ItOk K H (Itt K a) ds fun _ => True := by
  intro i R M H' k m _
  obtain ⟨p, xs, e, s, r⟩ := inv_tup (h.keep k)
  cases e
  refine ⟨fun e => ⟨xs, s, by rw [r.length, e]; exact Nat.le_refl _⟩, fun d hd => ?_⟩
  obtain ⟨v, hv, iv⟩ := r.get hd
  refine ⟨⟨xs, v, s, hv⟩, fun x H2 ⟨e, al⟩ => ?_⟩
  subst e
  have := al xs s
  rw [hv] at this
  cases this
  exact ⟨.rfl, m, iv⟩
theorem it_fl (h : IsD K H (.fl ds) (.ref a)) : ItOk K H (Itl K a) ds fun _ => True := by
  intro i R M H' k m _
  obtain ⟨p, xs, e, s, r⟩ := inv_fl (h.keep k)
  cases e
  refine ⟨fun e => ⟨xs, s.sq, by rw [r.length, e]; exact Nat.le_refl _⟩, fun d hd => ?_⟩
  obtain ⟨v, hv, iv⟩ := r.get hd
  refine ⟨⟨xs, v, s.sq, hv⟩, fun x H2 ⟨e, al⟩ => ?_⟩
  subst e
  have := al xs s.sq
  rw [hv] at this
  cases this
  exact ⟨.rfl, m, iv⟩
theorem it_lst : ItOk K H (Itl K a) ds fun M => M.get a = some (.lst ds) := by
  intro i R M H' k m hc
  obtain ⟨xs, hx, r⟩ := lst_of m hc
  have s : SqL K H' a xs := .inl (.inl hx)
  refine ⟨fun e => ⟨xs, s, by rw [r.length, e]; exact Nat.le_refl _⟩, fun d hd => ?_⟩
  obtain ⟨v, hv, iv⟩ := r.get hd
  refine ⟨⟨xs, v, s, hv⟩, fun x H2 ⟨e, al⟩ => ?_⟩
  subst e
  have := al xs s
  rw [hv] at this
  cases this
  exact ⟨.rfl, m, iv⟩
theorem sign_get {x : Str} {i : Nat} {d : D} (h : (x.cps.toList.map fun c => D.str ⟨#[c]⟩)[i]? = some d) : ∃ c, x.cps[i]? = some c ∧ d = .str ⟨#[c]⟩ := by
  rw [List.getElem?_map] at h
  cases e : x.cps.toList[i]? with
  | none => rw [e] at h; cases h
  | some c =>
    rw [e] at h
    refine ⟨c, by simpa using e, ?_⟩
    cases h; rfl
theorem it_str (x : Str) : ItOk K H (Its x) (x.cps.toList.map fun c => .str ⟨#[c]⟩) fun _ => True := by
  intro i R M H' k m _
  refine ⟨fun e => by rw [List.length_map] at e; show x.cps.size ≤ i; simp at e; omega, fun d hd => ?_⟩
  obtain ⟨c, hc, rfl⟩ := sign_get hd
  have hlt : i < x.cps.size := (Array.getElem?_eq_some_iff.mp hc).1
  refine ⟨hlt, fun v H2 ⟨e, c', hc', ev⟩ => ?_⟩
  subst e
  rw [hc] at hc'
  cases hc'
  subst ev
  exact ⟨.rfl, m, mk_str⟩
theorem range_get {lo : Int} {n i : Nat} {d : D} (h : (rangeD lo n)[i]? = some d) : i < n ∧ d = .int (lo + i) := by
  unfold rangeD at h
  rw [List.getElem?_map] at h
  by_cases hi : i < n
  · rw [List.getElem?_range hi] at h
    cases h
    exact ⟨hi, rfl⟩
  · rw [List.getElem?_eq_none (by simpa using hi)] at h
    cases h
theorem it_range (lo : Int) (n : Nat) : ItOk K H (Itr lo n) (rangeD lo n) fun _ => True := by
  intro i R M H' k m _
  refine ⟨fun e => by unfold rangeD at e; rw [List.length_map, List.length_range] at e; show n ≤ i; omega, fun d hd => ?_⟩
  obtain ⟨hi, rfl⟩ := range_get hd
  refine ⟨hi, fun v H2 ⟨e, ev⟩ => ?_⟩
  subst e ev
  exact ⟨.rfl, m, mk_int⟩
theorem enum_len : (enumD ds).length = ds.length := by unfold enumD; simp
theorem enum_get {i : Nat} {d : D} (h : (enumD ds)[i]? = some d) : ∃ e, ds[i]? = some e ∧ d = .tup [.int i, e] := by
  unfold enumD at h
  rw [List.getElem?_zipWith] at h
  by_cases hi : i < ds.length
  · rw [List.getElem?_range hi, List.getElem?_eq_getElem hi] at h
    exact ⟨ds[i], List.getElem?_eq_getElem hi, (Option.some.inj h).symm⟩
  · rw [List.getElem?_eq_none (show (List.range ds.length).length ≤ i by simpa using hi)] at h
    cases h
theorem pair_ok {R : List (Addr × HO)} {M : MH} {T : Addr} {i : Nat} {x : V} {e : D} (m : RelM K R M H) (hT : H T = none) (ix : IsD K H e x) :
    Keep K H (upd H T (.tup [.int (i : Nat), x])) ∧ RelM K R M (upd H T (.tup [.int (i : Nat), x])) ∧ IsD K (upd H T (.tup [.int (i : Nat), x])) (.tup [.int i, e]) (.ref T) := by
  have k : Keep K H (upd H T (.tup [.int (i : Nat), x])) := .new hT
  exact ⟨k, m.lay hT, mk_tup (.inl (.inl upd_same)) (.cons mk_int (.one (ix.keep k)))⟩
theorem it_enT (h : IsD K H (.tup ds) (.ref a)) : ItOk K H (Iet K a) (enumD ds) fun _ => True := by
  intro i R M H' k m _
  obtain ⟨p, xs, e, s, r⟩ := inv_tup (h.keep k)
  cases e
  refine ⟨fun e => ⟨xs, s, by rw [r.length, e, enum_len]⟩, fun d hd => ?_⟩
  obtain ⟨d, hd', rfl⟩ := enum_get hd; replace hd := hd'
  obtain ⟨v, hv, iv⟩ := r.get hd
  refine ⟨⟨xs, v, s, hv⟩, fun x H2 ⟨T, y, ex, hT, e, al⟩ => ?_⟩
  have := al xs s
  rw [hv] at this
  cases this
  subst ex e
  exact pair_ok m hT iv
theorem it_enFl (h : IsD K H (.fl ds) (.ref a)) : ItOk K H (Ite K a) (enumD ds) fun _ => True := by
  intro i R M H' k m _
  obtain ⟨p, xs, e, s, r⟩ := inv_fl (h.keep k)
  cases e
  refine ⟨fun e => ⟨xs, s.sq, by rw [r.length, e, enum_len]; exact Nat.le_refl _⟩, fun d hd => ?_⟩
  obtain ⟨d, hd', rfl⟩ := enum_get hd; replace hd := hd'
  obtain ⟨v, hv, iv⟩ := r.get hd
  refine ⟨⟨xs, v, s.sq, hv⟩, fun x H2 ⟨T, y, ex, hT, e, al⟩ => ?_⟩
  have := al xs s.sq
  rw [hv] at this
  cases this
  subst ex e
  exact pair_ok m hT iv
theorem it_enL : ItOk K H (Ite K a) (enumD ds) fun M => M.get a = some (.lst ds) := by
  intro i R M H' k m hc
  obtain ⟨xs, hx, r⟩ := lst_of m hc
  have s : SqL K H' a xs := .inl (.inl hx)
  refine ⟨fun e => ⟨xs, s, by rw [r.length, e, enum_len]; exact Nat.le_refl _⟩, fun d hd => ?_⟩
  obtain ⟨d, hd', rfl⟩ := enum_get hd; replace hd := hd'
  obtain ⟨v, hv, iv⟩ := r.get hd
  refine ⟨⟨xs, v, s, hv⟩, fun x H2 ⟨T, y, ex, hT, e, al⟩ => ?_⟩
  have := al xs s
  rw [hv] at this
  cases this
  subst ex e
  exact pair_ok m hT iv
theorem it_enS (x : Str) : ItOk K H (Ies x) (enumD (x.cps.toList.map fun c => .str ⟨#[c]⟩)) fun _ => True := by
  intro i R M H' k m _
  refine ⟨fun e => by rw [enum_len, List.length_map] at e; show i = x.cps.size; simp at e; omega, fun d hd => ?_⟩
  obtain ⟨d, hd', rfl⟩ := enum_get hd; replace hd := hd'
  obtain ⟨c, hc, rfl⟩ := sign_get hd
  have hlt : i < x.cps.size := (Array.getElem?_eq_some_iff.mp hc).1
  refine ⟨hlt, fun v H2 ⟨T, c', ex, hT, e, hc'⟩ => ?_⟩
  rw [hc] at hc'
  cases hc'
  subst ex e
  exact pair_ok m hT mk_str
end
section
variable {X : Cx} {tg e : Expr} {te : ME} {pos p : Pos}
theorem mi_val (he : PE X e (liftE X.K te)) : PI X tg e (liftI X.K fun σ M Q => te σ M fun x M1 => itD x M1 fun ds chk => Q ds chk M1) := by
  refine (pi_val he).of fun σ H Z ⟨R, σd, M, Qd, rel, q, up⟩ => ⟨R, σd, M, _, rel, q, fun d M1 v H1 q1 k1 m1 i1 => ?_⟩
  cases d with
  | tup ds =>
    obtain ⟨a, xs, rfl, s, r⟩ := inv_tup i1
    exact .inr (.inl ⟨a, rfl, ⟨xs, s⟩, up ds _ M1 H1 _ q1 k1 m1 (it_tup i1)⟩)
  | fl ds =>
    obtain ⟨a, xs, rfl, s, r⟩ := inv_fl i1
    exact .inl ⟨a, rfl, ⟨xs, s.sq⟩, up ds _ M1 H1 _ q1 k1 m1 (it_fl i1)⟩
  | str x => exact .inr (.inr ⟨x, inv_str i1, up _ _ M1 H1 _ q1 k1 m1 (it_str x)⟩)
  | ref p =>
    unfold itD at q1
    revert q1
    simp only
    cases g : M1.get p with
    | none => exact False.elim
    | some o => cases o with
      | ins C fs => exact False.elim
      | lst ds =>
        intro q1
        obtain ⟨xs, hx, r⟩ := lst_of m1 g
        exact .inl ⟨p, inv_ref i1, ⟨xs, .inl (.inl hx)⟩, up ds _ M1 H1 _ q1 k1 m1 it_lst⟩
  | non => exact False.elim q1
  | bl b => exact False.elim q1
  | int i => exact False.elim q1
theorem ma_one (he : PE X e (liftE X.K te)) (hs : starEach [e] X.env = [(false, eval e X.env)]) : PA X [e] (liftA X.K 1 fun σ M Q => te σ M fun d M1 => Q [d] M1) := ma_cons he ma_nil (by rw [hs]; rfl)
theorem mi_range1 (hg : Gl X "range") (hm : X.mg "range" = none) (he : PE X e (liftE X.K te)) (hs : starEach [e] X.env = [(false, eval e X.env)]) :
    PI X tg (.Call (.Name "range" p) [e] [] pos) (liftI X.K fun σ M Q => te σ M fun x M1 => match x with
      | .int n => small62 n ∧ Q (rangeD 0 n.toNat) (fun _ => True) M1
      | _ => False) := by
  refine (pi_range1 hg hm (ma_one he hs) hs).of fun σ H Z ⟨R, σd, M, Qd, rel, q, up⟩ => ⟨R, σd, M, fun ds M1 => ∃ d : D, ds = [d] ∧ (match d with
      | .int n => small62 n ∧ Qd (rangeD 0 n.toNat) (fun _ => True) M1
      | _ => False), rel, ?_, fun ds M1 vs H1 _ ⟨d, e1, q1⟩ k1 m1 i1 => ?_⟩
  · have e1 : (fun (d : D) M1 => ∃ d' : D, [d] = [d'] ∧ (match d' with
      | .int n => small62 n ∧ Qd (rangeD 0 n.toNat) (fun _ => True) M1
      | _ => False)) = fun (d : D) M1 => (match d with
      | .int n => small62 n ∧ Qd (rangeD 0 n.toNat) (fun _ => True) M1
      | _ => False) := by
      funext d M1
      exact propext ⟨fun ⟨d', e1, q⟩ => by cases e1; exact q, fun q => ⟨d, rfl, q⟩⟩
    show te σd M _
    rw [e1]
    exact q
  · subst e1
    obtain ⟨x, ys, rfl, ix, t⟩ := i1.inv
    cases t.inv_nil
    cases d <;> first | exact q1.elim | skip
    exact ⟨_, by rw [inv_int ix], q1.1.1, q1.1.2, up _ _ M1 H1 _ q1.2 k1 m1 (it_range 0 _)⟩
theorem mi_range2 {f : Expr} {tf : ME} (hg : Gl X "range") (hm : X.mg "range" = none) (he : PE X e (liftE X.K te)) (hf : PE X f (liftE X.K tf)) (hs : starEach [e, f] X.env = [(false, eval e X.env), (false, eval f X.env)]) (hs2 : starEach [f] X.env = [(false, eval f X.env)]) :
    PI X tg (.Call (.Name "range" p) [e, f] [] pos) (liftI X.K fun σ M Q => te σ M fun x M1 => tf σ M1 fun y M2 => match x, y with
      | .int lo, .int hi => small62 lo ∧ small62 hi ∧ Q (rangeD lo (hi - lo).toNat) (fun _ => True) M2
      | _, _ => False) := by
  refine (pi_range2 hg hm (ma_cons he (ma_one hf hs2) (by rw [hs, hs2])) hs hs2).of fun σ H Z ⟨R, σd, M, Qd, rel, q, up⟩ => ⟨R, σd, M, fun ds M1 => ∃ d f : D, ds = [d, f] ∧ (match d, f with
      | .int lo, .int hi => small62 lo ∧ small62 hi ∧ Qd (rangeD lo (hi - lo).toNat) (fun _ => True) M1
      | _, _ => False), rel, ?_, fun ds M1 vs H1 _ ⟨d, f, e1, q1⟩ k1 m1 i1 => ?_⟩
  · have e1 : ∀ d : D, (fun (f : D) M1 => ∃ d' f' : D, [d, f] = [d', f'] ∧ (match d', f' with
      | .int lo, .int hi => small62 lo ∧ small62 hi ∧ Qd (rangeD lo (hi - lo).toNat) (fun _ => True) M1
      | _, _ => False)) = fun (f : D) M1 => (match d, f with
      | .int lo, .int hi => small62 lo ∧ small62 hi ∧ Qd (rangeD lo (hi - lo).toNat) (fun _ => True) M1
      | _, _ => False) := by
      intro d
      funext f M1
      exact propext ⟨fun ⟨d', f', e1, q⟩ => by cases e1; exact q, fun q => ⟨d, f, rfl, q⟩⟩
    show te σd M fun d M1 => tf σd M1 _
    simp only [e1]
    exact q
  · subst e1
    obtain ⟨x, y, rfl, ix, iy⟩ := i1.inv2
    cases d <;> cases f <;> first | exact q1.elim | skip
    exact ⟨_, _, by rw [inv_int ix, inv_int iy], ⟨q1.1.1, q1.1.2, q1.2.1.1, q1.2.1.2⟩, up _ _ M1 H1 _ q1.2.2 k1 m1 (it_range _ _)⟩
theorem mi_enum {elts : List Expr} {kk : Nat} {tpos : Pos} (hg : Gl X "enumerate") (hm : X.mg "enumerate" = none) (he : PE X e (liftE X.K te)) (hs : starEach [e] X.env = [(false, eval e X.env)]) :
    PI X (.Tuple elts kk tpos) (.Call (.Name "enumerate" p) [e] [] pos) (liftI X.K fun σ M Q => te σ M fun x M1 => itD x M1 fun ds chk => Q (enumD ds) chk M1) := by
  refine (pi_en hg hm (ma_one he hs) hs).of fun σ H Z ⟨R, σd, M, Qd, rel, q, up⟩ => ⟨R, σd, M, fun ds M1 => ∃ d : D, ds = [d] ∧ itD d M1 fun ds chk => Qd (enumD ds) chk M1, rel, ?_, fun ds M1 vs H1 _ ⟨d, e1, q1⟩ k1 m1 i1 => ?_⟩
  · have e1 : (fun (d : D) M1 => ∃ d', [d] = [d'] ∧ itD d' M1 fun ds chk => Qd (enumD ds) chk M1) = fun d M1 => itD d M1 fun ds chk => Qd (enumD ds) chk M1 := by
      funext d M1
      exact propext ⟨fun ⟨d', e1, q⟩ => by cases e1; exact q, fun q => ⟨d, rfl, q⟩⟩
    show te σd M _
    rw [e1]
    exact q
  · subst e1
    obtain ⟨x, ys, rfl, ix, t⟩ := i1.inv
    cases t.inv_nil
    cases d with
    | tup ds =>
      obtain ⟨a, xs, rfl, s, r⟩ := inv_tup ix
      exact .inr (.inl ⟨a, rfl, ⟨xs, s⟩, up _ _ M1 H1 _ q1 k1 m1 (it_enT ix)⟩)
    | fl ds =>
      obtain ⟨a, xs, rfl, s, r⟩ := inv_fl ix
      exact .inl ⟨a, rfl, ⟨xs, s.sq⟩, up _ _ M1 H1 _ q1 k1 m1 (it_enFl ix)⟩
    | str x => exact .inr (.inr ⟨x, by rw [inv_str ix], up _ _ M1 H1 _ q1 k1 m1 (it_enS x)⟩)
    | ref p =>
      unfold itD at q1
      revert q1
      simp only
      cases g : M1.get p with
      | none => exact False.elim
      | some o => cases o with
        | ins C fs => exact False.elim
        | lst ds =>
          intro q1
          obtain ⟨xs, hx, r⟩ := lst_of m1 g
          exact .inl ⟨p, by rw [inv_ref ix], ⟨xs, .inl (.inl hx)⟩, up _ _ M1 H1 _ q1 k1 m1 it_enL⟩
    | non => exact False.elim q1
    | bl b => exact False.elim q1
    | int i => exact False.elim q1
end
end Mx
namespace Mx
open PySem PySem.Spec PyProof.Rows L2 PySem.SeqAt
structure Tb where
  ca : Str → Nat → FSp → Prop
  ck : Str → Nat → List Str → FSp → Prop
  co : Str → D → Prop
  fr : Str → Prop
structure Ev where
  sc : Scope
  N : List Str
  fn : Str → Bool
structure Good (T : Tb) (ev : Ev) (X : Cx) : Prop where
  eN : X.N = ev.N
  nd : ev.N.Nodup
  eS : X.env.scope = ev.sc
  fk : ev.sc.kind = .function
  fn : ∀ x, X.fn x = ev.fn x
  calm : X.calm = true
  own : PassesOwn (model X.prog X.w) X.A X.env X.xe
  hu : X.A.units + 64 < cLine
  hg : X.A.guards = some []
  ca : ∀ f n sp, T.ca f n sp → CallOk X f n sp
  ck : ∀ f m ks sp, T.ck f m ks sp → KwOk X f m ks sp
  co : ∀ x d, T.co x d → ConOk X.K X.mg x d
  fr : ∀ x, T.fr x → X.mg x = none
section
variable {P : Program} {w : World} {K : PySem.W.Frag} {mg : Str → Option Value} {base : Heap}
structure CallG (P : Program) (w : World) (K : PySem.W.Frag) (mg : Str → Option Value) (k : Nat) (f : Str) (n : Nat) (sp : FSp) : Prop where
  ex : ∃ (fa : Addr) (fd : FuncData) (ps : List Str), ps.length = n ∧ (∀ base : Heap, K.In base → base.Ns mainGlobals mg → FnG P w K mg base k fa fd ps (liftSp K n sp)) ∧ mg f = some (.ref fa) ∧ PySem.W.keepIn K (.ref fa) = true ∧ Binds K fd ps []
theorem CallG.mono {j k : Nat} {f : Str} {n : Nat} {sp : FSp} (c : CallG P w K mg j f n sp) (h : j ≤ k) : CallG P w K mg k f n sp := by
  obtain ⟨fa, fd, ps, a, b, c⟩ := c.ex
  exact ⟨fa, fd, ps, a, fun base h1 h2 => (b base h1 h2).mono h, c⟩
structure KwG (P : Program) (w : World) (K : PySem.W.Frag) (mg : Str → Option Value) (k : Nat) (f : Str) (m : Nat) (ks : List Str) (sp : FSp) : Prop where
  ex : ∃ (fa : Addr) (fd : FuncData) (ps : List Str) (sp0 : FSp) (g : List Value → List Value → List Value) (gV : List V → List V → List V) (gD : List D → List D → List D),
    (∀ base : Heap, K.In base → base.Ns mainGlobals mg → FnG P w K mg base k fa fd ps (liftSp K ps.length sp0)) ∧ mg f = some (.ref fa) ∧ PySem.W.keepIn K (.ref fa) = true ∧ KBn K fd ps m ks g gV ∧
    (∀ H ds vs es zs, IsDs K H ds vs → IsDs K H es zs → IsDs K H (gD ds es) (gV vs zs)) ∧ (∀ ds es, ds.length = m → es.length = ks.length → (gD ds es).length = ps.length) ∧
    ∀ ds es M Q E, ds.length = m → es.length = ks.length → sp (ds ++ es) M Q E → sp0 (gD ds es) M Q E
theorem KwG.mono {j k : Nat} {f : Str} {m : Nat} {ks : List Str} {sp : FSp} (c : KwG P w K mg j f m ks sp) (h : j ≤ k) : KwG P w K mg k f m ks sp := by
  obtain ⟨fa, fd, ps, sp0, g, gV, gD, b, c⟩ := c.ex
  exact ⟨fa, fd, ps, sp0, g, gV, gD, fun base h1 h2 => (b base h1 h2).mono h, c⟩
theorem KwG.ok {k : Nat} {f : Str} {m : Nat} {ks : List Str} {sp : FSp} (c : KwG P w K mg k f m ks sp) (hK : K.In base) (hn : base.Ns mainGlobals mg) {X : Cx} (e1 : X.prog = P) (e2 : X.w = w) (e3 : X.K = K) (e4 : X.mg = mg) (e5 : X.base = base) (hr : Room k X.A) : KwOk X f m ks sp := by
  obtain ⟨fa, fd, ps, sp0, g, gV, gD, b, c1, c2, c3⟩ := c.ex
  subst e1 e2 e3 e4 e5
  exact ⟨k, fa, fd, ps, sp0, g, gV, gD, b _ hK hn, hr, c1, c2, c3⟩
def tb (P : Program) (w : World) (K : PySem.W.Frag) (mg : Str → Option Value) (k : Nat) : Tb := ⟨fun f n sp => CallG P w K mg k f n sp, fun f m ks sp => KwG P w K mg k f m ks sp, fun x d => ConOk K mg x d, fun x => mg x = none⟩
theorem deeper_guards {A : Around} {env : Env} : (A.deeper env).guards = A.guards := by first | rfl | (unfold Around.deeper; rfl)
theorem CallG.ok {k : Nat} {f : Str} {n : Nat} {sp : FSp} (c : CallG P w K mg k f n sp) (hK : K.In base) (hn : base.Ns mainGlobals mg) {X : Cx} (e1 : X.prog = P) (e2 : X.w = w) (e3 : X.K = K) (e4 : X.mg = mg) (e5 : X.base = base) (hr : Room k X.A) : CallOk X f n sp := by
  obtain ⟨fa, fd, ps, a, b, c1, c2, c3⟩ := c.ex
  subst e1 e2 e3 e4 e5
  exact ⟨k, fa, fd, ps, a, b _ hK hn, hr, c1, c2, c3⟩
def startD (n : Nat) (ds : List D) : Sd := ds.map some ++ List.replicate (n - ds.length) none
theorem startR {N : List Str} {ds : List D} {vs : List V} {H : Hp} (h : IsDs K H ds vs) : RelS K (startD N.length ds) (L2.start N vs) H where
  len := by
    unfold startD L2.start
    rw [List.length_append, List.length_append, List.length_map, List.length_map, List.length_replicate, List.length_replicate, h.length]
  at_ := fun i d e => by
    unfold startD at e
    by_cases hi : i < ds.length
    · rw [List.getElem?_append_left (by simpa using hi), List.getElem?_map] at e
      cases q : ds[i]? with
      | none => rw [q] at e; cases e
      | some d' =>
        rw [q] at e
        cases e
        obtain ⟨v, hv, iv⟩ := h.get q
        refine ⟨v, ?_, iv⟩
        unfold L2.start
        rw [List.getElem?_append_left (by rw [List.length_map, h.length]; exact hi), List.getElem?_map, hv]
        rfl
    · rw [List.getElem?_append_right (by simpa using hi), List.getElem?_replicate] at e
      split at e <;> cases e
def SubM (M M' : MH) : Prop := ∀ a o, M.get a = some o → M'.get a = some o
def dropQ (Q : KE) : KE := fun d M' => ∃ M, SubM M M' ∧ Q d M
theorem UpE.drop {K : PySem.W.Frag} {R : List (Addr × HO)} {H : Hp} {Qd : KE} {Q : VK} (u : UpE K R H Qd Q) : UpE K R H (dropQ Qd) Q := fun d M' v H' ⟨M, s, q⟩ k m i => u d M v H' q k (m.drop s) i
theorem fng_of {k : Nat} {f : Addr} {name qual : Str} {params : Arguments} {body : List Stmt} {scope : Scope} {dvs : List V} {kws : List (Str × V)} {fd : FuncData} {N ps : List Str} {sp : FSp} {c : MS}
    (F : FunD K name qual params body scope dvs kws f fd) (S : FnScope N ps scope) (hK : K.In base) (hn : base.Ns mainGlobals mg)
    (hb : ∀ X : Cx, Good (tb P w K mg k) ⟨scope, N, fun _ => true⟩ X → X.K = K → PSs X body (liftS X.K c))
    (law : ∀ ds M Q, ds.length = ps.length → sp ds M Q (fun _ _ => False) → c ⟨fun _ M' => dropQ Q .non M', dropQ Q, fun _ _ => False, fun _ _ => False⟩ (startD N.length ds) M) :
    FnG P w K mg base (k + 1) f fd ps (liftSp K ps.length sp) := by
  obtain ⟨oc, od, dV, kV, doc, pm, an, cdv, ct, osl, rfl, lk, hcd, -, -⟩ := F.ex
  refine ⟨fun vs H Q E ⟨R, M, ds, Qd, hl, m, i, _, _⟩ => by rw [i.length, hl], fun A outer s H args us vs Q E hr hg e0 hbd r hsp => ?_⟩
  obtain ⟨R, M, ds, Qd, hl, m, i, hs, up⟩ := hsp
  have hlv : vs.length = ps.length := by rw [i.length, hl]
  have KX : K.In s.heap := e0.mod.kin.keeps fun b o e => (e0.bs b o e).1
  have lim : s.heap.NoLimit := e0.mod.nolimit.keeps fun b o e => (e0.bs b o e).1
  have kinds : ∀ y ∈ ps.zip us, scope.names.lookup y.1 = some .local ∨ (scope.names.lookup y.1 = some .cell ∧ ((cellsFrom (s.heap.objs.size + 1) scope.names []).lookup y.1).isSome = true) := fun ⟨n, v⟩ hy =>
    (S.par n (List.of_mem_zip hy).1).elim .inl fun q => .inr ⟨q, PySem.W.cellsFrom_some _ _ _ (.inl q)⟩
  refine codeAny_call_function hr.depth (KX _ _ lk) rfl S.co S.gen rfl (PySem.W.codeRec_of KX hcd) (hbd _ _ _ _ ?_)
  refine wpAny_newFunctionEnv_cells S.kind kinds fun env he s1 x => ?_
  subst he
  refine ⟨lim.keeps x.toInCall.keep, codeAny_func ?_⟩
  have J : Inv (cxOf CX0 P w K mg base N qual scope f cdv A outer s H E) [] (L2.start N vs) H s1 := inv_start S hr.hd e0 hlv r x
  have good : Good (tb P w K mg k) ⟨scope, N, fun _ => true⟩ (cxOf CX0 P w K mg base N qual scope f cdv A outer s H E).nox :=
    { eN := rfl, nd := S.nd, eS := rfl, fk := S.kind, fn := fun _ => rfl, calm := rfl, own := PassesOwn.never, hu := (hr.deeper _).units, hg := deeper_guards.trans hg,
      ca := fun f n sp h => CallG.ok h hK hn rfl rfl rfl rfl rfl (hr.deeper _), ck := fun f m ks sp h => KwG.ok h hK hn rfl rfl rfl rfl rfl (hr.deeper _), co := fun _ _ h => h, fr := fun _ h => h }
  have body := (hb _ good rfl).nox
  have q : liftS K c { nx := fun _ H' => Q .non H', rt := Q } (L2.start N vs) H :=
    ⟨R, _, M, _, ⟨startR i, m⟩, law ds M Qd hl hs, ⟨fun σd M' σ' H' q k r => up.drop _ M' _ H' q k r.m mk_non, up.drop, fun _ _ _ _ q _ _ => q.elim, fun _ _ _ _ q _ _ => q.elim⟩⟩
  refine wpAny_mono (body.run [] s1 (L2.start N vs) H _ J q) (fun fl s' hs => ?_) fun e s' hs => hs
  have fin : ∀ {σ' : L2.St} {H' : Hp} {v : V} {u : Value}, Inv (cxOf CX0 P w K mg base N qual scope f cdv A outer s H E) [] σ' H' s' → RelV v u → Q v H' → L2.CE outer P w H s Q u s' :=
    fun {σ' H' v u} J rv q => ⟨v, H', J.os, J.bare, J.base, J.hok, rv, q⟩
  cases fl with
  | ret u =>
    obtain ⟨v, σ', H', J', rv, q⟩ := hs
    exact fin J' rv q
  | next =>
    obtain ⟨σ', H', J', q⟩ := hs
    exact fin (v := V.non) (u := Value.none) J' rfl q
  | brk => obtain ⟨_, _, _, q⟩ := hs; exact False.elim q
  | cont => obtain ⟨_, _, _, q⟩ := hs; exact False.elim q
end
end Mx
namespace Mx
open PySem PySem.Spec PyProof.Rows L2
theorem fz_only {K : PySem.W.Frag} {H : Hp} {a : Addr} {xs : List V} (hO : Only H) (h : SqL K H a xs) : FzL K H a xs := by
  rcases h with h | h
  · rcases h with h | h
    · rcases hO a with z | ⟨o, ys, z⟩
      · rw [h] at z; cases z
      · rw [h] at z; cases z
    · exact .inl h
  · exact .inr h
theorem law_runs {P : Program} {w : World} {K : PySem.W.Frag} {mg mb : Str → Option Value} {k : Nat} {fa a : Addr} {fd : FuncData} {x : Str} {sp : FSp} {s₁ : Shared} {vs : List Value} {ns : List Int}
    (KX : K.In s₁.heap) (hns : s₁.heap.Ns mainGlobals mg) (hb : s₁.heap.Ns builtinsNs mb) (hbb : ∀ x : Str, x ≠ "__name__" → mb x = bootBuiltins x) (hlim : s₁.heap.NoLimit) (hg : s₁.gens = #[])
    (ha : s₁.heap.get? a = some { cls := .type "list", data := .seq vs.toArray }) (hi : IntsAre vs ns) (hl : ns.length ≤ sizeLine) (hr : Room k callerA)
    (F : ∀ base : Heap, K.In base → base.Ns mainGlobals mg → FnG P w K mg base k fa fd [x] (liftSp K 1 sp)) (hbind : ∀ (s : Shared) (u : Value), BindsTo s fd ⟨[u], []⟩ [(x, u)])
    (hsp : sp [.fl (ns.map .int)] [] (fun d _ => d = .bl true) fun _ _ => False) :
    codeAny (model P w) callerA (.call (.ref fa) ⟨[.ref a], []⟩) (fun r s' => r = .ok (.ret (.bool true)) ∧ OldK s₁.heap s'.heap ∧ s'.os = s₁.os ∧ AllBare s'.gens) s₁ := by
  have rv := vals_ints hi
  have lenV := hi.length
  have core : ∀ H : Hp, Only H → SqL K H a (ns.map V.int) → HOk P w H s₁.heap → (∀ b, H b ≠ none → b = a) → (H a ≠ none → K.lookup a = none) →
      codeAny (model P w) callerA (.call (.ref fa) ⟨[.ref a], []⟩) (fun r s' => r = .ok (.ret (.bool true)) ∧ OldK s₁.heap s'.heap ∧ s'.os = s₁.os ∧ AllBare s'.gens) s₁ := by
    intro H hO hS hok hA hK
    have inB : ∀ {b : Addr} {o : Obj}, s₁.heap.get? b = some o → H b = none → (hidT s₁.heap H).get? b = some o := fun e n => hidT_get e n
    have noA : ∀ {b : Addr} {o : Obj} {es : Array DictEntry} {ep : Nat}, s₁.heap.get? b = some o → o.data = .dict es ep → H b = none := fun {b o es ep} e d => by
      cases q : H b with
      | none => rfl
      | some u =>
        obtain rfl : b = a := hA b (by rw [q]; simp)
        rw [ha] at e; cases e
        have d' : Data.seq vs.toArray _ = Data.dict es ep := d
        cases d'
    have nsK : ∀ {b : Addr} {m : Str → Option Value}, s₁.heap.Ns b m → (hidT s₁.heap H).Ns b m := fun {b m} ⟨o, es, ep, e, d, r⟩ => ⟨o, es, ep, inB e (noA e d), d, r⟩
    have hKb : K.In (hidT s₁.heap H) := fun b o e => inB (KX b o e) (by
      cases q : H b with
      | none => rfl
      | some u =>
        obtain rfl : b = a := hA b (by rw [q]; simp)
        rw [hK (by rw [q]; simp)] at e; cases e)
    have hM : Mod K mg (hidT s₁.heap H) := ⟨hKb, nsK hns, ⟨mb, nsK hb, hbb⟩, let ⟨mc, h1, h2⟩ := hlim; ⟨mc, nsK h1, h2⟩⟩
    have e0 : Env0 P w K mg (hidT s₁.heap H) callerA [] s₁ H := ⟨rfl, hM, fun b o e => of_hidT e, Nat.le_of_eq (hidT_size _ _), trivial, fun b hb => absurd (show b ∈ ([] : List Addr) from hb) (by simp), hok, .of_eq hg⟩
    have fz := fz_only hO hS
    have start : liftSp K 1 sp [.ref a] H (fun v _ => v = .bl true) fun _ _ _ => False :=
      ⟨[], [], [.fl (ns.map .int)], _, rfl, ⟨fun b o e => (by cases e), fun p hp => absurd hp (by simp)⟩, .one (by unfold IsD; exact ⟨a, _, rfl, fz, IsDs.ints.mpr rfl⟩), hsp, fun d M' v H' e _ _ i => by subst e; exact inv_bl i⟩
    refine codeAny_mono ((F _ hKb (nsK hns)).run callerA [] s₁ H ⟨[.ref a], []⟩ [.ref a] [.ref a] _ _ hr rfl e0 (hbind s₁ (.ref a)) (.cons rfl .nil) start) fun r s' h => ?_
    cases r with
    | error e => exact h.elim
    | ok fl =>
      cases fl with
      | next => exact False.elim h
      | brk => exact False.elim h
      | cont => exact False.elim h
      | ret u =>
        obtain ⟨v, H', os, bare, un, hok', r', q⟩ := h
        obtain rfl : v = .bl true := q
        obtain rfl : u = Value.bool true := r'
        refine ⟨rfl, OldK.of_keep fun b o e => ?_, os, bare⟩
        cases q : H b with
        | none => exact un.keep b o e q (by intro z; exact absurd (show b ∈ ([] : List Addr) from z) (by simp)) (by simp)
        | some u =>
          rcases hO b with z | ⟨ob, xs, z⟩
          · rw [q] at z; cases z
          · have z2 := un.frzs b ob _ z
            obtain ⟨e1, _⟩ := hok b _ z
            obtain ⟨e2, _⟩ := hok' b _ z2
            rw [e] at e1; cases e1
            exact e2
  cases hk : K.lookup a with
  | some o =>
    have e := KX a o hk
    rw [ha] at e
    cases e
    refine core (fun _ => none) (fun _ => .inl rfl) (.inr ⟨_, vs.toArray, _, hk, rfl, rfl, rfl, by rw [List.size_toArray, lenV]; exact hl, by simpa using rv⟩) (fun b u z => by have z' : (none : Option HO) = some u := z; cases z') (fun b z => absurd rfl z) fun z => absurd rfl z
  | none =>
    refine core (fun b => if b = a then some (.frz { cls := .type "list", data := .seq vs.toArray } (.lst (ns.map V.int))) else none) (fun b => ?_) (.inl (.inr ⟨{ cls := .type "list", data := .seq vs.toArray }, if_pos rfl⟩)) (fun b u z => ?_) (fun b z => ?_) fun _ => hk
    · by_cases hb : b = a
      · exact .inr ⟨_, _, if_pos hb⟩
      · exact .inl (if_neg hb)
    · by_cases hb : b = a
      · have z' := (if_pos hb).symm.trans z
        cases z'
        subst hb
        exact ⟨ha, by rw [List.length_map]; exact hl, vs, _, rv, ha⟩
      · have z' := (if_neg hb).symm.trans z
        cases z'
    · by_cases hb : b = a
      · exact hb
      · exact absurd (if_neg hb) z
theorem walk_end {l : PySem.W.OpenLaw} {n k : Nat} {q : Program} {loose : List Str} {XP : (Str → Option Value) → Heap → Prop} {YP : World → Heap → Prop} {d : DefRec} {x : Str} {sp : FSp}
    (hn : l.most = some n) (hn2 : n ≤ sizeLine) (hdf : d.params.defaults = []) (hr : Room k callerA)
    (F : ∀ (w : World) (mg : Str → Option Value) (fa : Addr) (h : Heap), YP w h → h.Ns mainGlobals mg → mg d.name = some (.ref fa) →
      ∃ (K : PySem.W.Frag) (fd : FuncData), K.In h ∧ (∀ (s : Shared) (u : Value), BindsTo s fd ⟨[u], []⟩ [(x, u)]) ∧
        ∀ base : Heap, K.In base → base.Ns mainGlobals mg → FnG l.prog w K mg base k fa fd [x] (liftSp K 1 sp))
    (hsp : ∀ ns : List Int, ns.length ≤ n → (∀ z ∈ ns, Builtin.Int.intBits z ≤ 1048576) → sp [.fl (ns.map .int)] [] (fun d _ => d = .bl true) fun _ _ => False) :
    PySem.W.WalkO q loose XP YP l.row.toRowW d [] (fun f vs => PySem.call f vs) := by
  refine Att.attach_callB hn hdf fun w s₀ s₁ mg mb fa o pm cd doc a vs ns G Y ho hd hcd hmg hobj hints hlen hbits hg => ?_
  obtain ⟨K, fd, KX, hb, hF⟩ := F w mg fa _ Y G.T.g hmg
  exact law_runs KX G.T.g G.T.b G.T.builtins G.T.nolimit hg hobj hints (Nat.le_trans hlen hn2) hr hF hb (hsp ns hlen hbits)
end Mx
namespace Mx
open PySem PySem.Spec PyProof.Rows L2
def isStar : Expr → Bool
  | .Starred .. => true
  | _ => false
def noStars : List Expr → Bool
  | [] => true
  | e :: es => !isStar e && noStars es
theorem star_cons {a : Expr} {es : List Expr} {env : Env} (h : isStar a = false) : starEach (a :: es) env = (false, eval a env) :: starEach es env := by
  cases a <;> first | rfl | cases h
theorem star_one {a : Expr} {env : Env} (h : isStar a = false) : starEach [a] env = [(false, eval a env)] := star_cons h
theorem no_any {pos : Pos} {env : Env} : ∀ {es : List Expr}, noStars es = true → (backTo pos (starEach es env)).any (·.1) = false
  | [], _ => rfl
  | a :: es, h => by
    unfold noStars at h
    rw [Bool.and_eq_true, Bool.not_eq_true'] at h
    rw [star_cons h.1]
    show (false || (backTo pos (starEach es env)).any (·.1)) = false
    rw [no_any h.2]
    rfl
theorem no_len {env : Env} : ∀ {es : List Expr}, (starEach es env).length = es.length
  | [] => rfl
  | a :: es => by cases a <;> (show (starEach es env).length + 1 = _; rw [no_len]; rfl)
theorem few_ok {pos : Pos} {env : Env} {es : List Expr} (h : noStars es = true) (hl : es.length < 30) :
    ((backTo pos (starEach es env)).all (fun x => !x.1) && (backToKw pos (keywordEach [] env)).all (fun x => x.1.isSome) && decide (es.length + ([] : List Keyword).length + (if ([] : List Keyword).isEmpty then 0 else 1) < 30)) = true := by
  have h1 : (backTo pos (starEach es env)).all (fun x => !x.1) = true := by
    have q := no_any (pos := pos) (env := env) h
    rw [List.any_eq_false] at q
    rw [List.all_eq_true]
    intro x hx
    have z := q x hx
    simpa using z
  rw [h1, Bool.true_and]
  have h2 : decide (es.length + ([] : List Keyword).length + (if ([] : List Keyword).isEmpty then 0 else 1) < 30) = true := by
    simpa using hl
  rw [h2]
  rfl
theorem asg_cons {a : Expr} {es : List Expr} {env : Env} (h : isStar a = false) : assignEach (a :: es) env = (false, assign a env) :: assignEach es env := by
  cases a <;> first | rfl | cases h
theorem asg_len {env : Env} : ∀ {es : List Expr}, (assignEach es env).length = es.length
  | [] => rfl
  | a :: es => by cases a <;> (show (assignEach es env).length + 1 = _; rw [asg_len]; rfl)
theorem asg_plain {env : Env} : ∀ {es : List Expr}, noStars es = true → (assignEach es env).findIdx? (·.1) = none
  | [], _ => rfl
  | a :: es, h => by
    unfold noStars at h
    rw [Bool.and_eq_true, Bool.not_eq_true'] at h
    rw [asg_cons h.1, List.findIdx?_cons, asg_plain h.2]
    rfl
theorem asg_one {a : Expr} {env : Env} (h : isStar a = false) : (assignEach [a] env).map (·.2) = [assign a env] := by
  rw [asg_cons h] <;> rfl
theorem asg_map {a : Expr} {es : List Expr} {env : Env} (h : isStar a = false) : (assignEach (a :: es) env).map (·.2) = assign a env :: (assignEach es env).map (·.2) := by
  rw [asg_cons h] <;> rfl
def visB (sc : Scope) (x : Str) : Bool := match sc.names.lookup x with
  | some .local => true
  | some .cell => true
  | some .free => true
  | _ => false
def glB (sc : Scope) (x : Str) : Bool := decide (sc.names.lookup x = some .globalImplicit)
def locB (sc : Scope) (fn : Str → Bool) (x : Str) : Bool := match sc.names.lookup x with
  | some .local => true
  | some .cell => fn x
  | _ => false
theorem vis_ok {sc : Scope} {x : Str} (h : visB sc x = true) : Vis sc x := by
  unfold visB at h
  split at h <;> first | exact .inl (by assumption) | exact .inr (.inl (by assumption)) | exact .inr (.inr (by assumption)) | cases h
theorem loc_ok {sc : Scope} {fn : Str → Bool} {x : Str} (h : locB sc fn x = true) : Loc sc x ∧ (fn x = true ∨ sc.names.lookup x = some .local) := by
  unfold locB at h
  split at h
  · rename_i e
    exact ⟨.inl e, .inr e⟩
  · rename_i e
    exact ⟨.inr e, .inl h⟩
  · cases h
def plainName (x : Str) : Bool := !(x == ("__debug__" : Str)) && !(x == ("__classdict__" : Str)) && !decide (x = "__name__")
theorem plain_ok {x : Str} (h : plainName x = true) : (x == ("__debug__" : Str)) = false ∧ (x == ("__classdict__" : Str)) = false ∧ x ≠ "__name__" := by
  unfold plainName at h
  simp only [Bool.and_eq_true, Bool.not_eq_true', decide_eq_false_iff_not] at h
  exact ⟨h.1.1, h.1.2, h.2⟩
def isSlice : Expr → Bool
  | .Slice .. => true
  | _ => false
theorem plainIx_of {b : Expr} (h : isSlice b = false) : PlainIx b := by
  intro o i
  cases b <;> first | rfl | cases h
def noSuper : Expr → Bool
  | .Call (.Name _ _) [] [] _ => false
  | _ => true
theorem base_ok {o : Expr} {x : Str} {env : Env} {wh : Sem Value} (h : noSuper o = true) : attributeBase o x env wh = wh := by
  unfold attributeBase
  split
  · cases h
  · rfl
def isSet : Expr → Bool
  | .Set .. => true
  | _ => false
theorem notSet_ok {e : Expr} {env : Env} (h : isSet e = false) : ∀ x, foldedSetIterable e env x = pure x := by
  intro x
  cases e <;> first | rfl | cases h
def isComp : Expr → Bool
  | .ListComp .. => true
  | .SetComp .. => true
  | .DictComp .. => true
  | _ => false
theorem noswap {a : Expr} {t : Option Expr} {l : Nat} {env : Env} (h : isComp a = false) : swapsWith a t l env = pure false := by
  cases a <;> first | rfl | cases h
theorem noswap1 {a t : Expr} {l : Nat} {env : Env} (h : isComp a = false) : swapsWithSole [t] a l env = pure false := noswap h
def swapB (sc : Scope) (y : Str) (py : Pos) (a : Expr) : Bool := match a with
  | .ListComp _ _ s pos => (sc.names.lookup y == some .local) && (py.line == pos.line) && !(s.names.any fun (n, k) => n == y && (k == .local || k == .cell))
  | _ => false
theorem blockKind_fn {env : Env} (h : env.scope.kind = .function) : env.blockKind = .function := by
  unfold Env.blockKind
  rw [h]
  rfl
theorem swap_comp {env : Env} {y : Str} {py : Pos} {elt : Expr} {gs : List Comprehension} {s : Scope} {pos : Pos} {l : Nat} (hk : env.scope.kind = .function) :
    swapsWith (.ListComp elt gs s pos) (some (.Name y py)) l env = pure (swapB env.scope y py (.ListComp elt gs s pos)) := by
  unfold swapsWith swapB
  simp only [blockKind_fn hk, Expr.pos]
  rfl
theorem swapsWith_other {env : Env} {t : Expr} {elt : Expr} {gs : List Comprehension} {s : Scope} {pos : Pos} {l : Nat} (h : ∀ y p, t ≠ .Name y p) : swapsWith (.ListComp elt gs s pos) (some t) l env = pure false := by
  cases t <;> first | rfl | exact absurd rfl (h _ _)
def swNames (sc : Scope) (line : Nat) (ts : List Expr) : List Str := ts.filterMap fun
    | .Name id pos => if sc.names.lookup id == some .local && pos.line == line then some id else none
    | _ => none
def swapK (sc : Scope) (ts vs : List Expr) : Option (Option (List Str)) :=
  if !(ts.length == 2 || ts.length == 3) || vs.length != ts.length then some none
  else if vs.any (fun | .Starred .. => true | _ => false) then some none
  else if (swNames sc ((ts.head?.map (·.pos.line)).getD 0) ts).length != ts.length || (swNames sc ((ts.head?.map (·.pos.line)).getD 0) ts).eraseDups.length != (swNames sc ((ts.head?.map (·.pos.line)).getD 0) ts).length then some none
  else if vs.all (foldedForSure 8) then some none
  else if vs.all (constantsAlone 8) then none else some (some (swNames sc ((ts.head?.map (·.pos.line)).getD 0) ts))
theorem swapK_ok {env : Env} {ts vs : List Expr} {k k2 : Nat} {p p2 : Pos} {r : Option (List Str)} (hk : env.scope.kind = .function) (h : swapK env.scope ts vs = some r) :
    swappedStores [.Tuple ts k p] (.Tuple vs k2 p2) env = pure r := by
  unfold swapK at h
  unfold swappedStores
  simp only [blockKind_fn hk]
  split at h
  · rename_i c
    cases h
    rw [if_pos (by rw [c]; rfl)]
  · rename_i c
    rw [if_neg (by rw [Bool.not_eq_true] at c; rw [c]; decide)]
    split at h
    · rename_i c
      cases h
      exact if_pos c
    · rename_i c
      refine (if_neg c).trans ?_
      split at h
      · rename_i c
        cases h
        exact if_pos c
      · rename_i c
        refine (if_neg c).trans ?_
        split at h
        · rename_i c
          cases h
          exact if_pos c
        · rename_i c
          refine (if_neg c).trans ?_
          split at h
          · cases h
          · rename_i c
            cases h
            exact if_neg c
def isTup : Expr → Bool
  | .Tuple .. => true
  | _ => false
def isLst : Expr → Bool
  | .List .. => true
  | _ => false
theorem swapB_comp {sc : Scope} {y : Str} {p : Pos} {a : Expr} (h : swapB sc y p a = true) : isComp a = true := by
  unfold swapB at h
  split at h
  · rfl
  · cases h
theorem stores_plain {t a : Expr} {env : Env} (h : ((isTup t || isLst t) && isTup a) = false) : swappedStores [t] a env = pure none := by
  cases t <;> cases a <;> first | rfl | cases h
end Mx
namespace Mx
open PySem PySem.Spec PyProof.Rows L2
def bfName : BF → Str
  | .len => "len" | .int => "int" | .str => "str" | .abs => "abs" | .ord => "ord" | .max => "max" | .min => "min" | .divmod => "divmod" | .tuple => "tuple" | .list => "list" | .repr => "repr"
def mfName : MF → Str
  | .append => "append" | .split => "split" | .partition => "partition" | .rpartition => "rpartition" | .count => "count" | .find => "find" | .rfind => "rfind" | .join => "join"
def lfName : LF → Str
  | .tuple => "tuple" | .len => "len" | .all => "all" | .any => "any" | .sum => "sum" | .join _ => "join"
def tyOk (T : String) : Bool := decide (T = "int") || decide (T = "str") || decide (T = "bool") || decide (T = "tuple") || decide (T = "list")
def lenEs : CEs → Nat
  | .nil => 0
  | .cons _ es => lenEs es + 1
section
variable (T : Tb)
mutual
def okE : CE → Prop
  | .glo x d => T.co x d
  | .bin _ a b => okE a ∧ okE b
  | .neg a => okE a
  | .cmp _ a b => okE a ∧ okE b
  | .chain _ _ a b c => okE a ∧ okE b ∧ okE c
  | .nt a => okE a
  | .and2 a b => okE a ∧ okE b
  | .or2 a b => okE a ∧ okE b
  | .ife c a b => okE c ∧ okE a ∧ okE b
  | .tup es => okEs es
  | .idx a i => okE a ∧ okE i
  | .slc a lo hi => okE a ∧ okO lo ∧ okO hi
  | .call f sp es => T.ca f (lenEs es) sp ∧ okEs es
  | .callk f ks sp es kes => T.ck f (lenEs es) ks sp ∧ okEs es ∧ okEs kes
  | .blt f es => T.fr (bfName f) ∧ okEs es
  | .met o _ es => okE o ∧ okEs es
  | .new l => okL l
  | .ofl f l => (match f with | .join _ => True | f => T.fr (lfName f)) ∧ okL l
  | .isi a t => T.fr "isinstance" ∧ T.fr (Str.ofString t) ∧ okE a
  | .fst ps => okF ps
  | _ => True
def okEs : CEs → Prop
  | .nil => True
  | .cons e es => okE e ∧ okEs es
def okO : CO → Prop
  | .no => True
  | .yes e => okE e
def okF : CFs → Prop
  | .nil => True
  | .lit _ r => okF r
  | .val e r => okE e ∧ okF r
def okL : CL → Prop
  | .dis es => okEs es
  | .comp it tg _ t elt => okI it ∧ okT tg ∧ okO t ∧ okE elt
def okI : CI → Prop
  | .val e => okE e
  | .range1 a => T.fr "range" ∧ okE a
  | .range2 a b => T.fr "range" ∧ okE a ∧ okE b
  | .enum e => T.fr "enumerate" ∧ okE e
def okT : CT → Prop
  | .nm _ => True
  | .tp ts => okTs ts
  | .ix o i => okE o ∧ okE i
def okTs : CTs → Prop
  | .nil => True
  | .cons t ts => okT t ∧ okTs ts
end
mutual
def okS : CS → Prop
  | .expr e => okE T e
  | .ret e => okE T e
  | .asg t e => okT T t ∧ okE T e
  | .par _ _ a b => okE T a ∧ okE T b
  | .par3 _ _ _ a b c => okE T a ∧ okE T b ∧ okE T c
  | .aug _ e => okE T e
  | .ife c a b => okE T c ∧ okB a ∧ okB b
  | .forS t it b => okT T t ∧ okI T it ∧ okB b
  | .whl c b => okE T c ∧ okB b
  | _ => True
def okB : CB → Prop
  | .nil => True
  | .cons s b => okS s ∧ okB b
end
end
abbrev ChE := (Expr → Bool) × (Expr → Bool)
def plainTest : Expr → Bool
  | .UnaryOp .Not _ _ => false
  | .BoolOp .. => false
  | .IfExp .. => false
  | .Compare .. => false
  | _ => true
def pT (c : Expr → Bool) : ChE := (c, fun x => plainTest x && c x)
def boolArg (op : BoolOp) (ys : List Expr) (pos : Pos) : Expr := match ys with
  | [z] => z
  | ys => .BoolOp op ys pos
def storesB (sc : Scope) (t a : Expr) : Bool := match t, a with
  | .Tuple ts _ _, .Tuple vs _ _ => decide (swapK sc ts vs = some none)
  | t, a => !((isTup t || isLst t) && isTup a)
def swapNo (sc : Scope) (t a : Expr) : Bool := match a with
  | .ListComp _ _ _ _ => (match t with
    | .Name y p => !swapB sc y p a
    | _ => true)
  | a => !isComp a
mutual
def ckX : CE → Ev → ChE
  | .var i => fun ev => pT fun x => match x with
    | .Name y _ => decide (ev.N[i]? = some y) && visB ev.sc y && plainName y
    | _ => false
  | .non => fun _ => pT fun x => match x with
    | .Constant .none _ _ => true
    | _ => false
  | .bl b => fun _ => pT fun x => match x with
    | .Constant (.bool k) _ _ => decide (b = k)
    | _ => false
  | .int i => fun _ => pT fun x => match x with
    | .Constant (.int k) _ _ => decide (i = k)
    | _ => false
  | .str s => fun _ => pT fun x => match x with
    | .Constant (.str k) _ _ => decide (s = k)
    | _ => false
  | .glo g _ => fun ev => pT fun x => match x with
    | .Name y _ => decide (g = y) && glB ev.sc y && plainName y
    | _ => false
  | .bin op a b => fun ev => pT fun x => match x with
    | .BinOp l o r _ => decide (op = o) && (ckX a ev).1 l && (ckX b ev).1 r
    | _ => false
  | .neg a => fun ev => pT fun x => match x with
    | .UnaryOp .USub y _ => (ckX a ev).1 y
    | _ => false
  | .cmp op a b => fun ev =>
    let c : Expr → Bool := fun x => match x with
      | .Compare l [o] [r] _ => decide (op = o) && (ckX a ev).1 l && (ckX b ev).1 r && !behindInMarks o r
      | _ => false
    (c, c)
  | .chain op op' a b c => fun ev =>
    let k : Expr → Bool := fun x => match x with
      | .Compare l [o, o'] [r, r'] _ => decide (op = o) && decide (op' = o') && (ckX a ev).1 l && (ckX b ev).1 r && (ckX c ev).1 r' && !lastMarks [o, o'] [r, r']
      | _ => false
    (k, k)
  | .nt a => fun ev => (fun x => match x with
      | .UnaryOp .Not y _ => (ckX a ev).1 y
      | _ => false, fun x => match x with
      | .UnaryOp .Not y _ => (ckX a ev).2 y
      | _ => false)
  | .and2 a b => fun ev => (fun x => match x with
      | .BoolOp .And (y :: z :: ys) pos => (ckX a ev).1 y && (ckX b ev).1 (boolArg .And (z :: ys) pos)
      | _ => false, fun x => match x with
      | .BoolOp .And (y :: z :: ys) pos => (ckX a ev).2 y && (ckX b ev).2 (boolArg .And (z :: ys) pos)
      | _ => false)
  | .or2 a b => fun ev => (fun x => match x with
      | .BoolOp .Or (y :: z :: ys) pos => (ckX a ev).1 y && (ckX b ev).1 (boolArg .Or (z :: ys) pos)
      | _ => false, fun x => match x with
      | .BoolOp .Or (y :: z :: ys) pos => (ckX a ev).2 y && (ckX b ev).2 (boolArg .Or (z :: ys) pos)
      | _ => false)
  | .ife c a b => fun ev => (fun x => match x with
      | .IfExp t y z _ => (ckX c ev).2 t && (ckX a ev).1 y && (ckX b ev).1 z
      | _ => false, fun x => match x with
      | .IfExp t y z _ => (ckX c ev).2 t && (ckX a ev).2 y && (ckX b ev).2 z
      | _ => false)
  | .tup es => fun ev => pT fun x => match x with
    | .Tuple ys _ _ => ckEs es ev ys
    | _ => false
  | .idx a i => fun ev => pT fun x => match x with
    | .Subscript y z _ => !isSlice z && (ckX a ev).1 y && (ckX i ev).1 z
    | _ => false
  | .slc a lo hi => fun ev => pT fun x => match x with
    | .Subscript y (.Slice l h none _) _ => (ckX a ev).1 y && (ckO lo ev).1 l && (ckO hi ev).1 h
    | _ => false
  | .call f _ es => fun ev => pT fun x => match x with
    | .Call (.Name g _) (y :: ys) [] _ => decide (f = g) && glB ev.sc g && plainName g && ckEs es ev (y :: ys)
    | _ => false
  | .callk f ks _ es kes => fun ev => pT fun x => match x with
    | .Call (.Name g _) ys kws _ => decide (f = g) && glB ev.sc g && plainName g && decide (kws.map (·.arg) = ks.map some) && ckEs es ev ys && ckEs kes ev (kws.map (·.value))
    | _ => false
  | .blt f es => fun ev => pT fun x => match x with
    | .Call (.Name g _) (y :: ys) [] _ => decide (bfName f = g) && glB ev.sc g && plainName g && ckEs es ev (y :: ys)
    | _ => false
  | .met o m es => fun ev => pT fun x => match x with
    | .Call (.Attribute y name apos) (z :: zs) [] pos => decide (mfName m = name) && noSuper y && (apos.endLine == pos.line) && decide ((z :: zs).length < 30) && (ckX o ev).1 y && ckEs es ev (z :: zs)
    | _ => false
  | .new l => fun ev => pT fun x => ckL l ev x
  | .ofl f l => fun ev => pT fun x => match f with
    | .join sep => (match x with
      | .Call (.Attribute (.Constant (.str k) _ _) name apos) [z] [] pos => decide (sep = k) && decide (name = "join") && (apos.endLine == pos.line) && !isStar z && ckL l ev z
      | _ => false)
    | f => (match x with
      | .Call (.Name g _) [z] [] _ => decide (lfName f = g) && glB ev.sc g && plainName g && !isStar z && ckL l ev z
      | _ => false)
  | .isi a t => fun ev => pT fun x => match x with
    | .Call (.Name g _) [z, .Name y _] [] _ => decide (g = "isinstance") && glB ev.sc g && tyOk t && decide (y = Str.ofString t) && glB ev.sc y && !isStar z && (ckX a ev).1 z
    | _ => false
  | .fst ps => fun ev => pT fun x => match x with
    | .JoinedStr (y :: z :: ys) _ => ckF ps ev (y :: z :: ys)
    | _ => false
def ckEs : CEs → Ev → List Expr → Bool
  | .nil => fun _ ys => match ys with
    | [] => true
    | _ => false
  | .cons e es => fun ev ys => match ys with
    | y :: ys => !isStar y && (ckX e ev).1 y && ckEs es ev ys
    | _ => false
def ckO : CO → Ev → (Option Expr → Bool) × (List Expr → Bool)
  | .no => fun _ => (fun o => match o with
    | none => true
    | _ => false, fun ys => match ys with
    | [] => true
    | _ => false)
  | .yes e => fun ev => (fun o => match o with
    | some y => (ckX e ev).1 y
    | _ => false, fun ys => match ys with
    | [y] => (ckX e ev).2 y
    | _ => false)
def ckF : CFs → Ev → List Expr → Bool
  | .nil => fun _ ys => match ys with
    | [] => true
    | _ => false
  | .lit s r => fun ev ys => match ys with
    | .Constant (.str k) _ _ :: ys => decide (s = k) && ckF r ev ys
    | _ => false
  | .val e r => fun ev ys => match ys with
    | .FormattedValue y c none _ :: ys => decide (c = -1) && (ckX e ev).1 y && ckF r ev ys
    | _ => false
def ckL : CL → Ev → Expr → Bool
  | .dis es => fun ev x => match x with
    | .List ys _ => ckEs es ev ys
    | _ => false
  | .comp it tg own t elt => fun ev x => match x with
    | .ListComp y [⟨tx, ix, ifs, asy⟩] scope _ =>
      let names := own.filterMap fun i => (ev.N[i]?).map fun n => (n, i)
      let ev' : Ev := ⟨relS scope ev.sc, ev.N, fun n => scope.names.lookup n == some .cell⟩
      decide (asy = 0) && decide (names.map (·.2) = own) && blkC ev.N ev.sc scope names && !isSet ix && ckI it ev tx ix && (ckT tg ev').2 own tx && (ckO t ev').2 ifs && (ckX elt ev').1 y
    | _ => false
def ckI : CI → Ev → Expr → Expr → Bool
  | .val e => fun ev _ x => (ckX e ev).1 x
  | .range1 a => fun ev _ x => match x with
    | .Call (.Name g _) [y] [] _ => decide (g = "range") && glB ev.sc g && !isStar y && (ckX a ev).1 y
    | _ => false
  | .range2 a b => fun ev _ x => match x with
    | .Call (.Name g _) [y, z] [] _ => decide (g = "range") && glB ev.sc g && !isStar y && !isStar z && (ckX a ev).1 y && (ckX b ev).1 z
    | _ => false
  | .enum e => fun ev tx x => match tx with
    | .Tuple _ _ _ => (match x with
      | .Call (.Name g _) [y] [] _ => decide (g = "enumerate") && glB ev.sc g && !isStar y && (ckX e ev).1 y
      | _ => false)
    | _ => false
def ckT : CT → Ev → (Expr → Bool) × (List Nat → Expr → Bool)
  | .nm i => fun ev => (fun x => match x with
    | .Name y _ => decide (ev.N[i]? = some y) && locB ev.sc ev.fn y
    | _ => false, fun vs x => match x with
    | .Name y _ => decide (ev.N[i]? = some y) && locB ev.sc ev.fn y && vs.contains i
    | _ => false)
  | .tp ts => fun ev => (fun x => match x with
    | .Tuple ys _ _ => noStars ys && decide (ys.length = lenT ts) && (ckTs ts ev).1 ys
    | _ => false, fun vs x => match x with
    | .Tuple ys _ _ => noStars ys && decide (ys.length = lenT ts) && (ckTs ts ev).2 vs ys
    | _ => false)
  | .ix o i => fun ev => (fun x => match x with
    | .Subscript y z _ => !isSlice z && (ckX o ev).1 y && (ckX i ev).1 z
    | _ => false, fun _ _ => false)
def ckTs : CTs → Ev → (List Expr → Bool) × (List Nat → List Expr → Bool)
  | .nil => fun _ => (fun ys => match ys with
    | [] => true
    | _ => false, fun _ ys => match ys with
    | [] => true
    | _ => false)
  | .cons t ts => fun ev => (fun ys => match ys with
    | y :: ys => !isStar y && (ckT t ev).1 y && (ckTs ts ev).1 ys
    | _ => false, fun vs ys => match ys with
    | y :: ys => !isStar y && (ckT t ev).2 vs y && (ckTs ts ev).2 vs ys
    | _ => false)
end
mutual
def ckS : CS → Ev → Stmt → Bool
  | .expr e => fun ev st => match st with
    | .Expr y _ => !isComp y && (ckX e ev).1 y
    | _ => false
  | .ret e => fun ev st => match st with
    | .Return (some y) _ => (ckX e ev).1 y
    | _ => false
  | .retN => fun _ st => match st with
    | .Return none _ => true
    | _ => false
  | .asg t e => fun ev st => match st with
    | .Assign [tx] y _ => (storesB ev.sc tx y && swapNo ev.sc tx y && !isStar tx && (ckX e ev).1 y && (ckT t ev).1 tx) || (match t, e, tx with
      | .nm i, .new (.comp it tg own c elt), .Name n p => decide (ev.N[i]? = some n) && decide (ev.sc.names.lookup n = some .local) && swapB ev.sc n p y && ckL (.comp it tg own c elt) ev y
      | _, _, _ => false)
    | _ => false
  | .par i j a b => fun ev st => match st with
    | .Assign [.Tuple [.Name x px, .Name y py] _ _] (.Tuple [u, v] _ _) _ => decide (ev.N[i]? = some x) && decide (ev.N[j]? = some y) && decide (i ≠ j) && decide (ev.sc.names.lookup x = some .local) && decide (ev.sc.names.lookup y = some .local) &&
      decide (swapK ev.sc [.Name x px, .Name y py] [u, v] = some (some [x, y])) && !isStar u && !isStar v && (ckX a ev).1 u && (ckX b ev).1 v
    | _ => false
  | .par3 i j l a b c => fun ev st => match st with
    | .Assign [.Tuple [.Name x px, .Name y py, .Name z pz] _ _] (.Tuple [u, v, w] _ _) _ => decide (ev.N[i]? = some x) && decide (ev.N[j]? = some y) && decide (ev.N[l]? = some z) && decide (i ≠ j) && decide (i ≠ l) && decide (j ≠ l) &&
      decide (ev.sc.names.lookup x = some .local) && decide (ev.sc.names.lookup y = some .local) && decide (ev.sc.names.lookup z = some .local) &&
      decide (swapK ev.sc [.Name x px, .Name y py, .Name z pz] [u, v, w] = some (some [x, y, z])) && !isStar u && !isStar v && !isStar w && (ckX a ev).1 u && (ckX b ev).1 v && (ckX c ev).1 w
    | _ => false
  | .aug i e => fun ev st => match st with
    | .AugAssign (.Name x _) .Add y _ => decide (ev.N[i]? = some x) && locB ev.sc ev.fn x && (ckX e ev).1 y
    | _ => false
  | .ife c a b => fun ev st => match st with
    | .If t l r _ => (ckX c ev).2 t && ckB a ev l && ckB b ev r
    | _ => false
  | .forS t it b => fun ev st => match st with
    | .For tx ix body [] _ => !isSet ix && ckI it ev tx ix && (ckT t ev).1 tx && ckB b ev body
    | _ => false
  | .whl c b => fun ev st => match st with
    | .While t body [] _ => (ckX c ev).2 t && ckB b ev body
    | _ => false
  | .pass => fun _ st => match st with
    | .Pass _ => true
    | _ => false
  | .brk => fun _ st => match st with
    | .Break _ => true
    | _ => false
  | .cont => fun _ st => match st with
    | .Continue _ => true
    | _ => false
  | .raise _ es => fun _ st => match es with
    | .nil => true
    | _ => false
def ckB : CB → Ev → List Stmt → Bool
  | .nil => fun _ ss => match ss with
    | [] => true
    | _ => false
  | .cons s b => fun ev ss => match ss with
    | t :: ss => ckS s ev t && ckB b ev ss
    | _ => false
end
end Mx
namespace Mx
open PySem PySem.Spec PyProof.Rows L2 PySem.SeqAt
abbrev E0 : Sd → Exn → MH → Prop := fun _ _ _ => False
structure LcOk (X : Cx) (x : Expr) (t : MA) : Prop where
  ex : ∃ (elt tg iter : Expr) (ifs : List Expr) (scope : Scope) (own : List (Str × Nat)) (pos : Pos) (ti : MI) (g : MG) (tt : MT) (te : ME), x = .ListComp elt [⟨tg, iter, ifs, 0⟩] scope pos ∧ t = rLc ti g tt te (own.map (·.2)) ∧
    PI X tg iter (liftI X.K ti) ∧ BlkOk X.N X.env.scope scope own ∧ (∀ (s : Shared) (H : Hp) (C : Addr) (cl : List (Str × Addr)) (fp : List Addr), PG (X.blk s H scope (compEnvC scope cl C X.env) fp) tg (liftGw X.K (own.map (·.2)) g)) ∧
    (∀ (s : Shared) (H : Hp) (C : Addr) (cl : List (Str × Addr)) (fp : List Addr), PTs (X.blk s H scope (compEnvC scope cl C X.env) fp) ifs (liftT X.K tt)) ∧
    (∀ (s : Shared) (H : Hp) (C : Addr) (cl : List (Str × Addr)) (fp : List Addr), PE (X.blk s H scope (compEnvC scope cl C X.env) fp) elt (liftE X.K te)) ∧ ∀ x, foldedSetIterable iter X.env x = pure x
section
variable (T : Tb)
def SdX (e : CE) : Prop := okE T e → ∀ ev X, Good T ev X → (∀ x, (ckX e ev).1 x = true → PE X x (liftE X.K (rE E0 e))) ∧ ∀ x, (ckX e ev).2 x = true → PT X x (liftT X.K (rT E0 e))
def SdEs (es : CEs) : Prop := okEs T es → ∀ ev X, Good T ev X → ∀ ys, ckEs es ev ys = true → PA X ys (liftA X.K (lenEs es) (rEs E0 es)) ∧ ∀ kws : List Keyword, kws.map (·.value) = ys → PK X kws (liftA X.K (lenEs es) (rEs E0 es))
def SdO (o : CO) : Prop := okO T o → ∀ ev X, Good T ev X → (∀ x, (ckO o ev).1 x = true → PO X x (liftO X.K (rO E0 o))) ∧ ∀ ys, (ckO o ev).2 ys = true → PTs X ys (liftT X.K (rC E0 o))
def SdF (f : CFs) : Prop := okF T f → ∀ ev X, Good T ev X → ∀ ys, ckF f ev ys = true → ∃ ms ts, Parts X ys ms ts ∧ rF E0 f = rFs ms
def SdL (l : CL) : Prop := okL T l → ∀ ev X, Good T ev X → ∀ x, ckL l ev x = true → PE X x (liftL X.K (rL E0 l)) ∧ (isComp x = true → LcOk X x (rL E0 l))
def SdI (i : CI) : Prop := okI T i → ∀ ev X, Good T ev X → ∀ tx x, ckI i ev tx x = true → PI X tx x (liftI X.K (rWk E0 i))
def SdT (t : CT) : Prop := okT T t → ∀ ev X, Good T ev X → (∀ x, (ckT t ev).1 x = true → PG X x (liftG X.K (rG E0 t))) ∧ ∀ vs x, (ckT t ev).2 vs x = true → PG X x (liftGw X.K vs (rG E0 t))
def SdTs (t : CTs) : Prop := okTs T t → ∀ ev X, Good T ev X → (∀ ys, (ckTs t ev).1 ys = true → PGs X ys (liftGs X.K (rGs E0 t))) ∧ ∀ vs ys, (ckTs t ev).2 vs ys = true → PGs X ys (liftGsw X.K vs (rGs E0 t))
end
section
variable {T : Tb} {ev : Ev} {X : Cx}
theorem Good.gl (g : Good T ev X) {x : Str} (h : glB ev.sc x = true) : Gl X x := by
  show X.env.scope.names.lookup x = _
  rw [g.eS]
  exact of_decide_eq_true h
theorem Good.ix (g : Good T ev X) {i : Nat} {x : Str} (h : ev.N[i]? = some x) : X.N[i]? = some x := by rw [g.eN]; exact h
theorem Good.ndX (g : Good T ev X) : X.N.Nodup := by rw [g.eN]; exact g.nd
theorem Good.vis (g : Good T ev X) {x : Str} (h : visB ev.sc x = true) : Vis X.env.scope x := by rw [g.eS]; exact vis_ok h
theorem Good.loc (g : Good T ev X) {x : Str} (h : locB ev.sc ev.fn x = true) : Loc X.env.scope x ∧ (X.fn x = true ∨ X.env.scope.names.lookup x = some .local) := by rw [g.eS, g.fn]; exact loc_ok h
theorem Good.lcl (g : Good T ev X) {x : Str} (h : ev.sc.names.lookup x = some .local) : X.env.scope.names.lookup x = some .local := by rw [g.eS]; exact h
theorem Good.kind (g : Good T ev X) : X.env.scope.kind = .function := by rw [g.eS]; exact g.fk
theorem Good.block (g : Good T ev X) {scope : Scope} {own : List (Str × Nat)} (ok : BlkOk X.N X.env.scope scope own) (s : Shared) (H : Hp) (C : Addr) (cl : List (Str × Addr)) (fp : List Addr) :
    Good T ⟨relS scope ev.sc, ev.N, fun n => scope.names.lookup n == some .cell⟩ (X.blk s H scope (compEnvC scope cl C X.env) fp) where
  eN := g.eN
  nd := g.nd
  eS := by
    show relS scope X.env.scope = _
    rw [g.eS]
  fk := ok.kind
  fn := fun _ => rfl
  calm := g.calm
  own := PassesOwn.never
  hu := g.hu
  hg := g.hg
  ca := fun f n sp h => ⟨(g.ca f n sp h).ex⟩
  ck := fun f m ks sp h => ⟨(g.ck f m ks sp h).ex⟩
  co := g.co
  fr := g.fr
theorem byT_sd {t : ME} {c : Expr → Bool} (h : ∀ x, c x = true → PE X x (liftE X.K t)) :
    (∀ x, (pT c).1 x = true → PE X x (liftE X.K (byT t).1)) ∧ ∀ x, (pT c).2 x = true → PT X x (liftT X.K (byT t).2) := by
  refine ⟨h, fun x hx => ?_⟩
  have hx' : (plainTest x && c x) = true := hx
  rw [Bool.and_eq_true] at hx'
  refine mt_tru (h x hx'.2) ?_
  have hp := hx'.1
  intro wh
  cases x <;> first | rfl | (cases hp; done) | skip
  rename_i op y p
  cases op <;> first | rfl | cases hp
theorem pe_single {op : BoolOp} {a : Expr} {pos : Pos} {t : TE} (h : PE X a t) : PE X (.BoolOp op [a] pos) t := ⟨fun pins s σ H Q I q => h.run pins s σ H Q I q⟩
theorem pw_bool {op : BoolOp} {vs : List Expr} {pos : Pos} {t : TT} (h : PT X (.BoolOp op vs pos) t) : PW X (.BoolOp op vs pos) t := ⟨fun wh pins s σ H Q I q => h.run pins s σ H Q I q⟩
theorem arg_pe {op : BoolOp} {z : Expr} {ys : List Expr} {pos : Pos} {t : TE} (h : PE X (boolArg op (z :: ys) pos) t) : PE X (.BoolOp op (z :: ys) pos) t := by
  cases ys with
  | nil => exact pe_single h
  | cons y ys => exact h
theorem arg_and {z : Expr} {ys : List Expr} {pos : Pos} {t : TT} (h : PT X (boolArg .And (z :: ys) pos) t) : PW X (.BoolOp .And (z :: ys) pos) t := by
  cases ys with
  | nil => exact pw_and1 h
  | cons y ys => exact pw_bool h
theorem arg_or {z : Expr} {ys : List Expr} {pos : Pos} {t : TT} (h : PT X (boolArg .Or (z :: ys) pos) t) : PW X (.BoolOp .Or (z :: ys) pos) t := by
  cases ys with
  | nil => exact pw_or1 h
  | cons y ys => exact pw_bool h
theorem ckEs_no : ∀ {es : CEs} {ys : List Expr}, ckEs es ev ys = true → noStars ys = true ∧ ys.length = lenEs es
  | .nil, [], _ => ⟨rfl, rfl⟩
  | .nil, _ :: _, h => by cases h
  | .cons e es, [], h => by cases h
  | .cons e es, y :: ys, h => by
    have h' : (!isStar y && (ckX e ev).1 y && ckEs es ev ys) = true := h
    simp only [Bool.and_eq_true] at h'
    obtain ⟨a, b⟩ := ckEs_no h'.2
    refine ⟨?_, ?_⟩
    · show (!isStar y && noStars ys) = true
      rw [h'.1.1, a]
      rfl
    · show ys.length + 1 = lenEs es + 1
      rw [b]
theorem noStars_tl {y : Expr} {ys : List Expr} (h : noStars (y :: ys) = true) : isStar y = false ∧ noStars ys = true := by
  have h' : (!isStar y && noStars ys) = true := h
  rw [Bool.and_eq_true, Bool.not_eq_true'] at h'
  exact h'
theorem boot_lf {f : LF} (nj : ∀ sep, f ≠ .join sep) : bootBuiltins (lfName f) = some (match (generalizing := false) f with | .tuple => .type "tuple" | f => .builtin (usesD f)) := by
  cases f with
  | join sep => exact absurd rfl (nj sep)
  | _ => rfl
theorem boot_ty {t : String} (h : tyOk t = true) : bootBuiltins (Str.ofString t) = some (.type t) ∧ Str.ofString t ≠ "__name__" ∧ (Str.ofString t == ("__debug__" : Str)) = false := by
  unfold tyOk at h
  simp only [Bool.or_eq_true, decide_eq_true_eq] at h
  rcases h with (((rfl | rfl) | rfl) | rfl) | rfl <;> exact ⟨rfl, by decide, by decide⟩
theorem sd_blt {f : BF} {g : Str} {y : Expr} {ys : List Expr} {n : Nat} {t : MA} {p pos : Pos} (gd : Good T ev X) (e : bfName f = g) (hg : Gl X g) (hm : X.mg g = none) (hp : plainName g = true) (ha : PA X (y :: ys) (liftA X.K n t)) (hs : noStars (y :: ys) = true) :
    PE X (.Call (.Name g p) (y :: ys) [] pos) (liftE X.K fun σ M Q => t σ M fun ds M1 => bltD f ds M1 Q) := by
  subst e
  obtain ⟨s1, s2⟩ := noStars_tl hs
  obtain ⟨p1, p2, p3⟩ := plain_ok hp
  cases f with
  | len => exact me_bfn cd_len hg hm rfl ha p3 p1 (star_cons s1) (no_any s2)
  | int => exact me_bty cd_int hg hm rfl ha p3 p1 (star_cons s1) (no_any s2)
  | str => exact me_bty cd_str hg hm rfl ha p3 p1 (star_cons s1) (no_any s2)
  | abs => exact me_bfn cd_abs hg hm rfl ha p3 p1 (star_cons s1) (no_any s2)
  | ord => exact me_bfn cd_ord hg hm rfl ha p3 p1 (star_cons s1) (no_any s2)
  | max => exact me_bfn (cd_max gd.calm) hg hm rfl ha p3 p1 (star_cons s1) (no_any s2)
  | min => exact me_bfn (cd_min gd.calm) hg hm rfl ha p3 p1 (star_cons s1) (no_any s2)
  | divmod => exact me_bfn cd_divmod hg hm rfl ha p3 p1 (star_cons s1) (no_any s2)
  | tuple => exact me_bty cd_tuple hg hm rfl ha p3 p1 (star_cons s1) (no_any s2)
  | list => exact me_bty cd_list hg hm rfl ha p3 p1 (star_cons s1) (no_any s2)
  | repr => exact me_bfn (cd_repr gd.hg gd.hu) hg hm rfl ha p3 p1 (star_cons s1) (no_any s2)
theorem ty_lst {R : List (Addr × HO)} {M : MH} {H : Hp} {d : D} {v : V} (m : RelM X.K R M H) (i : IsD X.K H d v) (h : mtyD .append d M) : tyV X.K "list" v H := by
  cases d <;> first | exact h.elim | skip
  obtain ⟨xs, g⟩ := h
  obtain ⟨zs, hz, r⟩ := lst_of m g
  cases inv_ref i
  exact .inl ⟨rfl, zs, .inl (.inl hz)⟩
theorem ty_txt {f : MF} (hf : f ≠ .append) {R : List (Addr × HO)} {M : MH} {H : Hp} {d : D} {v : V} (m : RelM X.K R M H) (i : IsD X.K H d v) (h : mtyD f d M) : tyV X.K "str" v H := by
  cases f <;> first | exact absurd rfl hf | skip
  all_goals (cases d <;> first | exact h.elim | exact ty_str i)
theorem sd_met {m : MF} {o z : Expr} {zs : List Expr} {n : Nat} {t : MA} {ta : ME} {name : Str} {apos pos : Pos} (e : mfName m = name) (ho : PE X o (liftE X.K ta)) (ha : PA X (z :: zs) (liftA X.K n t)) (hs : noStars (z :: zs) = true) (hl : (z :: zs).length < 30)
    (hb : noSuper o = true) (hline : (apos.endLine == pos.line) = true) :
    PE X (.Call (.Attribute o name apos) (z :: zs) [] pos) (liftE X.K fun σ M Q => ta σ M fun x M1 => mtyD m x M1 ∧ t σ M1 fun ds M2 => metD m x ds M2 Q) := by
  subst e
  obtain ⟨s1, s2⟩ := noStars_tl hs
  cases m with
  | append => exact me_met F.plainAttrs_list F.slot_list_append F.type_list_append md_append ty_lst ho ha (base_ok hb) (few_ok hs hl) hline (star_cons s1) (no_any s2)
  | split => exact me_met F.plainAttrs_str F.slot_str_split F.type_str_split md_split (ty_txt (f := .split) nofun) ho ha (base_ok hb) (few_ok hs hl) hline (star_cons s1) (no_any s2)
  | partition => exact me_met F.plainAttrs_str F.slot_str_partition F.type_str_partition md_partition (ty_txt (f := .partition) nofun) ho ha (base_ok hb) (few_ok hs hl) hline (star_cons s1) (no_any s2)
  | rpartition => exact me_met F.plainAttrs_str F.slot_str_rpartition F.type_str_rpartition md_rpartition (ty_txt (f := .rpartition) nofun) ho ha (base_ok hb) (few_ok hs hl) hline (star_cons s1) (no_any s2)
  | count => exact me_met F.plainAttrs_str F.slot_str_count F.type_str_count md_count (ty_txt (f := .count) nofun) ho ha (base_ok hb) (few_ok hs hl) hline (star_cons s1) (no_any s2)
  | find => exact me_met F.plainAttrs_str F.slot_str_find F.type_str_find md_find (ty_txt (f := .find) nofun) ho ha (base_ok hb) (few_ok hs hl) hline (star_cons s1) (no_any s2)
  | join => exact me_met F.plainAttrs_str F.slot_str_join F.type_str_join md_join (ty_txt (f := .join) nofun) ho ha (base_ok hb) (few_ok hs hl) hline (star_cons s1) (no_any s2)
  | rfind => exact me_met F.plainAttrs_str F.slot_str_rfind F.type_str_rfind md_rfind (ty_txt (f := .rfind) nofun) ho ha (base_ok hb) (few_ok hs hl) hline (star_cons s1) (no_any s2)
end
end Mx
namespace Mx
open PySem PySem.Spec PyProof.Rows L2 PySem.SeqAt
section
variable {T : Tb}
mutual
theorem sdX : ∀ e : CE, SdX T e
  | .var i => fun _ ev X g => byT_sd fun x h => by
    split at h
    · simp only [Bool.and_eq_true, decide_eq_true_eq] at h
      obtain ⟨⟨h1, h2⟩, h3⟩ := h
      obtain ⟨p1, p2, p3⟩ := plain_ok h3
      exact me_var (g.ix h1) (g.vis h2) p1 p2
    · cases h
  | .non => fun _ ev X g => byT_sd fun x h => by
    split at h
    · exact me_non
    · cases h
  | .bl b => fun _ ev X g => byT_sd fun x h => by
    split at h
    · cases of_decide_eq_true h
      exact me_bl
    · cases h
  | .int i => fun _ ev X g => byT_sd fun x h => by
    split at h
    · cases of_decide_eq_true h
      exact me_int
    · cases h
  | .str i => fun _ ev X g => byT_sd fun x h => by
    split at h
    · cases of_decide_eq_true h
      exact me_str
    · cases h
  | .glo f d => fun ok ev X g => byT_sd fun x h => by
    split at h
    · simp only [Bool.and_eq_true, decide_eq_true_eq] at h
      obtain ⟨⟨rfl, h2⟩, h3⟩ := h
      obtain ⟨p1, p2, p3⟩ := plain_ok h3
      exact me_glo (g.gl h2) (g.co _ _ ok) p1
    · cases h
  | .bin op a b => fun ok ev X g => byT_sd fun x h => by
    split at h
    · simp only [Bool.and_eq_true, decide_eq_true_eq] at h
      obtain ⟨⟨rfl, h2⟩, h3⟩ := h
      exact me_op (od_bin _) ((sdX a ok.1 ev X g).1 _ h2) ((sdX b ok.2 ev X g).1 _ h3)
    · cases h
  | .neg a => fun ok ev X g => byT_sd fun x h => by
    split at h
    · exact me_neg ((sdX a ok ev X g).1 _ h)
    · cases h
  | .cmp op a b => fun ok ev X g => by
    refine ⟨fun x h => ?_, fun x h => ?_⟩
    · simp only [ckX] at h
      split at h
      · simp only [Bool.and_eq_true, decide_eq_true_eq, Bool.not_eq_true'] at h
        obtain ⟨⟨⟨rfl, h2⟩, h3⟩, h4⟩ := h
        exact me_cmp g.hu ((sdX a ok.1 ev X g).1 _ h2) ((sdX b ok.2 ev X g).1 _ h3) h4
      · cases h
    · simp only [ckX] at h
      split at h
      · simp only [Bool.and_eq_true, decide_eq_true_eq, Bool.not_eq_true'] at h
        obtain ⟨⟨⟨rfl, h2⟩, h3⟩, h4⟩ := h
        exact mt_cmp g.hu ((sdX a ok.1 ev X g).1 _ h2) ((sdX b ok.2 ev X g).1 _ h3) h4
      · cases h
  | .chain op op' a b c => fun ok ev X g => by
    refine ⟨fun x h => ?_, fun x h => ?_⟩
    · simp only [ckX] at h
      split at h
      · simp only [Bool.and_eq_true, decide_eq_true_eq, Bool.not_eq_true'] at h
        obtain ⟨⟨⟨⟨⟨rfl, rfl⟩, h2⟩, h3⟩, h4⟩, h5⟩ := h
        exact me_chain g.hu ((sdX a ok.1 ev X g).1 _ h2) ((sdX b ok.2.1 ev X g).1 _ h3) ((sdX c ok.2.2 ev X g).1 _ h4) h5
      · cases h
    · simp only [ckX] at h
      split at h
      · simp only [Bool.and_eq_true, decide_eq_true_eq, Bool.not_eq_true'] at h
        obtain ⟨⟨⟨⟨⟨rfl, rfl⟩, h2⟩, h3⟩, h4⟩, h5⟩ := h
        refine (mt_chain g.hu ((sdX a ok.1 ev X g).1 _ h2) ((sdX b ok.2.1 ev X g).1 _ h3) ((sdX c ok.2.2 ev X g).1 _ h4) h5).of fun σ H Q ⟨R, σd, M, Qd, rel, q, u⟩ => ⟨R, σd, M, Qd, rel, ?_, u⟩
        have q' : rE E0 a σd M fun x M1 => rE E0 b σd M1 fun y M2 => cmpD _ x y M2 fun k => if k = true then rE E0 c σd M2 fun z M3 => cmpD _ y z M3 fun k' => truD (.bl k') M3 fun k => Qd k M3 else truD (.bl false) M2 fun k => Qd k M2 := q
        exact q'
      · cases h
  | .nt a => fun ok ev X g => by
    refine ⟨fun x h => ?_, fun x h => ?_⟩
    · simp only [ckX] at h
      split at h
      · exact me_nt ((sdX a ok ev X g).1 _ h)
      · cases h
    · simp only [ckX] at h
      split at h
      · exact mt_nt ((sdX a ok ev X g).2 _ h)
      · cases h
  | .and2 a b => fun ok ev X g => by
    refine ⟨fun x h => ?_, fun x h => ?_⟩
    · simp only [ckX] at h
      split at h
      · simp only [Bool.and_eq_true] at h
        exact me_and ((sdX a ok.1 ev X g).1 _ h.1) (arg_pe ((sdX b ok.2 ev X g).1 _ h.2))
      · cases h
    · simp only [ckX] at h
      split at h
      · simp only [Bool.and_eq_true] at h
        exact (mw_and ((sdX a ok.1 ev X g).2 _ h.1) (arg_and ((sdX b ok.2 ev X g).2 _ h.2))).pt
      · cases h
  | .or2 a b => fun ok ev X g => by
    refine ⟨fun x h => ?_, fun x h => ?_⟩
    · simp only [ckX] at h
      split at h
      · simp only [Bool.and_eq_true] at h
        exact me_or ((sdX a ok.1 ev X g).1 _ h.1) (arg_pe ((sdX b ok.2 ev X g).1 _ h.2))
      · cases h
    · simp only [ckX] at h
      split at h
      · simp only [Bool.and_eq_true] at h
        exact (mw_or ((sdX a ok.1 ev X g).2 _ h.1) (arg_or ((sdX b ok.2 ev X g).2 _ h.2))).pt
      · cases h
  | .ife c a b => fun ok ev X g => by
    refine ⟨fun x h => ?_, fun x h => ?_⟩
    · simp only [ckX] at h
      split at h
      · simp only [Bool.and_eq_true] at h
        exact me_ife ((sdX c ok.1 ev X g).2 _ h.1.1) ((sdX a ok.2.1 ev X g).1 _ h.1.2) ((sdX b ok.2.2 ev X g).1 _ h.2)
      · cases h
    · simp only [ckX] at h
      split at h
      · simp only [Bool.and_eq_true] at h
        exact mt_ife ((sdX c ok.1 ev X g).2 _ h.1.1) ((sdX a ok.2.1 ev X g).2 _ h.1.2) ((sdX b ok.2.2 ev X g).2 _ h.2)
      · cases h
  | .tup es => fun ok ev X g => byT_sd fun x h => by
    split at h
    · exact me_tup (sdEs es ok ev X g _ h).1
    · cases h
  | .idx a i => fun ok ev X g => byT_sd fun x h => by
    split at h
    · simp only [Bool.and_eq_true, Bool.not_eq_true'] at h
      exact me_idx ((sdX a ok.1 ev X g).1 _ h.1.2) ((sdX i ok.2 ev X g).1 _ h.2) (plainIx_of h.1.1)
    · cases h
  | .slc a lo hi => fun ok ev X g => byT_sd fun x h => by
    split at h
    · simp only [Bool.and_eq_true] at h
      exact me_slc ((sdX a ok.1 ev X g).1 _ h.1.1) ((sdO lo ok.2.1 ev X g).1 _ h.1.2) ((sdO hi ok.2.2 ev X g).1 _ h.2)
    · cases h
  | .call f sp es => fun ok ev X g => byT_sd fun x h => by
    split at h
    · simp only [Bool.and_eq_true, decide_eq_true_eq] at h
      obtain ⟨⟨⟨rfl, h2⟩, h3⟩, h4⟩ := h
      obtain ⟨n1, n2⟩ := ckEs_no h4
      obtain ⟨s1, s2⟩ := noStars_tl n1
      obtain ⟨p1, p2, p3⟩ := plain_ok h3
      exact me_call g.hg (g.ca _ _ _ ok.1) (g.gl h2) (sdEs es ok.2 ev X g _ h4).1 p1 (star_cons s1) (no_any s2)
    · cases h
  | .callk f ks sp es kes => fun ok ev X g => byT_sd fun x h => by
    split at h
    · simp only [Bool.and_eq_true, decide_eq_true_eq] at h
      obtain ⟨⟨⟨⟨⟨rfl, h2⟩, h3⟩, h4⟩, h5⟩, h6⟩ := h
      obtain ⟨p1, p2, p3⟩ := plain_ok h3
      have hk := (sdEs kes ok.2.2 ev X g _ h6).2 _ rfl
      have el : lenEs kes = ks.length := by
        have a := (ckEs_no h6).2
        have b := congrArg List.length h4
        rw [List.length_map] at a
        rw [List.length_map, List.length_map] at b
        rw [← a, b]
      rw [el] at hk
      have C := g.ck _ _ _ _ ok.1
      have ha := (sdEs es ok.2.1 ev X g _ h5).1
      obtain ⟨n1, n2⟩ := ckEs_no h5
      cases es with
      | nil =>
        rename_i ys kws pos
        cases ys with
        | nil => exact me_callk0 g.hg C (g.gl h2) hk h4 p1
        | cons a b => cases h5
      | cons e r =>
        rename_i ys kws pos
        cases ys with
        | nil => cases h5
        | cons a b => exact me_callk g.hg C (g.gl h2) ha hk h4 p1 (star_cons (noStars_tl n1).1) (no_any n1)
    · cases h
  | .blt f es => fun ok ev X g => byT_sd fun x h => by
    split at h
    · simp only [Bool.and_eq_true, decide_eq_true_eq] at h
      obtain ⟨⟨⟨h1, h2⟩, h3⟩, h4⟩ := h
      exact sd_blt g h1 (g.gl h2) (h1 ▸ g.fr _ ok.1) h3 (sdEs es ok.2 ev X g _ h4).1 (ckEs_no h4).1
    · cases h
  | .met o m es => fun ok ev X g => byT_sd fun x h => by
    split at h
    · simp only [Bool.and_eq_true, decide_eq_true_eq] at h
      obtain ⟨⟨⟨⟨⟨h1, h2⟩, h3⟩, h4⟩, h5⟩, h6⟩ := h
      exact sd_met h1 ((sdX o ok.1 ev X g).1 _ h5) (sdEs es ok.2 ev X g _ h6).1 (ckEs_no h6).1 h4 h2 h3
    · cases h
  | .new l => fun ok ev X g => byT_sd fun x h => me_new (sdL l ok ev X g _ h).1
  | .ofl f l => fun ok ev X g => byT_sd fun x h => by
    have nj : (∀ sep, f ≠ .join sep) → (match (generalizing := false) x with
      | .Call (.Name g _) [z] [] _ => decide (lfName f = g) && glB ev.sc g && plainName g && !isStar z && ckL l ev z
      | _ => false) = true → T.fr (lfName f) → PE X x (liftE X.K fun σ M Q => rL E0 l σ M fun ds M1 => oflD f ds M1 Q) := fun nj h fr => by
      split at h
      · simp only [Bool.and_eq_true, decide_eq_true_eq, Bool.not_eq_true'] at h
        obtain ⟨⟨⟨⟨rfl, h2⟩, h3⟩, h4⟩, h5⟩ := h
        obtain ⟨p1, p2, p3⟩ := plain_ok h3
        exact me_use g.calm (sdL l ok.2 ev X g _ h5).1 (g.gl h2) (g.fr _ fr) (boot_lf nj) nj p3 p1 (star_one h4)
      · cases h
    cases f with
    | join sep =>
      simp only at h
      split at h
      · simp only [Bool.and_eq_true, decide_eq_true_eq, Bool.not_eq_true'] at h
        obtain ⟨⟨⟨⟨rfl, rfl⟩, h3⟩, h4⟩, h5⟩ := h
        exact me_join g.calm (sdL l ok.2 ev X g _ h5).1 (star_one h4) h3
      · cases h
    | tuple => exact nj nofun h ok.1
    | len => exact nj nofun h ok.1
    | all => exact nj nofun h ok.1
    | any => exact nj nofun h ok.1
    | sum => exact nj nofun h ok.1
  | .isi a t => fun ok ev X g => byT_sd fun x h => by
    split at h
    · simp only [Bool.and_eq_true, decide_eq_true_eq, Bool.not_eq_true'] at h
      obtain ⟨⟨⟨⟨⟨⟨rfl, h2⟩, h3⟩, rfl⟩, h5⟩, h6⟩, h7⟩ := h
      obtain ⟨b1, b2, b3⟩ := boot_ty h3
      exact me_isi ((sdX a ok.2.2 ev X g).1 _ h7) (g.gl h2) (g.fr _ ok.1) (g.gl h5) (g.fr _ ok.2.1) b1 b2 b3 (star_cons h6)
    · cases h
  | .fst ps => fun ok ev X g => byT_sd fun x h => by
    split at h
    · obtain ⟨ms, ts, p, e⟩ := sdF ps ok ev X g _ h
      rw [e]
      exact me_fst p
    · cases h
theorem sdEs : ∀ es : CEs, SdEs T es
  | .nil => fun ok ev X g ys h => by
    simp only [ckEs] at h
    split at h
    · refine ⟨ma_nil, fun kws e => ?_⟩
      cases kws with
      | nil => exact mk_nil
      | cons a b => cases e
    · cases h
  | .cons e es => fun ok ev X g ys h => by
    simp only [ckEs] at h
    split at h
    · simp only [Bool.and_eq_true, Bool.not_eq_true'] at h
      have h1 := (sdX e ok.1 ev X g).1 _ h.1.2
      have h2 := sdEs es ok.2 ev X g _ h.2
      refine ⟨ma_cons h1 h2.1 (star_cons h.1.1), fun kws e => ?_⟩
      cases kws with
      | nil => cases e
      | cons a b =>
        obtain ⟨nm, v, p⟩ := a
        injection (show v :: b.map (·.value) = _ from e) with e1 e2
        subst e1
        exact mk_cons h1 (h2.2 b e2)
    · cases h
theorem sdO : ∀ o : CO, SdO T o
  | .no => fun ok ev X g => by
    refine ⟨fun x h => ?_, fun x h => ?_⟩
    · simp only [ckO] at h
      split at h
      · exact mo_no
      · cases h
    · simp only [ckO] at h
      split at h
      · exact mpt_nil
      · cases h
  | .yes e => fun ok ev X g => by
    refine ⟨fun x h => ?_, fun x h => ?_⟩
    · simp only [ckO] at h
      split at h
      · exact mo_yes ((sdX e ok ev X g).1 _ h)
      · cases h
    · simp only [ckO] at h
      split at h
      · exact pts_one ((sdX e ok ev X g).2 _ h)
      · cases h
theorem sdF : ∀ f : CFs, SdF T f
  | .nil => fun ok ev X g ys h => by
    simp only [ckF] at h
    split at h
    · exact ⟨[], [], .nil, rfl⟩
    · cases h
  | .lit s r => fun ok ev X g ys h => by
    simp only [ckF] at h
    split at h
    · simp only [Bool.and_eq_true, decide_eq_true_eq] at h
      obtain ⟨rfl, h2⟩ := h
      obtain ⟨ms, ts, p, e⟩ := sdF r ok ev X g _ h2
      refine ⟨_, _, .cons .lit p, ?_⟩
      funext acc σ M Q
      show (_ ∧ rF E0 r _ σ M Q) = (_ ∧ rFs ms _ σ M Q)
      rw [e]
    · cases h
  | .val e r => fun ok ev X g ys h => by
    simp only [ckF] at h
    split at h
    · simp only [Bool.and_eq_true, decide_eq_true_eq] at h
      obtain ⟨⟨rfl, h2⟩, h3⟩ := h
      obtain ⟨ms, ts, p, e1⟩ := sdF r ok.2 ev X g _ h3
      refine ⟨_, _, .cons (.val ((sdX e ok.1 ev X g).1 _ h2)) p, ?_⟩
      funext acc σ M Q
      show rE E0 e σ M _ = rE E0 e σ M _
      rw [e1]
    · cases h
theorem sdL : ∀ l : CL, SdL T l
  | .dis es => fun ok ev X g x h => by
    simp only [ckL] at h
    split at h
    · exact ⟨ml_dis (sdEs es ok ev X g _ h).1, nofun⟩
    · cases h
  | .comp it tg own t elt => fun ok ev X g x h => by
    simp only [ckL] at h
    split at h
    · simp only [Bool.and_eq_true, decide_eq_true_eq, Bool.not_eq_true'] at h
      obtain ⟨⟨⟨⟨⟨⟨⟨rfl, h2⟩, h3⟩, h4⟩, h5⟩, h6⟩, h7⟩, h8⟩ := h
      have bo := blkOk_by h3
      rw [← g.eN, ← g.eS] at bo
      have hi := sdI it ok.1 ev X g _ _ h5
      have hg := fun s H C cl fp => (sdT tg ok.2.1 _ _ (g.block bo s H C cl fp)).2 _ _ h6
      have ht := fun s H C cl fp => (sdO t ok.2.2.1 _ _ (g.block bo s H C cl fp)).2 _ h7
      have he := fun s H C cl fp => (sdX elt ok.2.2.2 _ _ (g.block bo s H C cl fp)).1 _ h8
      rename_i y0 tx0 ix0 ifs0 scope0 pos0
      have L : LcOk X (.ListComp y0 [⟨tx0, ix0, ifs0, 0⟩] scope0 pos0) (rL E0 (.comp it tg own t elt)) := ⟨_, _, _, _, _, _, pos0, rWk E0 it, rG E0 tg, rC E0 t, rE E0 elt, rfl, by rw [g.eN, h2]; rfl, hi, bo, fun s H C cl fp => by rw [g.eN, h2]; exact hg s H C cl fp, ht, he, notSet_ok h4⟩
      refine ⟨?_, fun _ => L⟩
      obtain ⟨elt', tg', iter', ifs', scope', own', pos', ti, gg, tt, te, e1, e2, a, b, c, d, f, i⟩ := L.ex
      rw [e1, e2]
      exact ml_lc g.calm g.ndX a b c d f i
    · cases h
theorem sdI : ∀ i : CI, SdI T i
  | .val e => fun ok ev X g tx x h => mi_val ((sdX e ok ev X g).1 _ h)
  | .range1 a => fun ok ev X g tx x h => by
    simp only [ckI] at h
    split at h
    · simp only [Bool.and_eq_true, decide_eq_true_eq, Bool.not_eq_true'] at h
      obtain ⟨⟨⟨rfl, h2⟩, h3⟩, h4⟩ := h
      exact mi_range1 (g.gl h2) (g.fr _ ok.1) ((sdX a ok.2 ev X g).1 _ h4) (star_one h3)
    · cases h
  | .range2 a b => fun ok ev X g tx x h => by
    simp only [ckI] at h
    split at h
    · simp only [Bool.and_eq_true, decide_eq_true_eq, Bool.not_eq_true'] at h
      obtain ⟨⟨⟨⟨⟨rfl, h2⟩, h3⟩, h4⟩, h5⟩, h6⟩ := h
      exact mi_range2 (g.gl h2) (g.fr _ ok.1) ((sdX a ok.2.1 ev X g).1 _ h5) ((sdX b ok.2.2 ev X g).1 _ h6) (by rw [star_cons h3, star_one h4]) (star_one h4)
    · cases h
  | .enum e => fun ok ev X g tx x h => by
    simp only [ckI] at h
    split at h
    · split at h
      · simp only [Bool.and_eq_true, decide_eq_true_eq, Bool.not_eq_true'] at h
        obtain ⟨⟨⟨rfl, h2⟩, h3⟩, h4⟩ := h
        exact mi_enum (g.gl h2) (g.fr _ ok.1) ((sdX e ok.2 ev X g).1 _ h4) (star_one h3)
      · cases h
    · cases h
theorem sdT : ∀ t : CT, SdT T t
  | .nm i => fun ok ev X g => by
    refine ⟨fun x h => ?_, fun vs x h => ?_⟩
    · simp only [ckT] at h
      split at h
      · simp only [Bool.and_eq_true, decide_eq_true_eq] at h
        exact mg_nm g.ndX (g.ix h.1) (g.loc h.2).1 (g.loc h.2).2
      · cases h
    · simp only [ckT] at h
      split at h
      · simp only [Bool.and_eq_true, decide_eq_true_eq] at h
        exact mgw_nm (by simpa using h.2) g.ndX (g.ix h.1.1) (g.loc h.1.2).1 (g.loc h.1.2).2
      · cases h
  | .tp ts => fun ok ev X g => by
    refine ⟨fun x h => ?_, fun vs x h => ?_⟩
    · simp only [ckT] at h
      split at h
      · simp only [Bool.and_eq_true, decide_eq_true_eq] at h
        exact mg_tp g.calm ((sdTs ts ok ev X g).1 _ h.2) (asg_len.trans h.1.2) (asg_plain h.1.1)
      · cases h
    · simp only [ckT] at h
      split at h
      · simp only [Bool.and_eq_true, decide_eq_true_eq] at h
        exact mgw_tp g.calm ((sdTs ts ok ev X g).2 _ _ h.2) (asg_len.trans h.1.2) (asg_plain h.1.1)
      · cases h
  | .ix o i => fun ok ev X g => by
    refine ⟨fun x h => ?_, fun vs x h => ?_⟩
    · simp only [ckT] at h
      split at h
      · simp only [Bool.and_eq_true, Bool.not_eq_true'] at h
        refine mg_ix ((sdX o ok.1 ev X g).1 _ h.1.2) ((sdX i ok.2 ev X g).1 _ h.2) fun v => ?_
        rename_i y z p
        have hz := h.1.1
        cases z <;> first | rfl | cases hz
      · cases h
    · simp only [ckT] at h
      cases h
theorem sdTs : ∀ ts : CTs, SdTs T ts
  | .nil => fun ok ev X g => by
    refine ⟨fun x h => ?_, fun vs x h => ?_⟩
    · simp only [ckTs] at h
      split at h
      · exact mgs_nil
      · cases h
    · simp only [ckTs] at h
      split at h
      · exact mgsw_nil
      · cases h
  | .cons t ts => fun ok ev X g => by
    refine ⟨fun x h => ?_, fun vs x h => ?_⟩
    · simp only [ckTs] at h
      split at h
      · simp only [Bool.and_eq_true, Bool.not_eq_true'] at h
        exact mgs_cons ((sdT t ok.1 ev X g).1 _ h.1.2) ((sdTs ts ok.2 ev X g).1 _ h.2) (asg_map h.1.1)
      · cases h
    · simp only [ckTs] at h
      split at h
      · simp only [Bool.and_eq_true, Bool.not_eq_true'] at h
        exact mgsw_cons ((sdT t ok.1 ev X g).2 _ _ h.1.2) ((sdTs ts ok.2 ev X g).2 _ _ h.2) (asg_map h.1.1)
      · cases h
end
end
end Mx
namespace Mx
open PySem PySem.Spec PyProof.Rows L2 PySem.SeqAt
section
variable {X : Cx} {a b c : Expr} {ta tb' tc : ME} {pos : Pos}
theorem ms_par3 {i j l : Nat} {x y z : Str} {px py pz pt : Pos} {kt k2 pt2} (hc : X.calm = true) (hN : X.N.Nodup) (hi : X.N[i]? = some x) (hj : X.N[j]? = some y) (hl : X.N[l]? = some z) (hij : i ≠ j) (hil : i ≠ l) (hjl : j ≠ l)
    (hx : X.env.scope.names.lookup x = some .local) (hy : X.env.scope.names.lookup y = some .local) (hz : X.env.scope.names.lookup z = some .local)
    (ha : PA X [a, b, c] (liftA X.K 3 fun σ M Q => ta σ M fun d M1 => tb' σ M1 fun e M2 => tc σ M2 fun f M3 => Q [d, e, f] M3))
    (hw : swappedStores [.Tuple [.Name x px, .Name y py, .Name z pz] kt pt] (.Tuple [a, b, c] k2 pt2) X.env = pure (some [x, y, z]))
    (hs : swapsWithSole [.Tuple [.Name x px, .Name y py, .Name z pz] kt pt] (.Tuple [a, b, c] k2 pt2) pos.line X.env = pure false) :
    PS X (.Assign [.Tuple [.Name x px, .Name y py, .Name z pz] kt pt] (.Tuple [a, b, c] k2 pt2) pos) (liftS X.K fun k σ M => ta σ M fun d M1 => tb' σ M1 fun e M2 => tc σ M2 fun f M3 => k.nx (((σ.set i (some d)).set j (some e)).set l (some f)) M3) := by
  refine (ps_par3 hc hN hi hj hl hij hil hjl hx hy hz ha hw hs).of fun Dn σ H ⟨R, σd, M, k, rel, q, up⟩ => ?_
  refine ⟨R, σd, M, fun ds M' => ∃ d e f, ds = [d, e, f] ∧ k.nx (((σd.set i (some d)).set j (some e)).set l (some f)) M', rel, ?_, fun ds M1 vs H1 _ ⟨d, e, f, e1, q1⟩ k1 m1 i1 => ?_⟩
  · have e : ∀ d e, (fun f M3 => k.nx (((σd.set i (some d)).set j (some e)).set l (some f)) M3) = fun f M3 => ∃ d' e' f', [d, e, f] = [d', e', f'] ∧ k.nx (((σd.set i (some d')).set j (some e')).set l (some f')) M3 := by
      intro d e
      funext f M3
      exact propext ⟨fun h => ⟨d, e, f, rfl, h⟩, fun ⟨d', e', f', h1, h2⟩ => by cases h1; exact h2⟩
    have q' : ta σd M (fun d M1 => tb' σd M1 fun e M2 => tc σd M2 fun f M3 => k.nx (((σd.set i (some d)).set j (some e)).set l (some f)) M3) := q
    simp only [e] at q'
    exact q'
  · subst e1
    obtain ⟨v, ys, rfl, j1, t⟩ := i1.inv
    obtain ⟨v', w', rfl, j2, j3⟩ := t.inv2
    exact ⟨v, v', w', rfl, up.nx _ M1 _ H1 q1 k1 ⟨((((rel.s.keep k1).set j1).set j2).set j3), m1⟩⟩
end
section
variable {T : Tb} {ev : Ev} {X : Cx}
theorem stores_ok {t a : Expr} (g : Good T ev X) (h : storesB ev.sc t a = true) : swappedStores [t] a X.env = pure none := by
  unfold storesB at h
  split at h
  · refine swapK_ok g.kind ?_
    rw [g.eS]
    exact of_decide_eq_true h
  · rename_i hn
    refine stores_plain ?_
    rw [Bool.not_eq_true'] at h
    exact h
theorem swapNo_ok {t a : Expr} {l : Nat} (g : Good T ev X) (h : swapNo ev.sc t a = true) : swapsWithSole [t] a l X.env = pure false := by
  show swapsWith a (some t) l X.env = pure false
  unfold swapNo at h
  split at h
  · split at h
    · rw [swap_comp g.kind, g.eS]
      rw [Bool.not_eq_true'] at h
      rw [h]
    · rename_i hn
      exact swapsWith_other fun y p e => hn y p e
  · rename_i hn
    refine noswap ?_
    rw [Bool.not_eq_true'] at h
    exact h
variable (T)
def SdS (s : CS) : Prop := okS T s → ∀ ev X, Good T ev X → ∀ st, ckS s ev st = true → PS X st (liftS X.K (rS E0 s))
def SdB (b : CB) : Prop := okB T b → ∀ ev X, Good T ev X → ∀ ss, ckB b ev ss = true → PSs X ss (liftS X.K (rB E0 b))
end
section
variable {T : Tb}
mutual
theorem sdS : ∀ s : CS, SdS T s
  | .expr e => fun ok ev X g st h => by
    simp only [ckS] at h
    split at h
    · simp only [Bool.and_eq_true, Bool.not_eq_true'] at h
      exact ms_expr ((sdX e ok ev X g).1 _ h.2) (noswap h.1)
    · cases h
  | .ret e => fun ok ev X g st h => by
    simp only [ckS] at h
    split at h
    · exact ms_ret ((sdX e ok ev X g).1 _ h)
    · cases h
  | .retN => fun ok ev X g st h => by
    simp only [ckS] at h
    split at h
    · exact ms_retN
    · cases h
  | .asg t e => fun ok ev X g st h => by
    simp only [ckS] at h
    split at h
    · rw [Bool.or_eq_true] at h
      rcases h with h | h
      · simp only [Bool.and_eq_true, Bool.not_eq_true'] at h
        obtain ⟨⟨⟨⟨h1, h2⟩, h3⟩, h4⟩, h5⟩ := h
        exact ms_asg ((sdX e ok.2 ev X g).1 _ h4) ((sdT t ok.1 ev X g).1 _ h5) (swapNo_ok g h2) (stores_ok g h1) (asg_one h3)
      · split at h
        · simp only [Bool.and_eq_true, decide_eq_true_eq] at h
          obtain ⟨⟨⟨h1, h2⟩, h3⟩, h4⟩ := h
          have L := ((sdL _ ok.2 ev X g _ h4).2 (swapB_comp h3)).ex
          obtain ⟨elt', tg', iter', ifs', scope', own', pos', ti, gg, tt, te, e1, e2, a, b, c, d, f, i⟩ := L
          subst e1
          have q := fun (py spos : Pos) hsw => ms_setLc (py := py) (spos := spos) (pos := pos') g.calm g.ndX (g.ix h1) (g.lcl h2) hsw a b c d f i
          rw [← e2] at q
          exact q _ _ (by rw [swap_comp g.kind, g.eS, h3])
        · cases h
    · cases h
  | .par i j a b => fun ok ev X g st h => by
    simp only [ckS] at h
    split at h
    · simp only [Bool.and_eq_true, decide_eq_true_eq, Bool.not_eq_true'] at h
      obtain ⟨⟨⟨⟨⟨⟨⟨⟨⟨h1, h2⟩, h3⟩, h4⟩, h5⟩, h6⟩, h7⟩, h8⟩, h9⟩, h10⟩ := h
      exact ms_par g.calm g.ndX (g.ix h1) (g.ix h2) h3 (g.lcl h4) (g.lcl h5) (ma_cons ((sdX a ok.1 ev X g).1 _ h9) (ma_one ((sdX b ok.2 ev X g).1 _ h10) (star_one h8)) (star_cons h7)) (swapK_ok g.kind (by rw [g.eS]; exact h6)) rfl
    · cases h
  | .par3 i j l a b c => fun ok ev X g st h => by
    simp only [ckS] at h
    split at h
    · simp only [Bool.and_eq_true, decide_eq_true_eq, Bool.not_eq_true'] at h
      obtain ⟨⟨⟨⟨⟨⟨⟨⟨⟨⟨⟨⟨⟨⟨⟨h1, h2⟩, h3⟩, h4⟩, h5⟩, h6⟩, h7⟩, h8⟩, h9⟩, h10⟩, h11⟩, h12⟩, h13⟩, h14⟩, h15⟩, h16⟩ := h
      exact ms_par3 g.calm g.ndX (g.ix h1) (g.ix h2) (g.ix h3) h4 h5 h6 (g.lcl h7) (g.lcl h8) (g.lcl h9)
        (ma_cons ((sdX a ok.1 ev X g).1 _ h14) (ma_cons ((sdX b ok.2.1 ev X g).1 _ h15) (ma_one ((sdX c ok.2.2 ev X g).1 _ h16) (star_one h13)) (star_cons h12)) (star_cons h11)) (swapK_ok g.kind (by rw [g.eS]; exact h10)) rfl
    · cases h
  | .aug i e => fun ok ev X g st h => by
    simp only [ckS] at h
    split at h
    · simp only [Bool.and_eq_true, decide_eq_true_eq] at h
      exact ms_aug g.ndX (g.ix h.1.1) (g.loc h.1.2).1 (g.loc h.1.2).2 ((sdX e ok ev X g).1 _ h.2)
    · cases h
  | .ife c a b => fun ok ev X g st h => by
    simp only [ckS] at h
    split at h
    · simp only [Bool.and_eq_true] at h
      exact ms_ife ((sdX c ok.1 ev X g).2 _ h.1.1) (sdB a ok.2.1 ev X g _ h.1.2) (sdB b ok.2.2 ev X g _ h.2)
    · cases h
  | .forS t it b => fun ok ev X g st h => by
    simp only [ckS] at h
    split at h
    · simp only [Bool.and_eq_true, Bool.not_eq_true'] at h
      exact ms_for g.own g.calm (sdI it ok.2.1 ev X g _ _ h.1.1.2) ((sdT t ok.1 ev X g).1 _ h.1.2) (sdB b ok.2.2 ev X g _ h.2) (notSet_ok h.1.1.1)
    · cases h
  | .whl c b => fun ok ev X g st h => by
    simp only [ckS] at h
    split at h
    · simp only [Bool.and_eq_true] at h
      exact ms_whl g.own ((sdX c ok.1 ev X g).2 _ h.1) (sdB b ok.2 ev X g _ h.2)
    · cases h
  | .pass => fun ok ev X g st h => by
    simp only [ckS] at h
    split at h
    · exact ms_pass
    · cases h
  | .brk => fun ok ev X g st h => by
    simp only [ckS] at h
    split at h
    · exact ms_brk
    · cases h
  | .cont => fun ok ev X g st h => by
    simp only [ckS] at h
    split at h
    · exact ms_cont
    · cases h
  | .raise C es => fun ok ev X g st h => by
    simp only [ckS] at h
    split at h
    · exact ms_never
    · cases h
theorem sdB : ∀ b : CB, SdB T b
  | .nil => fun ok ev X g ss h => by
    simp only [ckB] at h
    split at h
    · exact mss_nil
    · cases h
  | .cons s b => fun ok ev X g ss h => by
    simp only [ckB] at h
    split at h
    · simp only [Bool.and_eq_true] at h
      exact mss_cons (t := rS E0 s) (u := rB E0 b) (sdS s ok.1 ev X g _ h.1) (sdB b ok.2 ev X g _ h.2)
    · cases h
end
def endK (Q : KE) : MK := ⟨fun _ M' => dropQ Q .non M', dropQ Q, fun _ _ => False, fun _ _ => False⟩
theorem fng_core {P : Program} {w : World} {K : PySem.W.Frag} {mg : Str → Option Value} {k : Nat} {f : Str} {fa : Addr} {params : Arguments} {body : List Stmt} {scope : Scope} {dvs : List V} {kws : List (Str × V)} {fd : FuncData} {N ps : List Str} {sp : FSp} (c : CB)
    (F : FunD K f f params body scope dvs kws fa fd) (S : C8.scC N ps scope = true) (chk : ckB c ⟨scope, N, fun _ => true⟩ body = true) (ok : okB (tb P w K mg k) c)
    (law : ∀ ds M Q, ds.length = ps.length → sp ds M Q (fun _ _ => False) → rB E0 c (endK Q) (startD N.length ds) M) : ∀ base : Heap, K.In base → base.Ns mainGlobals mg → FnG P w K mg base (k + 1) fa fd ps (liftSp K ps.length sp) :=
  fun base h1 h2 => fng_of F (C8.fnScope_by S) h1 h2 (fun X g _ => sdB c ok _ X g _ chk) law
theorem kw_of {P : Program} {w : World} {K : PySem.W.Frag} {mg : Str → Option Value} {k : Nat} {f : Str} {fa : Addr} {params : Arguments} {body : List Stmt} {scope : Scope} {kws : List (Str × V)} {fd : FuncData} {ps : List Str} {sp : FSp}
    (F : FunD K f f params body scope [] kws fa fd) (hm : mg f = some (.ref fa)) (G : ∀ base : Heap, K.In base → base.Ns mainGlobals mg → FnG P w K mg base k fa fd ps (liftSp K ps.length sp))
    (h : ∀ (kV doc pm : Value) (an : Option Addr) (cdv ct : Value) (ws : List Value), ws.length = ps.length → bindArgs (PySem.W.fnOf f f params body scope .none kV doc pm an cdv ct) ⟨[], ps.zip ws⟩ = pure (ps.zip ws)) : KwG P w K mg k f 0 ps sp := by
  obtain ⟨oc, od, dV, kV, doc, pm, an, cdv, ct, osl, rfl, lk, hcd, hD, hK⟩ := F.ex
  rcases hD with ⟨_, rfl⟩ | ⟨e, _⟩
  · refine ⟨fa, _, ps, sp, fun _ ws => ws, fun _ zs => zs, fun _ es => es, G, hm, F.kp, ⟨fun s us ws _ l1 l2 => ?_, fun _ r => r⟩, fun H ds vs es zs _ i => i, fun ds es _ l => l, fun ds es M Q E l1 l2 q => ?_⟩
    · cases us with
      | nil => exact .of_eq (h kV doc pm an cdv ct ws l2)
      | cons a b => cases l1
    · cases ds with
      | nil => exact q
      | cons a b => cases l1
  · exact absurd rfl e
theorem call_of {P : Program} {w : World} {K : PySem.W.Frag} {mg : Str → Option Value} {k : Nat} {f : Str} {fa : Addr} {params : Arguments} {body : List Stmt} {scope : Scope} {dvs : List V} {kws : List (Str × V)} {fd : FuncData} {N ps : List Str} {sp : FSp} (c : CB)
    (F : FunD K f f params body scope dvs kws fa fd) (hm : mg f = some (.ref fa)) (hb : Binds K fd ps []) (S : C8.scC N ps scope = true) (chk : ckB c ⟨scope, N, fun _ => true⟩ body = true) (ok : okB (tb P w K mg k) c)
    (law : ∀ ds M Q, ds.length = ps.length → sp ds M Q (fun _ _ => False) → rB E0 c (endK Q) (startD N.length ds) M) : CallG P w K mg (k + 1) f ps.length sp :=
  ⟨fa, fd, ps, rfl, fun base h1 h2 => fng_of F (C8.fnScope_by S) h1 h2 (fun X g _ => sdB c ok _ X g _ chk) law, hm, F.kp, hb⟩
end
end Mx
namespace Mx
open PySem PySem.Spec PyProof.Rows L2
theorem walk_by {chk : MH → Prop} {turn : D → KS → KS} {fin : KS} (I : List D → Sd → MH → Prop) (done : ∀ σ M, I [] σ M → chk M ∧ fin σ M)
    (step : ∀ d ds σ M, I (d :: ds) σ M → chk M ∧ ∀ next : KS, (∀ σ' M', I ds σ' M' → next σ' M') → turn d next σ M) : ∀ (items : List D) (σ : Sd) (M : MH), I items σ M → walkD chk turn fin items σ M
  | [], σ, M, h => done σ M h
  | d :: ds, σ, M, h => by
    obtain ⟨a, b⟩ := step d ds σ M h
    exact ⟨a, b _ fun σ' M' h' => walk_by I done step ds σ' M' h'⟩
theorem gather_by {chk : MH → Prop} {turn : D → (Option D → MH → Prop) → MH → Prop} {fin : List D → MH → Prop} (I : List D → List D → MH → Prop) (done : ∀ acc M, I [] acc M → chk M ∧ fin acc M)
    (step : ∀ d ds acc M, I (d :: ds) acc M → chk M ∧ acc.length < sizeLine ∧ ∀ k : Option D → MH → Prop, (∀ x M', I ds (acc ++ [x]) M' → k (some x) M') → (∀ M', I ds acc M' → k none M') → turn d k M) : ∀ (items acc : List D) (M : MH), I items acc M → gatherD chk turn fin items acc M
  | [], acc, M, h => done acc M h
  | d :: ds, acc, M, h => by
    obtain ⟨a, z, b⟩ := step d ds acc M h
    exact ⟨a, b _ (fun x M' h' => ⟨z, gather_by I done step ds _ M' h'⟩) fun M' h' => gather_by I done step ds _ M' h'⟩
theorem gather_map {chk : MH → Prop} {turn : D → (Option D → MH → Prop) → MH → Prop} {fin : List D → MH → Prop} {M : MH} (f : D → D) (items : List D) (hc : chk M) (hl : items.length ≤ sizeLine)
    (step : ∀ d ∈ items, ∀ k : Option D → MH → Prop, k (some (f d)) M → turn d k M) (h : fin (items.map f) M) : gatherD chk turn fin items [] M := by
  refine gather_by (fun ds acc M' => M' = M ∧ acc ++ ds.map f = items.map f ∧ (∀ d ∈ ds, d ∈ items)) (fun acc M' ⟨e, e2, _⟩ => ?_) (fun d ds acc M' ⟨e, e2, e3⟩ => ?_) items [] M ⟨rfl, rfl, fun _ h => h⟩
  · subst e
    rw [List.map_nil, List.append_nil] at e2
    subst e2
    exact ⟨hc, h⟩
  · subst e
    have hlen := congrArg List.length e2
    rw [List.length_append, List.length_map, List.length_map, List.length_cons] at hlen
    refine ⟨hc, by omega, fun k h1 h2 => step d (e3 d List.mem_cons_self) k (h1 _ _ ⟨rfl, ?_, fun x hx => e3 x (List.mem_cons_of_mem _ hx)⟩)⟩
    rw [List.append_assoc]
    exact e2
theorem gather_over {α : Type} {chk : MH → Prop} {turn : D → (Option D → MH → Prop) → MH → Prop} {fin : List D → MH → Prop} {M : MH} (xs : List α) (g h : α → D) (hc : chk M) (hl : xs.length ≤ sizeLine)
    (step : ∀ x ∈ xs, ∀ k : Option D → MH → Prop, k (some (h x)) M → turn (g x) k M) (hf : fin (xs.map h) M) : gatherD chk turn fin (xs.map g) [] M := by
  refine gather_by (fun ds acc M' => M' = M ∧ ∃ pre post, xs = pre ++ post ∧ acc = pre.map h ∧ ds = post.map g) (fun acc M' ⟨e, pre, post, e1, e2, e3⟩ => ?_) (fun d ds acc M' ⟨e, pre, post, e1, e2, e3⟩ => ?_) _ [] M ⟨rfl, [], xs, rfl, rfl, rfl⟩
  · subst e e2
    cases post with
    | cons a b => cases e3
    | nil =>
      rw [List.append_nil] at e1
      subst e1
      exact ⟨hc, hf⟩
  · subst e e2
    cases post with
    | nil => cases e3
    | cons a post =>
      injection e3 with e4 e5
      subst e4 e5
      have hlen := congrArg List.length e1
      rw [List.length_append, List.length_cons] at hlen
      refine ⟨hc, by rw [List.length_map]; omega, fun k h1 h2 => step a (by rw [e1]; simp) k (h1 _ _ ⟨rfl, pre ++ [a], post, by rw [e1, List.append_assoc]; rfl, by simp, rfl⟩)⟩
theorem SubM.rfl {M : MH} : SubM M M := fun _ _ h => h
theorem SubM.trans {M N P : MH} (a : SubM M N) (b : SubM N P) : SubM M P := fun x o h => b x o (a x o h)
theorem SubM.new {M : MH} {r : Addr} {o : MO} (h : M.get r = none) : SubM M ((r, o) :: M) := fun a u e => by
  by_cases q : a = r
  · subst q
    rw [h] at e
    cases e
  · rw [MH.get_ne q]
    exact e
theorem SubM.cons {M N : MH} {r : Addr} {o : MO} (h : SubM M N) : SubM ((r, o) :: M) ((r, o) :: N) := fun a u e => by
  by_cases q : a = r
  · subst q
    rw [MH.get_same] at e ⊢
    exact e
  · rw [MH.get_ne q] at e ⊢
    exact h a u e
theorem drop_here {Q : KE} {d : D} {M : MH} (h : Q d M) : dropQ Q d M := ⟨M, .rfl, h⟩
theorem drop_by {Q : KE} {d : D} {M M' : MH} (s : SubM M M') (h : Q d M) : dropQ Q d M' := ⟨M, s, h⟩
theorem MH.put_id {M : MH} {a : Addr} {o : MO} (h : M.get a = some o) : M.put a o = M := by
  induction M with
  | nil => rfl
  | cons p M ih =>
    obtain ⟨b, u⟩ := p
    by_cases e : a = b
    · subst e
      rw [MH.get_same] at h
      cases h
      exact MH.put_same
    · rw [MH.get_ne e] at h
      rw [MH.put_ne e, ih h]
end Mx
namespace Rd
open PySem PySem.Spec PyProof.Rows L2 Mx
theorem tr_bl {b : Bool} {M : MH} {k : Bool → Prop} : truD (.bl b) M k = k b := rfl
theorem tr_non {M : MH} {k : Bool → Prop} : truD .non M k = k false := rfl
theorem tr_int {i : Int} {M : MH} {k : Bool → Prop} : truD (.int i) M k = k (i != 0) := rfl
theorem tr_str {s : Str} {M : MH} {k : Bool → Prop} : truD (.str s) M k = (s.length ≤ sizeLine ∧ k ((s.length : Int) != 0)) := rfl
theorem tr_tup {ds : List D} {M : MH} {k : Bool → Prop} : truD (.tup ds) M k = k (!ds.isEmpty) := rfl
theorem tr_fl {ds : List D} {M : MH} {k : Bool → Prop} : truD (.fl ds) M k = k (!ds.isEmpty) := rfl
theorem tr_ref {p : Addr} {M : MH} {k : Bool → Prop} : truD (.ref p) M k = (match M.get p with
    | some (.lst ds) => k (!ds.isEmpty)
    | _ => False) := rfl
theorem eq_int {i j : Int} {M : MH} {k : Bool → Prop} : eqD (.int i) (.int j) M k = k (decide (i = j)) := rfl
theorem eq_str {i j : Str} {M : MH} {k : Bool → Prop} : eqD (.str i) (.str j) M k = k (decide (i = j)) := rfl
theorem eq_bl {i j : Bool} {M : MH} {k : Bool → Prop} : eqD (.bl i) (.bl j) M k = k (decide (i = j)) := rfl
theorem sq_tup {ds : List D} {M : MH} {k : List D → Prop} : seqD (.tup ds) M k = k ds := rfl
theorem sq_fl {ds : List D} {M : MH} {k : List D → Prop} : seqD (.fl ds) M k = k ds := rfl
theorem sq_ref {p : Addr} {M : MH} {k : List D → Prop} : seqD (.ref p) M k = (match M.get p with
    | some (.lst ds) => k ds
    | _ => False) := rfl
theorem cm_eq {x y : D} {M : MH} {k : Bool → Prop} : cmpD .Eq x y M k = eqD x y M k := rfl
theorem cm_ne {x y : D} {M : MH} {k : Bool → Prop} : cmpD .NotEq x y M k = eqD x y M fun b => k (!b) := rfl
theorem cm_in {x y : D} {M : MH} {k : Bool → Prop} : cmpD .In x y M k = inD x y M k := rfl
theorem cm_ni {x y : D} {M : MH} {k : Bool → Prop} : cmpD .NotIn x y M k = inD x y M fun b => k (!b) := rfl
theorem is_non {M : MH} {k : Bool → Prop} : cmpD .Is .non .non M k = k true := rfl
theorem isn_non {M : MH} {k : Bool → Prop} : cmpD .IsNot .non .non M k = k false := rfl
theorem is_bl {b : Bool} {M : MH} {k : Bool → Prop} : cmpD .Is (.bl b) .non M k = k false := rfl
theorem isn_bl {b : Bool} {M : MH} {k : Bool → Prop} : cmpD .IsNot (.bl b) .non M k = k true := rfl
theorem is_int {i : Int} {M : MH} {k : Bool → Prop} : cmpD .Is (.int i) .non M k = k false := rfl
theorem isn_int {i : Int} {M : MH} {k : Bool → Prop} : cmpD .IsNot (.int i) .non M k = k true := rfl
theorem is_str {s : Str} {M : MH} {k : Bool → Prop} : cmpD .Is (.str s) .non M k = k false := rfl
theorem isn_str {s : Str} {M : MH} {k : Bool → Prop} : cmpD .IsNot (.str s) .non M k = k true := rfl
theorem is_tup {ds : List D} {M : MH} {k : Bool → Prop} : cmpD .Is (.tup ds) .non M k = k false := rfl
theorem isn_tup {ds : List D} {M : MH} {k : Bool → Prop} : cmpD .IsNot (.tup ds) .non M k = k true := rfl
theorem is_fl {ds : List D} {M : MH} {k : Bool → Prop} : cmpD .Is (.fl ds) .non M k = k false := rfl
theorem isn_fl {ds : List D} {M : MH} {k : Bool → Prop} : cmpD .IsNot (.fl ds) .non M k = k true := rfl
theorem is_ref {p : Addr} {M : MH} {k : Bool → Prop} : cmpD .Is (.ref p) .non M k = k false := rfl
theorem isn_ref {p : Addr} {M : MH} {k : Bool → Prop} : cmpD .IsNot (.ref p) .non M k = k true := rfl
theorem cm_lt {i j : Int} {M : MH} {k : Bool → Prop} : cmpD .Lt (.int i) (.int j) M k = k (decide (i < j)) := rfl
theorem cm_le {i j : Int} {M : MH} {k : Bool → Prop} : cmpD .LtE (.int i) (.int j) M k = k (decide (i ≤ j)) := rfl
theorem cm_gt {i j : Int} {M : MH} {k : Bool → Prop} : cmpD .Gt (.int i) (.int j) M k = k (decide (j < i)) := rfl
theorem cm_ge {i j : Int} {M : MH} {k : Bool → Prop} : cmpD .GtE (.int i) (.int j) M k = k (decide (j ≤ i)) := rfl
theorem ix_tup {ds : List D} {n : Int} {M : MH} {Q : KE} : idxD (.tup ds) (.int n) M Q = ∃ d, atI ds n = some d ∧ Q d M := rfl
theorem ix_fl {ds : List D} {n : Int} {M : MH} {Q : KE} : idxD (.fl ds) (.int n) M Q = ∃ d, atI ds n = some d ∧ Q d M := rfl
theorem ix_str {s : Str} {n : Int} {M : MH} {Q : KE} : idxD (.str s) (.int n) M Q = (s.length ≤ sizeLine ∧ ∃ c, atI s.cps.toList n = some c ∧ Q (.str ⟨#[c]⟩) M) := rfl
theorem ix_ref {p : Addr} {n : Int} {M : MH} {Q : KE} : idxD (.ref p) (.int n) M Q = (match M.get p with
    | some (.lst ds) => ∃ d, atI ds n = some d ∧ Q d M
    | _ => False) := rfl
theorem sl_tup {ds : List D} {lo hi : Option Int} {M : MH} {Q : KE} : slcD (.tup ds) lo hi M Q = Q (.tup (Mx.cutD ds lo hi)) M := rfl
theorem sl_str {s : Str} {lo hi : Option Int} {M : MH} {Q : KE} : slcD (.str s) lo hi M Q = (s.length ≤ sizeLine ∧ Q (.str ⟨(Mx.cutD s.cps.toList lo hi).toArray⟩) M) := rfl
theorem sl_fl {ds : List D} {lo hi : Option Int} {M : MH} {Q : KE} : slcD (.fl ds) lo hi M Q = ∀ r, M.get r = none → Q (.ref r) ((r, .lst (Mx.cutD ds lo hi)) :: M) := rfl
theorem sl_ref {p : Addr} {lo hi : Option Int} {M : MH} {Q : KE} : slcD (.ref p) lo hi M Q = (match M.get p with
    | some (.lst ds) => ∀ r, M.get r = none → Q (.ref r) ((r, .lst (Mx.cutD ds lo hi)) :: M)
    | _ => False) := rfl
theorem ln_str {s : Str} {M : MH} {Q : KE} : bltD .len [.str s] M Q = (s.length ≤ sizeLine ∧ Q (.int s.length) M) := rfl
theorem ln_tup {ds : List D} {M : MH} {Q : KE} : bltD .len [.tup ds] M Q = Q (.int ds.length) M := rfl
theorem ln_fl {ds : List D} {M : MH} {Q : KE} : bltD .len [.fl ds] M Q = Q (.int ds.length) M := rfl
theorem ln_ref {p : Addr} {M : MH} {Q : KE} : bltD .len [.ref p] M Q = (match M.get p with
    | some (.lst ds) => Q (.int ds.length) M
    | _ => False) := rfl
theorem nt_int {i : Int} {M : MH} {Q : KE} : bltD .int [.int i] M Q = Q (.int i) M := rfl
theorem nt_str {s : Str} {M : MH} {Q : KE} : bltD .int [.str s] M Q = ∃ n, PySem.intText? s = some n ∧ s.length ≤ 640 ∧ Q (.int n) M := rfl
theorem st_int {i : Int} {M : MH} {Q : KE} : bltD .str [.int i] M Q = (i.natAbs.log2 < 1920 ∧ Q (.str (toString i : String)) M) := rfl
theorem ab_int {i : Int} {M : MH} {Q : KE} : bltD .abs [.int i] M Q = Q (.int (if i < 0 then -i else i)) M := rfl
theorem od_str {s : Str} {M : MH} {Q : KE} : bltD .ord [.str s] M Q = (s.length = 1 ∧ Q (.int (s.cps.getD 0 0 : Nat)) M) := rfl
theorem mx_int {i j : Int} {M : MH} {Q : KE} : bltD .max [.int i, .int j] M Q = Q (.int (if j > i then j else i)) M := rfl
theorem mn_int {i j : Int} {M : MH} {Q : KE} : bltD .min [.int i, .int j] M Q = Q (.int (if j < i then j else i)) M := rfl
theorem dm_int {i j : Int} {M : MH} {Q : KE} : bltD .divmod [.int i, .int j] M Q = (CDivP i j ∧ Q (.tup [.int (i / j), .int (i % j)]) M) := rfl
theorem tp_seq {x : D} {M : MH} {Q : KE} : bltD .tuple [x] M Q = seqD x M fun xs => Q (.tup xs) M := rfl
theorem ls_seq {x : D} {M : MH} {Q : KE} : bltD .list [x] M Q = seqD x M fun xs => ∀ r, M.get r = none → Q (.ref r) ((r, .lst xs) :: M) := rfl
theorem rp_any {x : D} {M : MH} {Q : KE} : bltD .repr [x] M Q = ∃ p, pyOf M 40 x = some p ∧ p.showable = true ∧ p.shown.length ≤ sizeLine ∧ Q (.str p.shown) M := rfl
theorem bn_ii {i j : Int} {M : MH} {Q : KE} : binD .Add (.int i) (.int j) M Q = Q (.int (i + j)) M := rfl
theorem bn_ss {i j : Str} {M : MH} {Q : KE} : binD .Add (.str i) (.str j) M Q = (i.length + j.length ≤ sizeLine ∧ Q (.str (i ++ j)) M) := rfl
theorem bn_tt {i j : List D} {M : MH} {Q : KE} : binD .Add (.tup i) (.tup j) M Q = (i.length + j.length ≤ sizeLine ∧ Q (.tup (i ++ j)) M) := rfl
theorem bn_rr {p q : Addr} {M : MH} {Q : KE} : binD .Add (.ref p) (.ref q) M Q = ∃ a b, M.get p = some (.lst a) ∧ M.get q = some (.lst b) ∧ a.length + b.length ≤ sizeLine ∧ ∀ r, M.get r = none → Q (.ref r) ((r, .lst (a ++ b)) :: M) := rfl
theorem bn_sub {i j : Int} {M : MH} {Q : KE} : binD .Sub (.int i) (.int j) M Q = Q (.int (i - j)) M := rfl
theorem bn_mul {i j : Int} {M : MH} {Q : KE} : binD .Mult (.int i) (.int j) M Q = (CMulX i j ∧ Q (.int (i * j)) M) := rfl
theorem bn_fdv {i j : Int} {M : MH} {Q : KE} : binD .FloorDiv (.int i) (.int j) M Q = (DivOk i j ∧ Q (.int (i.fdiv j)) M) := rfl
theorem bn_mod {i j : Int} {M : MH} {Q : KE} : binD .Mod (.int i) (.int j) M Q = (j ≠ 0 ∧ Q (.int (i.fmod j)) M) := rfl
theorem bn_pow {i j : Int} {M : MH} {Q : KE} : binD .Pow (.int i) (.int j) M Q = (CPow i j ∧ Q (.int (i ^ j.toNat)) M) := rfl
theorem mt_app {p : Addr} {d : D} {M : MH} {Q : KE} : metD .append (.ref p) [d] M Q = ∃ xs, M.get p = some (.lst xs) ∧ xs.length < sizeLine ∧ Q .non (M.put p (.lst (xs ++ [d]))) := rfl
theorem mt_joi {s : Str} {y : D} {M : MH} {Q : KE} : metD .join (.str s) [y] M Q = ∃ ss : List Str, seqD y M (fun es => es = ss.map .str) ∧ (ss.map (·.length)).sum + ss.length * s.length ≤ 16777216 ∧ Q (.str (Txt.join s ss)) M := rfl
theorem mt_spl {s b : Str} {M : MH} {Q : KE} : metD .split (.str s) [.str b] M Q = ((b.length == 0) = false ∧ s.length + 2 ≤ sizeLine ∧ ∀ r, M.get r = none → Q (.ref r) ((r, .lst ((Txt.split s b).map .str)) :: M)) := rfl
theorem mt_par {s b : Str} {M : MH} {Q : KE} : metD .partition (.str s) [.str b] M Q = ((b.length == 0) = false ∧ s.length ≤ sizeLine ∧ Q (.tup [.str (Txt.partition s b).1, .str (Txt.partition s b).2.1, .str (Txt.partition s b).2.2]) M) := rfl
theorem mt_rpa {s b : Str} {M : MH} {Q : KE} : metD .rpartition (.str s) [.str b] M Q = ((b.length == 0) = false ∧ s.length ≤ sizeLine ∧ Q (.tup [.str (Txt.rpartition s b).1, .str (Txt.rpartition s b).2.1, .str (Txt.rpartition s b).2.2]) M) := rfl
theorem my_split {s : Str} {M : MH} : mtyD .split (.str s) M = True := rfl
theorem my_partition {s : Str} {M : MH} : mtyD .partition (.str s) M = True := rfl
theorem my_rpartition {s : Str} {M : MH} : mtyD .rpartition (.str s) M = True := rfl
theorem my_count {s : Str} {M : MH} : mtyD .count (.str s) M = True := rfl
theorem my_find {s : Str} {M : MH} : mtyD .find (.str s) M = True := rfl
theorem my_rfind {s : Str} {M : MH} : mtyD .rfind (.str s) M = True := rfl
theorem my_join {s : Str} {M : MH} : mtyD .join (.str s) M = True := rfl
theorem my_app {p : Addr} {M : MH} : mtyD .append (.ref p) M = ∃ xs, M.get p = some (.lst xs) := rfl
theorem ty_non_int {M : MH} : isiD .non M "int" = some false := rfl
theorem ty_non_str {M : MH} : isiD .non M "str" = some false := rfl
theorem ty_non_bool {M : MH} : isiD .non M "bool" = some false := rfl
theorem ty_non_tuple {M : MH} : isiD .non M "tuple" = some false := rfl
theorem ty_non_list {M : MH} : isiD .non M "list" = some false := rfl
theorem ty_bl_int {b : Bool} {M : MH} : isiD (.bl b) M "int" = some true := rfl
theorem ty_bl_str {b : Bool} {M : MH} : isiD (.bl b) M "str" = some false := rfl
theorem ty_bl_bool {b : Bool} {M : MH} : isiD (.bl b) M "bool" = some true := rfl
theorem ty_bl_tuple {b : Bool} {M : MH} : isiD (.bl b) M "tuple" = some false := rfl
theorem ty_bl_list {b : Bool} {M : MH} : isiD (.bl b) M "list" = some false := rfl
theorem ty_int_int {i : Int} {M : MH} : isiD (.int i) M "int" = some true := rfl
theorem ty_int_str {i : Int} {M : MH} : isiD (.int i) M "str" = some false := rfl
theorem ty_int_bool {i : Int} {M : MH} : isiD (.int i) M "bool" = some false := rfl
theorem ty_int_tuple {i : Int} {M : MH} : isiD (.int i) M "tuple" = some false := rfl
theorem ty_int_list {i : Int} {M : MH} : isiD (.int i) M "list" = some false := rfl
theorem ty_str_int {s : Str} {M : MH} : isiD (.str s) M "int" = some false := rfl
theorem ty_str_str {s : Str} {M : MH} : isiD (.str s) M "str" = some true := rfl
theorem ty_str_bool {s : Str} {M : MH} : isiD (.str s) M "bool" = some false := rfl
theorem ty_str_tuple {s : Str} {M : MH} : isiD (.str s) M "tuple" = some false := rfl
theorem ty_str_list {s : Str} {M : MH} : isiD (.str s) M "list" = some false := rfl
theorem ty_tup_int {ds : List D} {M : MH} : isiD (.tup ds) M "int" = some false := rfl
theorem ty_tup_str {ds : List D} {M : MH} : isiD (.tup ds) M "str" = some false := rfl
theorem ty_tup_bool {ds : List D} {M : MH} : isiD (.tup ds) M "bool" = some false := rfl
theorem ty_tup_tuple {ds : List D} {M : MH} : isiD (.tup ds) M "tuple" = some true := rfl
theorem ty_tup_list {ds : List D} {M : MH} : isiD (.tup ds) M "list" = some false := rfl
theorem ty_fl_int {ds : List D} {M : MH} : isiD (.fl ds) M "int" = some false := rfl
theorem ty_fl_str {ds : List D} {M : MH} : isiD (.fl ds) M "str" = some false := rfl
theorem ty_fl_bool {ds : List D} {M : MH} : isiD (.fl ds) M "bool" = some false := rfl
theorem ty_fl_tuple {ds : List D} {M : MH} : isiD (.fl ds) M "tuple" = some false := rfl
theorem ty_fl_list {ds : List D} {M : MH} : isiD (.fl ds) M "list" = some true := rfl
theorem fm_str {s : Str} {k : Str → Prop} : fmtD (.str s) k = k s := rfl
theorem fm_int {i : Int} {k : Str → Prop} : fmtD (.int i) k = (i.natAbs.log2 < 1920 ∧ k (toString i : String)) := rfl
theorem it_t {ds : List D} {M : MH} {k : List D → (MH → Prop) → Prop} : itD (.tup ds) M k = k ds fun _ => True := rfl
theorem it_f {ds : List D} {M : MH} {k : List D → (MH → Prop) → Prop} : itD (.fl ds) M k = k ds fun _ => True := rfl
theorem it_s {s : Str} {M : MH} {k : List D → (MH → Prop) → Prop} : itD (.str s) M k = k (s.cps.toList.map fun c => .str ⟨#[c]⟩) fun _ => True := rfl
theorem it_r {p : Addr} {M : MH} {k : List D → (MH → Prop) → Prop} : itD (.ref p) M k = (match M.get p with
    | some (.lst ds) => k ds fun M' => M'.get p = some (.lst ds)
    | _ => False) := rfl
end Rd
namespace Jn
open PySem PySem.Spec PyProof.Rows L2 Mx TL
abbrev Ad := Str × Str
def adD (a : Ad) : D := .tup [.str a.1, .str a.2]
inductive JE where
  | ask | lost | cut | gone
  | moved (a : Ad) | same (a : Ad)
  | page (n : Nat) (ls : List Ad)
def kindT : JE → Str
  | .ask => "ask" | .lost => "lost" | .cut => "cut" | .gone => "gone" | .moved _ => "moved" | .same _ => "same" | .page _ _ => "page"
def evD : JE → D
  | .ask => .tup [.str "ask"]
  | .lost => .tup [.str "lost"]
  | .cut => .tup [.str "cut"]
  | .gone => .tup [.str "gone"]
  | .moved a => .tup [.str "moved", adD a]
  | .same a => .tup [.str "same", adD a]
  | .page n ls => .tup [.str "page", .int n, .tup (ls.map adD)]
structure JR where
  m : Nat
  a : Ad
  e : JE
def rowD (r : JR) : D := .tup [.int r.m, adD r.a, evD r.e]
def okName (s : Str) : Prop := 1 ≤ s.length ∧ s.length ≤ 12 ∧ ∀ c ∈ tl s, c ∈ tl "abcdefghijklmnopqrstuvwxyz"
def okPath (s : Str) : Prop := (∃ r, tl s = 47 :: r) ∧ s.length ≤ 40 ∧ ∀ c ∈ tl s, c ∈ tl "-./0123456789_abcdefghijklmnopqrstuvwxyz"
def okAd (a : Ad) : Prop := okName a.1 ∧ okPath a.2
def okEv : JE → Prop
  | .moved a => okAd a
  | .same a => okAd a
  | .page n ls => n ≤ 999999 ∧ ls.length ≤ 6 ∧ ∀ a ∈ ls, okAd a
  | _ => True
def isAns : JE → Prop
  | .ask => False
  | .lost => False
  | .cut => False
  | _ => True
def okRow (r : JR) : Prop := r.m ≤ 999999999999 ∧ okAd r.a ∧ okEv r.e
def adT (a : Ad) : Str := a.1 ++ a.2
def numT (n : Nat) : Str := Str.ofString (toString (n : Int))
def wordsB : JE → List Str
  | .page n ls => numT n :: ls.map adT
  | .moved a => [adT a]
  | .same a => [adT a]
  | _ => []
def wordsT (r : JR) : List Str := [numT r.m, kindT r.e, adT r.a] ++ wordsB r.e
def lineT (r : JR) : Str := Txt.join " " (wordsT r)
def strsM (l : List Str) : MO := .lst (l.map .str)
def sumS : Nat → List Nat → Int
  | _, [] => 0
  | i, c :: l => ((i : Int) + 1) * (c : Int) + sumS (i + 1) l
def sealN (t : Str) : Int := (sumS 0 (tl t)).fmod 999983
def headT (i : Nat) (r : JR) : Str := numT i ++ " " ++ lineT r
def sealedT (i : Nat) (r : JR) : Str := headT i r ++ " " ++ Str.ofString (toString (sealN (headT i r)))
def jline (i : Nat) (r : JR) : Str := sealedT i r ++ "\n"
def jlines : Nat → List JR → List Str
  | _, [] => []
  | i, r :: rs => jline i r :: jlines (i + 1) rs
def journalT (rs : List JR) : Str := Txt.join "" (jlines 0 rs)

def sp_is_name : FSp := fun ds M Q _ => ∃ s, ds = [.str s] ∧ okName s ∧ Q (.bl true) M
def sp_is_path : FSp := fun ds M Q _ => ∃ s, ds = [.str s] ∧ okPath s ∧ Q (.bl true) M
def sp_is_whole : FSp := fun ds M Q _ => ∃ i, ds = [.int i] ∧ Q (.bl true) M
def sp_is_between : FSp := fun ds M Q _ => ∃ v lo hi, ds = [.int v, .int lo, .int hi] ∧ Q (.bl (decide (lo ≤ v) && decide (v ≤ hi))) M
def sp_is_tuple_up_to : FSp := fun ds M Q _ => ∃ xs lo hi, ds = [.tup xs, .int lo, .int hi] ∧ Q (.bl (decide (lo ≤ (xs.length : Int)) && decide ((xs.length : Int) ≤ hi))) M
def sp_is_short_path : FSp := fun ds M Q _ => ∃ s, ds = [.str s] ∧ okPath s ∧ Q (.bl true) M
def sp_is_address : FSp := fun ds M Q _ => ∃ a, ds = [adD a] ∧ okAd a ∧ Q (.bl true) M
def sp_text_of : FSp := fun ds M Q _ => ∃ a, ds = [adD a] ∧ okAd a ∧ Q (.str (adT a)) M
def sp_address_in : FSp := fun ds M Q _ => ∃ a, ds = [.str (adT a)] ∧ okAd a ∧ Q (adD a) M
def sp_is_moment : FSp := fun ds M Q _ => ∃ n : Nat, ds = [.int n] ∧ n ≤ 999999999999 ∧ Q (.bl true) M
def sp_are_links : FSp := fun ds M Q _ => ∃ ls : List Ad, ds = [.tup (ls.map adD)] ∧ ls.length ≤ 6 ∧ (∀ a ∈ ls, okAd a) ∧ Q (.bl true) M
def sp_is_some_answer : FSp := fun ds M Q _ => ∃ e, ds = [evD e] ∧ okEv e ∧ isAns e ∧ Q (.bl true) M
def sp_is_numeral : FSp := fun ds M Q _ => ∃ n : Nat, ds = [.str (numT n)] ∧ n ≤ 999999999999 ∧ Q (.bl true) M
def sp_answer_of : FSp := fun ds M Q _ => ∃ p e, ds = [.ref p] ∧ M.get p = some (strsM (kindT e :: wordsB e)) ∧ okEv e ∧ isAns e ∧ Q (evD e) M
def sp_event_of : FSp := fun ds M Q _ => ∃ p e, ds = [.ref p] ∧ M.get p = some (strsM (kindT e :: wordsB e)) ∧ okEv e ∧ Q (evD e) M
def sp_words_behind : FSp := fun ds M Q _ => ∃ e, ds = [evD e] ∧ okEv e ∧ ∀ r, M.get r = none → Q (.ref r) ((r, strsM (wordsB e)) :: M)
def sp_is_some_event : FSp := fun ds M Q _ => ∃ e, ds = [evD e] ∧ okEv e ∧ Q (.bl true) M
def sp_is_some_row : FSp := fun ds M Q _ => ∃ r, ds = [rowD r] ∧ okRow r ∧ Q (.bl true) M
def sp_check_log : FSp := fun ds M Q _ => ∃ rs : List JR, ds = [.tup (rs.map rowD)] ∧ (∀ r ∈ rs, okRow r) ∧ Q .non M
def sp_line_of : FSp := fun ds M Q _ => ∃ r, ds = [rowD r] ∧ okRow r ∧ Q (.str (lineT r)) M
def sp_row_in : FSp := fun ds M Q _ => ∃ r, ds = [.str (lineT r)] ∧ okRow r ∧ Q (rowD r) M
def sp_seal_in : FSp := fun ds M Q _ => ∃ t : Str, ds = [.str t] ∧ t.length ≤ 100000 ∧ (∀ c ∈ tl t, c < 2097152) ∧ Q (.int (sealN t)) M
def sp_seal_of : FSp := sp_seal_in
def sp_journal_line : FSp := fun ds M Q _ => ∃ (i : Nat) (r : JR), ds = [.int i, rowD r] ∧ i ≤ 1000 ∧ okRow r ∧ Q (.str (jline i r)) M
def sp_lines_in : FSp := fun ds M Q _ => ∃ rs : List JR, ds = [.tup (rs.map rowD)] ∧ (∀ r ∈ rs, okRow r) ∧ rs.length ≤ 100 ∧ ∀ r, M.get r = none → Q (.ref r) ((r, strsM (jlines 0 rs)) :: M)
def sp_row_at : FSp := fun ds M Q _ => ∃ (i : Nat) (r : JR), ds = [.str (sealedT i r), .int i] ∧ i ≤ 1000 ∧ okRow r ∧ Q (rowD r) M
def sp_journal_of : FSp := fun ds M Q _ => ∃ (rs : List JR) (x y z : D), ds = [.tup [x, y, .tup (rs.map rowD), z]] ∧ (∀ r ∈ rs, okRow r) ∧ rs.length ≤ 100 ∧ Q (.str (journalT rs)) M
def sp_print_journal : FSp := fun ds M Q _ => ∃ rs : List JR, ds = [.tup (rs.map rowD)] ∧ (∀ r ∈ rs, okRow r) ∧ rs.length ≤ 100 ∧ Q (.str (journalT rs)) M
def sp_read_journal : FSp := fun ds M Q _ => ∃ (rs : List JR) (torn : Str), ds = [.str (journalT rs ++ torn)] ∧ (∀ r ∈ rs, okRow r) ∧ rs.length ≤ 100 ∧ 10 ∉ tl torn ∧ torn.length ≤ 1000 ∧ Q (.tup (rs.map rowD)) M
end Jn
namespace Jn
open PySem PySem.Spec PyProof.Rows L2 Mx
def n_is_name : List Str := ["value", "sign"]
def p_is_name : List Str := ["value"]
def c_is_name : CB := (.cons (.ife (.or2 (.nt (.isi (.var 0) "str")) (.nt (.chain .LtE .LtE (.int (1)) (.blt .len (.cons (.var 0) .nil)) (.glo "MOST_LETTERS" (.int (12)))))) (.cons (.ret (.bl false))
  .nil) .nil)
  (.cons (.ret (.ofl .all (.comp (.val (.var 0)) (.nm 1) [1] .no (.cmp .In (.var 1) (.glo "LETTERS" (.str "abcdefghijklmnopqrstuvwxyz"))))))
  .nil))
def n_is_path : List Str := ["value", "sign"]
def p_is_path : List Str := ["value"]
def c_is_path : CB := (.cons (.ife (.or2 (.nt (.isi (.var 0) "str")) (.cmp .NotEq (.slc (.var 0) .no (.yes (.int (1)))) (.str "/"))) (.cons (.ret (.bl false))
  .nil) .nil)
  (.cons (.ret (.ofl .all (.comp (.val (.var 0)) (.nm 1) [1] .no (.cmp .In (.var 1) (.glo "SIGNS" (.str "-./0123456789_abcdefghijklmnopqrstuvwxyz"))))))
  .nil))
def n_is_whole : List Str := ["value"]
def p_is_whole : List Str := ["value"]
def c_is_whole : CB := (.cons (.ret (.and2 (.isi (.var 0) "int") (.nt (.isi (.var 0) "bool"))))
  .nil)
def n_is_between : List Str := ["value", "low", "high"]
def p_is_between : List Str := ["value", "low", "high"]
def c_is_between : CB := (.cons (.ret (.and2 (.call "is_whole" sp_is_whole (.cons (.var 0) .nil)) (.chain .LtE .LtE (.var 1) (.var 0) (.var 2))))
  .nil)
def n_is_tuple_up_to : List Str := ["value", "low", "high"]
def p_is_tuple_up_to : List Str := ["value", "low", "high"]
def c_is_tuple_up_to : CB := (.cons (.ret (.and2 (.isi (.var 0) "tuple") (.chain .LtE .LtE (.var 1) (.blt .len (.cons (.var 0) .nil)) (.var 2))))
  .nil)
def n_is_short_path : List Str := ["value"]
def p_is_short_path : List Str := ["value"]
def c_is_short_path : CB := (.cons (.ret (.and2 (.call "is_path" sp_is_path (.cons (.var 0) .nil)) (.cmp .LtE (.blt .len (.cons (.var 0) .nil)) (.glo "MOST_SIGNS" (.int (40))))))
  .nil)
def n_is_address : List Str := ["value"]
def p_is_address : List Str := ["value"]
def c_is_address : CB := (.cons (.ret (.and2 (.call "is_tuple_up_to" sp_is_tuple_up_to (.cons (.var 0) (.cons (.int (2)) (.cons (.int (2)) .nil)))) (.and2 (.call "is_name" sp_is_name (.cons (.idx (.var 0) (.int (0))) .nil)) (.call "is_short_path" sp_is_short_path (.cons (.idx (.var 0) (.int (1))) .nil)))))
  .nil)
def n_text_of : List Str := ["address"]
def p_text_of : List Str := ["address"]
def c_text_of : CB := (.cons (.ret (.bin .Add (.idx (.var 0) (.int (0))) (.idx (.var 0) (.int (1)))))
  .nil)
def n_address_in : List Str := ["text", "address", "house", "slash", "path"]
def p_address_in : List Str := ["text"]
def c_address_in : CB := (.cons (.asg (.tp (.cons (.nm 2) (.cons (.nm 3) (.cons (.nm 4) .nil)))) (.met (.var 0) .partition (.cons (.str "/") .nil)))
  (.cons (.asg (.nm 1) (.tup (.cons (.var 2) (.cons (.bin .Add (.var 3) (.var 4)) .nil))))
  (.cons (.ret (.ife (.call "is_address" sp_is_address (.cons (.var 1) .nil)) (.var 1) (.non)))
  .nil)))
def n_is_moment : List Str := ["value"]
def p_is_moment : List Str := ["value"]
def c_is_moment : CB := (.cons (.ret (.call "is_between" sp_is_between (.cons (.var 0) (.cons (.int (0)) (.cons (.glo "MOST_MOMENT" (.int (999999999999))) .nil)))))
  .nil)
def n_are_links : List Str := ["value", "each"]
def p_are_links : List Str := ["value"]
def c_are_links : CB := (.cons (.ret (.and2 (.call "is_tuple_up_to" sp_is_tuple_up_to (.cons (.var 0) (.cons (.int (0)) (.cons (.glo "MOST_LINKS" (.int (6))) .nil)))) (.ofl .all (.comp (.val (.var 0)) (.nm 1) [1] .no (.call "is_address" sp_is_address (.cons (.var 1) .nil))))))
  .nil)
def n_is_some_answer : List Str := ["value"]
def p_is_some_answer : List Str := ["value"]
def c_is_some_answer : CB := (.cons (.ife (.or2 (.nt (.call "is_tuple_up_to" sp_is_tuple_up_to (.cons (.var 0) (.cons (.int (1)) (.cons (.int (3)) .nil))))) (.nt (.isi (.idx (.var 0) (.int (0))) "str"))) (.cons (.ret (.bl false))
  .nil) .nil)
  (.cons (.ife (.cmp .Eq (.idx (.var 0) (.int (0))) (.str "gone")) (.cons (.ret (.cmp .Eq (.blt .len (.cons (.var 0) .nil)) (.int (1))))
  .nil) .nil)
  (.cons (.ife (.cmp .In (.idx (.var 0) (.int (0))) (.tup (.cons (.str "moved") (.cons (.str "same") .nil)))) (.cons (.ret (.and2 (.cmp .Eq (.blt .len (.cons (.var 0) .nil)) (.int (2))) (.call "is_address" sp_is_address (.cons (.idx (.var 0) (.int (1))) .nil))))
  .nil) .nil)
  (.cons (.ret (.and2 (.cmp .Eq (.idx (.var 0) (.int (0))) (.str "page")) (.and2 (.cmp .Eq (.blt .len (.cons (.var 0) .nil)) (.int (3))) (.and2 (.call "is_between" sp_is_between (.cons (.idx (.var 0) (.int (1))) (.cons (.int (0)) (.cons (.glo "MOST_MARK" (.int (999999))) .nil)))) (.call "are_links" sp_are_links (.cons (.idx (.var 0) (.int (2))) .nil))))))
  .nil))))
def n_is_numeral : List Str := ["word", "sign"]
def p_is_numeral : List Str := ["word"]
def c_is_numeral : CB := (.cons (.ife (.or2 (.nt (.chain .LtE .LtE (.int (1)) (.blt .len (.cons (.var 0) .nil)) (.glo "MOST_DIGITS" (.int (12))))) (.nt (.ofl .all (.comp (.val (.var 0)) (.nm 1) [1] .no (.cmp .In (.var 1) (.glo "DIGITS" (.str "0123456789"))))))) (.cons (.ret (.bl false))
  .nil) .nil)
  (.cons (.ret (.or2 (.cmp .Eq (.blt .len (.cons (.var 0) .nil)) (.int (1))) (.cmp .NotEq (.idx (.var 0) (.int (0))) (.str "0"))))
  .nil))
def n_answer_of : List Str := ["words", "answer", "word"]
def p_answer_of : List Str := ["words"]
def c_answer_of : CB := (.cons (.ife (.cmp .Eq (.var 0) (.new (.dis (.cons (.str "gone") .nil)))) (.cons (.ret (.tup (.cons (.str "gone") .nil)))
  .nil) .nil)
  (.cons (.ife (.and2 (.cmp .Eq (.blt .len (.cons (.var 0) .nil)) (.int (2))) (.cmp .In (.idx (.var 0) (.int (0))) (.tup (.cons (.str "moved") (.cons (.str "same") .nil))))) (.cons (.asg (.nm 1) (.tup (.cons (.idx (.var 0) (.int (0))) (.cons (.call "address_in" sp_address_in (.cons (.idx (.var 0) (.int (1))) .nil)) .nil))))
  .nil) (.cons (.ife (.and2 (.chain .LtE .LtE (.int (2)) (.blt .len (.cons (.var 0) .nil)) (.bin .Add (.glo "MOST_LINKS" (.int (6))) (.int (2)))) (.and2 (.cmp .Eq (.idx (.var 0) (.int (0))) (.str "page")) (.call "is_numeral" sp_is_numeral (.cons (.idx (.var 0) (.int (1))) .nil)))) (.cons (.asg (.nm 1) (.tup (.cons (.str "page") (.cons (.blt .int (.cons (.idx (.var 0) (.int (1))) .nil)) (.cons (.ofl .tuple (.comp (.val (.slc (.var 0) (.yes (.int (2))) .no)) (.nm 2) [2] .no (.call "address_in" sp_address_in (.cons (.var 2) .nil)))) .nil)))))
  .nil) (.cons (.ret (.non))
  .nil))
  .nil))
  (.cons (.ret (.ife (.call "is_some_answer" sp_is_some_answer (.cons (.var 1) .nil)) (.var 1) (.non)))
  .nil)))
def n_event_of : List Str := ["words"]
def p_event_of : List Str := ["words"]
def c_event_of : CB := (.cons (.ife (.and2 (.cmp .Eq (.blt .len (.cons (.var 0) .nil)) (.int (1))) (.cmp .In (.idx (.var 0) (.int (0))) (.tup (.cons (.str "ask") (.cons (.str "lost") (.cons (.str "cut") .nil)))))) (.cons (.ret (.tup (.cons (.idx (.var 0) (.int (0))) .nil)))
  .nil) .nil)
  (.cons (.ret (.call "answer_of" sp_answer_of (.cons (.var 0) .nil)))
  .nil))
def n_words_behind : List Str := ["event", "address"]
def p_words_behind : List Str := ["event"]
def c_words_behind : CB := (.cons (.ife (.cmp .Eq (.idx (.var 0) (.int (0))) (.str "page")) (.cons (.ret (.bin .Add (.new (.dis (.cons (.blt .str (.cons (.idx (.var 0) (.int (1))) .nil)) .nil))) (.new (.comp (.val (.idx (.var 0) (.int (2)))) (.nm 1) [1] .no (.call "text_of" sp_text_of (.cons (.var 1) .nil))))))
  .nil) .nil)
  (.cons (.ret (.ife (.cmp .In (.idx (.var 0) (.int (0))) (.tup (.cons (.str "moved") (.cons (.str "same") .nil)))) (.new (.dis (.cons (.call "text_of" sp_text_of (.cons (.idx (.var 0) (.int (1))) .nil)) .nil))) (.new (.dis .nil))))
  .nil))
def n_is_some_event : List Str := ["value"]
def p_is_some_event : List Str := ["value"]
def c_is_some_event : CB := (.cons (.ife (.or2 (.nt (.call "is_tuple_up_to" sp_is_tuple_up_to (.cons (.var 0) (.cons (.int (1)) (.cons (.int (3)) .nil))))) (.nt (.isi (.idx (.var 0) (.int (0))) "str"))) (.cons (.ret (.bl false))
  .nil) .nil)
  (.cons (.ret (.or2 (.and2 (.cmp .Eq (.blt .len (.cons (.var 0) .nil)) (.int (1))) (.cmp .In (.idx (.var 0) (.int (0))) (.tup (.cons (.str "ask") (.cons (.str "lost") (.cons (.str "cut") .nil)))))) (.call "is_some_answer" sp_is_some_answer (.cons (.var 0) .nil))))
  .nil))
def n_is_some_row : List Str := ["value"]
def p_is_some_row : List Str := ["value"]
def c_is_some_row : CB := (.cons (.ife (.nt (.call "is_tuple_up_to" sp_is_tuple_up_to (.cons (.var 0) (.cons (.int (3)) (.cons (.int (3)) .nil))))) (.cons (.ret (.bl false))
  .nil) .nil)
  (.cons (.ret (.and2 (.call "is_moment" sp_is_moment (.cons (.idx (.var 0) (.int (0))) .nil)) (.and2 (.call "is_address" sp_is_address (.cons (.idx (.var 0) (.int (1))) .nil)) (.call "is_some_event" sp_is_some_event (.cons (.idx (.var 0) (.int (2))) .nil)))))
  .nil))
def n_check_log : List Str := ["value", "index", "row"]
def p_check_log : List Str := ["value"]
def c_check_log : CB := (.cons (.ife (.nt (.isi (.var 0) "tuple")) (.cons (.raise "" .nil)
  .nil) .nil)
  (.cons (.forS (.tp (.cons (.nm 1) (.cons (.nm 2) .nil))) (.enum (.var 0)) (.cons (.ife (.nt (.call "is_some_row" sp_is_some_row (.cons (.var 2) .nil))) (.cons (.raise "" .nil)
  .nil) .nil)
  .nil))
  .nil))
def n_line_of : List Str := ["row", "moment", "address", "event"]
def p_line_of : List Str := ["row"]
def c_line_of : CB := (.cons (.asg (.tp (.cons (.nm 1) (.cons (.nm 2) (.cons (.nm 3) .nil)))) (.var 0))
  (.cons (.ret (.met (.str " ") .join (.cons (.bin .Add (.new (.dis (.cons (.blt .str (.cons (.var 1) .nil)) (.cons (.idx (.var 3) (.int (0))) (.cons (.call "text_of" sp_text_of (.cons (.var 2) .nil)) .nil))))) (.call "words_behind" sp_words_behind (.cons (.var 3) .nil))) .nil)))
  .nil))
def n_row_in : List Str := ["text", "words", "address", "event"]
def p_row_in : List Str := ["text"]
def c_row_in : CB := (.cons (.asg (.nm 1) (.met (.var 0) .split (.cons (.str " ") .nil)))
  (.cons (.ife (.or2 (.cmp .Lt (.blt .len (.cons (.var 1) .nil)) (.int (3))) (.nt (.call "is_numeral" sp_is_numeral (.cons (.idx (.var 1) (.int (0))) .nil)))) (.cons (.ret (.non))
  .nil) .nil)
  (.cons (.asg (.nm 2) (.call "address_in" sp_address_in (.cons (.idx (.var 1) (.int (2))) .nil)))
  (.cons (.asg (.nm 3) (.call "event_of" sp_event_of (.cons (.bin .Add (.new (.dis (.cons (.idx (.var 1) (.int (1))) .nil))) (.slc (.var 1) (.yes (.int (3))) .no)) .nil)))
  (.cons (.ret (.ife (.or2 (.cmp .Is (.var 2) (.non)) (.cmp .Is (.var 3) (.non))) (.non) (.tup (.cons (.blt .int (.cons (.idx (.var 1) (.int (0))) .nil)) (.cons (.var 2) (.cons (.var 3) .nil))))))
  .nil)))))
def n_seal_in : List Str := ["text", "index", "sign"]
def p_seal_in : List Str := ["text"]
def c_seal_in : CB := (.cons (.ret (.bin .Mod (.ofl .sum (.comp (.enum (.var 0)) (.tp (.cons (.nm 1) (.cons (.nm 2) .nil))) [1, 2] .no (.bin .Mult (.bin .Add (.var 1) (.int (1))) (.blt .ord (.cons (.var 2) .nil))))) (.glo "SEALS" (.int (999983)))))
  .nil)
def n_seal_of : List Str := ["text"]
def p_seal_of : List Str := ["text"]
def c_seal_of : CB := (.cons (.ife (.nt (.isi (.var 0) "str")) (.cons (.raise "" .nil)
  .nil) .nil)
  (.cons (.ret (.call "seal_in" sp_seal_in (.cons (.var 0) .nil)))
  .nil))
def n_journal_line : List Str := ["index", "row", "head"]
def p_journal_line : List Str := ["index", "row"]
def c_journal_line : CB := (.cons (.asg (.nm 2) (.fst (.val (.var 0) (.lit " " (.val (.call "line_of" sp_line_of (.cons (.var 1) .nil)) .nil)))))
  (.cons (.ret (.fst (.val (.var 2) (.lit " " (.val (.call "seal_in" sp_seal_in (.cons (.var 2) .nil)) (.lit "\n" .nil))))))
  .nil))
def n_lines_in : List Str := ["log", "index", "row"]
def p_lines_in : List Str := ["log"]
def c_lines_in : CB := (.cons (.ret (.new (.comp (.enum (.var 0)) (.tp (.cons (.nm 1) (.cons (.nm 2) .nil))) [1, 2] .no (.call "journal_line" sp_journal_line (.cons (.var 1) (.cons (.var 2) .nil))))))
  .nil)
def n_row_at : List Str := ["line", "index", "head", "blank", "seal", "first", "rest"]
def p_row_at : List Str := ["line", "index"]
def c_row_at : CB := (.cons (.asg (.tp (.cons (.nm 2) (.cons (.nm 3) (.cons (.nm 4) .nil)))) (.met (.var 0) .rpartition (.cons (.str " ") .nil)))
  (.cons (.ife (.cmp .NotEq (.var 4) (.blt .str (.cons (.call "seal_in" sp_seal_in (.cons (.var 2) .nil)) .nil))) (.cons (.ret (.non))
  .nil) .nil)
  (.cons (.asg (.tp (.cons (.nm 5) (.cons (.nm 3) (.cons (.nm 6) .nil)))) (.met (.var 2) .partition (.cons (.str " ") .nil)))
  (.cons (.ret (.ife (.cmp .Eq (.var 5) (.blt .str (.cons (.var 1) .nil))) (.call "row_in" sp_row_in (.cons (.var 6) .nil)) (.non)))
  .nil))))
def n_journal_of : List Str := ["crawl"]
def p_journal_of : List Str := ["crawl"]
def c_journal_of : CB := (.cons (.ret (.met (.str "") .join (.cons (.call "lines_in" sp_lines_in (.cons (.idx (.var 0) (.int (2))) .nil)) .nil)))
  .nil)
def n_print_journal : List Str := ["log"]
def p_print_journal : List Str := ["log"]
def c_print_journal : CB := (.cons (.expr (.call "check_log" sp_check_log (.cons (.var 0) .nil)))
  (.cons (.ret (.met (.str "") .join (.cons (.call "lines_in" sp_lines_in (.cons (.var 0) .nil)) .nil)))
  .nil))
def n_read_journal : List Str := ["text", "lines", "rows", "index", "row"]
def p_read_journal : List Str := ["text"]
def c_read_journal : CB := (.cons (.ife (.nt (.isi (.var 0) "str")) (.cons (.raise "" .nil)
  .nil) .nil)
  (.cons (.asg (.nm 1) (.met (.var 0) .split (.cons (.str "\n") .nil)))
  (.cons (.asg (.nm 2) (.new (.dis .nil)))
  (.cons (.forS (.nm 3) (.range1 (.bin .Sub (.blt .len (.cons (.var 1) .nil)) (.int (1)))) (.cons (.asg (.nm 4) (.call "row_at" sp_row_at (.cons (.idx (.var 1) (.var 3)) (.cons (.var 3) .nil))))
  (.cons (.ife (.cmp .Is (.var 4) (.non)) (.cons (.raise "" .nil)
  .nil) .nil)
  (.cons (.expr (.met (.var 2) .append (.cons (.var 4) .nil)))
  .nil))))
  (.cons (.ret (.blt .tuple (.cons (.var 2) .nil)))
  .nil)))))
end Jn
namespace Jn
open PySem PySem.Spec PyProof.Rows L2 Mx TL
theorem sz (n : Nat) (h : n ≤ 16777216) : n ≤ sizeLine := Nat.le_trans h (by decide)
theorem sl0 : (0 ≤ sizeLine) = True := eq_true (by decide)
theorem sl1 : (1 ≤ sizeLine) = True := eq_true (by decide)
theorem sl2 : (2 ≤ sizeLine) = True := eq_true (by decide)
theorem sl3 : (3 ≤ sizeLine) = True := eq_true (by decide)
theorem sl4 : (4 ≤ sizeLine) = True := eq_true (by decide)
theorem sl5 : (5 ≤ sizeLine) = True := eq_true (by decide)
theorem sl6 : (6 ≤ sizeLine) = True := eq_true (by decide)
theorem eqI {i j : Int} {M : MH} {k : Bool → Prop} : eqD (.int i) (.int j) M k = k (decide (i = j)) := rfl
theorem eqS {i j : Str} {M : MH} {k : Bool → Prop} : eqD (.str i) (.str j) M k = k (decide (i = j)) := rfl
theorem all_true {α : Type} (l : List α) : ∃ bs : List Bool, (l.map fun _ => D.bl true) = bs.map D.bl ∧ bs.all id = true := ⟨l.map fun _ => true, by simp, by simp⟩
theorem in_sign {c : Nat} {y : Str} {M : MH} {k : Bool → Prop} (h : k (decide (c ∈ tl y))) : inD (.str ⟨#[c]⟩) (.str y) M k := by
  show k (!(Builtin.Str.occurrences y ⟨#[c]⟩ 0 y.length 1).isEmpty)
  rw [PySem.StrLaws.found_one]
  exact h
theorem pl_is_name (ds : List D) (M : MH) (Q : KE) (h : sp_is_name ds M Q fun _ _ => False) : rB E0 c_is_name (endK Q) (startD n_is_name.length ds) M := by
  obtain ⟨s, rfl, ⟨h1, h2, h3⟩, q⟩ := h
  change rB E0 c_is_name (endK Q) [some (.str s), none] M
  have hz : s.length ≤ sizeLine := sz _ (by omega)
  have e1 : (1 : Int) ≤ (s.length : Int) := by omega
  have e2 : (s.length : Int) ≤ 12 := by omega
  simp only [c_is_name, rB, rS, rE, rT, rO, rC, rX, rEs, rOX, rL, rWk, rG, rGs, rF, byT, lenT, endK, oflD, wipeD, List.getElem?_cons_zero, List.getElem?_cons_succ, List.set_cons_zero, List.set_cons_succ, Bool.not_true, Bool.not_false, Bool.false_eq_true, if_true, if_false, decide_true, decide_false, Bool.true_and, Bool.and_true, Bool.false_and, List.length_nil, List.length_cons, Nat.zero_add, Nat.reduceAdd, Rd.tr_bl, Rd.tr_non, Rd.tr_int, Rd.tr_str, Rd.tr_tup, Rd.tr_fl, Rd.tr_ref, Rd.eq_int, Rd.eq_str, Rd.eq_bl, Rd.sq_tup, Rd.sq_fl, Rd.sq_ref, Rd.cm_eq, Rd.cm_ne, Rd.cm_in, Rd.cm_ni, Rd.is_non, Rd.isn_non, Rd.is_bl, Rd.isn_bl, Rd.is_int, Rd.isn_int, Rd.is_str, Rd.isn_str, Rd.is_tup, Rd.isn_tup, Rd.is_fl, Rd.isn_fl, Rd.is_ref, Rd.isn_ref, Rd.cm_lt, Rd.cm_le, Rd.cm_gt, Rd.cm_ge, Rd.ix_tup, Rd.ix_fl, Rd.ix_str, Rd.ix_ref, Rd.sl_tup, Rd.sl_str, Rd.sl_fl, Rd.sl_ref, Rd.ln_str, Rd.ln_tup, Rd.ln_fl, Rd.ln_ref, Rd.nt_int, Rd.nt_str, Rd.st_int, Rd.ab_int, Rd.od_str, Rd.mx_int, Rd.mn_int, Rd.dm_int, Rd.tp_seq, Rd.ls_seq, Rd.rp_any, Rd.bn_ii, Rd.bn_ss, Rd.bn_tt, Rd.bn_rr, Rd.bn_sub, Rd.bn_mul, Rd.bn_fdv, Rd.bn_mod, Rd.bn_pow, Rd.mt_app, Rd.mt_joi, Rd.mt_spl, Rd.mt_par, Rd.mt_rpa, Rd.my_split, Rd.my_partition, Rd.my_rpartition, Rd.my_count, Rd.my_find, Rd.my_rfind, Rd.my_join, Rd.my_app, Rd.ty_non_int, Rd.ty_non_str, Rd.ty_non_bool, Rd.ty_non_tuple, Rd.ty_non_list, Rd.ty_bl_int, Rd.ty_bl_str, Rd.ty_bl_bool, Rd.ty_bl_tuple, Rd.ty_bl_list, Rd.ty_int_int, Rd.ty_int_str, Rd.ty_int_bool, Rd.ty_int_tuple, Rd.ty_int_list, Rd.ty_str_int, Rd.ty_str_str, Rd.ty_str_bool, Rd.ty_str_tuple, Rd.ty_str_list, Rd.ty_tup_int, Rd.ty_tup_str, Rd.ty_tup_bool, Rd.ty_tup_tuple, Rd.ty_tup_list, Rd.ty_fl_int, Rd.ty_fl_str, Rd.ty_fl_bool, Rd.ty_fl_tuple, Rd.ty_fl_list, Rd.fm_str, Rd.fm_int, Rd.it_t, Rd.it_f, Rd.it_s, Rd.it_r, hz, e1, e2, true_and]
  refine gather_map (fun _ => .bl true) _ trivial (by rw [List.length_map]; simpa [Str.length] using hz) (fun d hd k hk => ?_) ?_
  · obtain ⟨c, hc, rfl⟩ := List.mem_map.mp hd
    have := h3 c hc
    refine in_sign ?_
    rw [decide_eq_true this]
    exact hk
  · obtain ⟨bs, e, hb⟩ := all_true (List.map (fun c => D.str ⟨#[c]⟩) s.cps.toList)
    refine ⟨bs, e, ?_⟩
    rw [hb]
    exact drop_here q
end Jn
namespace Jn
open PySem PySem.Spec PyProof.Rows L2 Mx TL
theorem atI_nat {α : Type} (xs : List α) (n : Nat) : atI xs (n : Int) = xs[n]? := by
  unfold atI ixN
  rw [if_pos (by omega)]
  by_cases h : n < xs.length
  · rw [if_pos (by omega)]
    rfl
  · rw [if_neg (by omega), List.getElem?_eq_none (by omega)]
    rfl
theorem at0 {α : Type} (xs : List α) : atI xs 0 = xs[0]? := atI_nat xs 0
theorem at1 {α : Type} (xs : List α) : atI xs 1 = xs[1]? := atI_nat xs 1
theorem at2 {α : Type} (xs : List α) : atI xs 2 = xs[2]? := atI_nat xs 2
theorem cut_first {α : Type} (c : α) (r : List α) : Mx.cutD (c :: r) none (some 1) = [c] := by
  unfold Mx.cutD HT.sIx
  simp
theorem str_slash : Str.ofString "/" = ⟨#[47]⟩ := by decide +kernel
theorem pl_is_path (ds : List D) (M : MH) (Q : KE) (h : sp_is_path ds M Q fun _ _ => False) : rB E0 c_is_path (endK Q) (startD n_is_path.length ds) M := by
  obtain ⟨s, rfl, ⟨⟨r, h0⟩, h2, h3⟩, q⟩ := h
  change rB E0 c_is_path (endK Q) [some (.str s), none] M
  have hz : s.length ≤ sizeLine := sz _ (by omega)
  have e0 : s.cps.toList = 47 :: r := h0
  simp only [c_is_path, rB, rS, rE, rT, rO, rC, rX, rEs, rOX, rL, rWk, rG, rGs, rF, byT, lenT, endK, oflD, wipeD, List.getElem?_cons_zero, List.getElem?_cons_succ, List.set_cons_zero, List.set_cons_succ, Bool.not_true, Bool.not_false, Bool.false_eq_true, if_true, if_false, decide_true, decide_false, Bool.true_and, Bool.and_true, Bool.false_and, List.length_nil, List.length_cons, Nat.zero_add, Nat.reduceAdd, Rd.tr_bl, Rd.tr_non, Rd.tr_int, Rd.tr_str, Rd.tr_tup, Rd.tr_fl, Rd.tr_ref, Rd.eq_int, Rd.eq_str, Rd.eq_bl, Rd.sq_tup, Rd.sq_fl, Rd.sq_ref, Rd.cm_eq, Rd.cm_ne, Rd.cm_in, Rd.cm_ni, Rd.is_non, Rd.isn_non, Rd.is_bl, Rd.isn_bl, Rd.is_int, Rd.isn_int, Rd.is_str, Rd.isn_str, Rd.is_tup, Rd.isn_tup, Rd.is_fl, Rd.isn_fl, Rd.is_ref, Rd.isn_ref, Rd.cm_lt, Rd.cm_le, Rd.cm_gt, Rd.cm_ge, Rd.ix_tup, Rd.ix_fl, Rd.ix_str, Rd.ix_ref, Rd.sl_tup, Rd.sl_str, Rd.sl_fl, Rd.sl_ref, Rd.ln_str, Rd.ln_tup, Rd.ln_fl, Rd.ln_ref, Rd.nt_int, Rd.nt_str, Rd.st_int, Rd.ab_int, Rd.od_str, Rd.mx_int, Rd.mn_int, Rd.dm_int, Rd.tp_seq, Rd.ls_seq, Rd.rp_any, Rd.bn_ii, Rd.bn_ss, Rd.bn_tt, Rd.bn_rr, Rd.bn_sub, Rd.bn_mul, Rd.bn_fdv, Rd.bn_mod, Rd.bn_pow, Rd.mt_app, Rd.mt_joi, Rd.mt_spl, Rd.mt_par, Rd.mt_rpa, Rd.my_split, Rd.my_partition, Rd.my_rpartition, Rd.my_count, Rd.my_find, Rd.my_rfind, Rd.my_join, Rd.my_app, Rd.ty_non_int, Rd.ty_non_str, Rd.ty_non_bool, Rd.ty_non_tuple, Rd.ty_non_list, Rd.ty_bl_int, Rd.ty_bl_str, Rd.ty_bl_bool, Rd.ty_bl_tuple, Rd.ty_bl_list, Rd.ty_int_int, Rd.ty_int_str, Rd.ty_int_bool, Rd.ty_int_tuple, Rd.ty_int_list, Rd.ty_str_int, Rd.ty_str_str, Rd.ty_str_bool, Rd.ty_str_tuple, Rd.ty_str_list, Rd.ty_tup_int, Rd.ty_tup_str, Rd.ty_tup_bool, Rd.ty_tup_tuple, Rd.ty_tup_list, Rd.ty_fl_int, Rd.ty_fl_str, Rd.ty_fl_bool, Rd.ty_fl_tuple, Rd.ty_fl_list, Rd.fm_str, Rd.fm_int, Rd.it_t, Rd.it_f, Rd.it_s, Rd.it_r, hz, true_and, e0, cut_first, str_slash]
  refine gather_map (fun _ => .bl true) _ trivial (by rw [List.length_map, ← e0]; simpa [Str.length] using hz) (fun d hd k hk => ?_) ?_
  · rw [← e0] at hd
    obtain ⟨c, hc, rfl⟩ := List.mem_map.mp hd
    have := h3 c hc
    refine in_sign ?_
    rw [decide_eq_true this]
    exact hk
  · obtain ⟨bs, e, hb⟩ := all_true (List.map (fun c => D.str ⟨#[c]⟩) (47 :: r))
    refine ⟨bs, e, ?_⟩
    rw [hb]
    exact drop_here q
theorem pl_is_whole (ds : List D) (M : MH) (Q : KE) (h : sp_is_whole ds M Q fun _ _ => False) : rB E0 c_is_whole (endK Q) (startD n_is_whole.length ds) M := by
  obtain ⟨i, rfl, q⟩ := h
  change rB E0 c_is_whole (endK Q) [some (.int i)] M
  simp only [c_is_whole, rB, rS, rE, rT, rO, rC, rX, rEs, rOX, rL, rWk, rG, rGs, rF, byT, lenT, endK, oflD, wipeD, List.getElem?_cons_zero, List.getElem?_cons_succ, List.set_cons_zero, List.set_cons_succ, Bool.not_true, Bool.not_false, Bool.false_eq_true, if_true, if_false, decide_true, decide_false, Bool.true_and, Bool.and_true, Bool.false_and, List.length_nil, List.length_cons, Nat.zero_add, Nat.reduceAdd, Rd.tr_bl, Rd.tr_non, Rd.tr_int, Rd.tr_str, Rd.tr_tup, Rd.tr_fl, Rd.tr_ref, Rd.eq_int, Rd.eq_str, Rd.eq_bl, Rd.sq_tup, Rd.sq_fl, Rd.sq_ref, Rd.cm_eq, Rd.cm_ne, Rd.cm_in, Rd.cm_ni, Rd.is_non, Rd.isn_non, Rd.is_bl, Rd.isn_bl, Rd.is_int, Rd.isn_int, Rd.is_str, Rd.isn_str, Rd.is_tup, Rd.isn_tup, Rd.is_fl, Rd.isn_fl, Rd.is_ref, Rd.isn_ref, Rd.cm_lt, Rd.cm_le, Rd.cm_gt, Rd.cm_ge, Rd.ix_tup, Rd.ix_fl, Rd.ix_str, Rd.ix_ref, Rd.sl_tup, Rd.sl_str, Rd.sl_fl, Rd.sl_ref, Rd.ln_str, Rd.ln_tup, Rd.ln_fl, Rd.ln_ref, Rd.nt_int, Rd.nt_str, Rd.st_int, Rd.ab_int, Rd.od_str, Rd.mx_int, Rd.mn_int, Rd.dm_int, Rd.tp_seq, Rd.ls_seq, Rd.rp_any, Rd.bn_ii, Rd.bn_ss, Rd.bn_tt, Rd.bn_rr, Rd.bn_sub, Rd.bn_mul, Rd.bn_fdv, Rd.bn_mod, Rd.bn_pow, Rd.mt_app, Rd.mt_joi, Rd.mt_spl, Rd.mt_par, Rd.mt_rpa, Rd.my_split, Rd.my_partition, Rd.my_rpartition, Rd.my_count, Rd.my_find, Rd.my_rfind, Rd.my_join, Rd.my_app, Rd.ty_non_int, Rd.ty_non_str, Rd.ty_non_bool, Rd.ty_non_tuple, Rd.ty_non_list, Rd.ty_bl_int, Rd.ty_bl_str, Rd.ty_bl_bool, Rd.ty_bl_tuple, Rd.ty_bl_list, Rd.ty_int_int, Rd.ty_int_str, Rd.ty_int_bool, Rd.ty_int_tuple, Rd.ty_int_list, Rd.ty_str_int, Rd.ty_str_str, Rd.ty_str_bool, Rd.ty_str_tuple, Rd.ty_str_list, Rd.ty_tup_int, Rd.ty_tup_str, Rd.ty_tup_bool, Rd.ty_tup_tuple, Rd.ty_tup_list, Rd.ty_fl_int, Rd.ty_fl_str, Rd.ty_fl_bool, Rd.ty_fl_tuple, Rd.ty_fl_list, Rd.fm_str, Rd.fm_int, Rd.it_t, Rd.it_f, Rd.it_s, Rd.it_r]
  exact drop_here q
theorem pl_is_between (ds : List D) (M : MH) (Q : KE) (h : sp_is_between ds M Q fun _ _ => False) : rB E0 c_is_between (endK Q) (startD n_is_between.length ds) M := by
  obtain ⟨v, lo, hi, rfl, q⟩ := h
  change rB E0 c_is_between (endK Q) [some (.int v), some (.int lo), some (.int hi)] M
  simp only [c_is_between, rB, rS, rE, rT, rO, rC, rX, rEs, rOX, rL, rWk, rG, rGs, rF, byT, lenT, endK, oflD, wipeD, List.getElem?_cons_zero, List.getElem?_cons_succ, List.set_cons_zero, List.set_cons_succ, Bool.not_true, Bool.not_false, Bool.false_eq_true, if_true, if_false, decide_true, decide_false, Bool.true_and, Bool.and_true, Bool.false_and, List.length_nil, List.length_cons, Nat.zero_add, Nat.reduceAdd, Rd.tr_bl, Rd.tr_non, Rd.tr_int, Rd.tr_str, Rd.tr_tup, Rd.tr_fl, Rd.tr_ref, Rd.eq_int, Rd.eq_str, Rd.eq_bl, Rd.sq_tup, Rd.sq_fl, Rd.sq_ref, Rd.cm_eq, Rd.cm_ne, Rd.cm_in, Rd.cm_ni, Rd.is_non, Rd.isn_non, Rd.is_bl, Rd.isn_bl, Rd.is_int, Rd.isn_int, Rd.is_str, Rd.isn_str, Rd.is_tup, Rd.isn_tup, Rd.is_fl, Rd.isn_fl, Rd.is_ref, Rd.isn_ref, Rd.cm_lt, Rd.cm_le, Rd.cm_gt, Rd.cm_ge, Rd.ix_tup, Rd.ix_fl, Rd.ix_str, Rd.ix_ref, Rd.sl_tup, Rd.sl_str, Rd.sl_fl, Rd.sl_ref, Rd.ln_str, Rd.ln_tup, Rd.ln_fl, Rd.ln_ref, Rd.nt_int, Rd.nt_str, Rd.st_int, Rd.ab_int, Rd.od_str, Rd.mx_int, Rd.mn_int, Rd.dm_int, Rd.tp_seq, Rd.ls_seq, Rd.rp_any, Rd.bn_ii, Rd.bn_ss, Rd.bn_tt, Rd.bn_rr, Rd.bn_sub, Rd.bn_mul, Rd.bn_fdv, Rd.bn_mod, Rd.bn_pow, Rd.mt_app, Rd.mt_joi, Rd.mt_spl, Rd.mt_par, Rd.mt_rpa, Rd.my_split, Rd.my_partition, Rd.my_rpartition, Rd.my_count, Rd.my_find, Rd.my_rfind, Rd.my_join, Rd.my_app, Rd.ty_non_int, Rd.ty_non_str, Rd.ty_non_bool, Rd.ty_non_tuple, Rd.ty_non_list, Rd.ty_bl_int, Rd.ty_bl_str, Rd.ty_bl_bool, Rd.ty_bl_tuple, Rd.ty_bl_list, Rd.ty_int_int, Rd.ty_int_str, Rd.ty_int_bool, Rd.ty_int_tuple, Rd.ty_int_list, Rd.ty_str_int, Rd.ty_str_str, Rd.ty_str_bool, Rd.ty_str_tuple, Rd.ty_str_list, Rd.ty_tup_int, Rd.ty_tup_str, Rd.ty_tup_bool, Rd.ty_tup_tuple, Rd.ty_tup_list, Rd.ty_fl_int, Rd.ty_fl_str, Rd.ty_fl_bool, Rd.ty_fl_tuple, Rd.ty_fl_list, Rd.fm_str, Rd.fm_int, Rd.it_t, Rd.it_f, Rd.it_s, Rd.it_r]
  refine ⟨v, rfl, ?_⟩
  simp only [rB, rS, rE, rT, rO, rC, rX, rEs, rOX, rL, rWk, rG, rGs, rF, byT, lenT, endK, oflD, wipeD, List.getElem?_cons_zero, List.getElem?_cons_succ, List.set_cons_zero, List.set_cons_succ, Bool.not_true, Bool.not_false, Bool.false_eq_true, if_true, if_false, decide_true, decide_false, Bool.true_and, Bool.and_true, Bool.false_and, List.length_nil, List.length_cons, Nat.zero_add, Nat.reduceAdd, Rd.tr_bl, Rd.tr_non, Rd.tr_int, Rd.tr_str, Rd.tr_tup, Rd.tr_fl, Rd.tr_ref, Rd.eq_int, Rd.eq_str, Rd.eq_bl, Rd.sq_tup, Rd.sq_fl, Rd.sq_ref, Rd.cm_eq, Rd.cm_ne, Rd.cm_in, Rd.cm_ni, Rd.is_non, Rd.isn_non, Rd.is_bl, Rd.isn_bl, Rd.is_int, Rd.isn_int, Rd.is_str, Rd.isn_str, Rd.is_tup, Rd.isn_tup, Rd.is_fl, Rd.isn_fl, Rd.is_ref, Rd.isn_ref, Rd.cm_lt, Rd.cm_le, Rd.cm_gt, Rd.cm_ge, Rd.ix_tup, Rd.ix_fl, Rd.ix_str, Rd.ix_ref, Rd.sl_tup, Rd.sl_str, Rd.sl_fl, Rd.sl_ref, Rd.ln_str, Rd.ln_tup, Rd.ln_fl, Rd.ln_ref, Rd.nt_int, Rd.nt_str, Rd.st_int, Rd.ab_int, Rd.od_str, Rd.mx_int, Rd.mn_int, Rd.dm_int, Rd.tp_seq, Rd.ls_seq, Rd.rp_any, Rd.bn_ii, Rd.bn_ss, Rd.bn_tt, Rd.bn_rr, Rd.bn_sub, Rd.bn_mul, Rd.bn_fdv, Rd.bn_mod, Rd.bn_pow, Rd.mt_app, Rd.mt_joi, Rd.mt_spl, Rd.mt_par, Rd.mt_rpa, Rd.my_split, Rd.my_partition, Rd.my_rpartition, Rd.my_count, Rd.my_find, Rd.my_rfind, Rd.my_join, Rd.my_app, Rd.ty_non_int, Rd.ty_non_str, Rd.ty_non_bool, Rd.ty_non_tuple, Rd.ty_non_list, Rd.ty_bl_int, Rd.ty_bl_str, Rd.ty_bl_bool, Rd.ty_bl_tuple, Rd.ty_bl_list, Rd.ty_int_int, Rd.ty_int_str, Rd.ty_int_bool, Rd.ty_int_tuple, Rd.ty_int_list, Rd.ty_str_int, Rd.ty_str_str, Rd.ty_str_bool, Rd.ty_str_tuple, Rd.ty_str_list, Rd.ty_tup_int, Rd.ty_tup_str, Rd.ty_tup_bool, Rd.ty_tup_tuple, Rd.ty_tup_list, Rd.ty_fl_int, Rd.ty_fl_str, Rd.ty_fl_bool, Rd.ty_fl_tuple, Rd.ty_fl_list, Rd.fm_str, Rd.fm_int, Rd.it_t, Rd.it_f, Rd.it_s, Rd.it_r]
  by_cases c : lo ≤ v
  · rw [if_pos (decide_eq_true c)]
    rw [decide_eq_true c, Bool.true_and] at q
    exact drop_here q
  · rw [if_neg (by simp [c])]
    rw [decide_eq_false c, Bool.false_and] at q
    exact drop_here q
theorem pl_is_tuple_up_to (ds : List D) (M : MH) (Q : KE) (h : sp_is_tuple_up_to ds M Q fun _ _ => False) : rB E0 c_is_tuple_up_to (endK Q) (startD n_is_tuple_up_to.length ds) M := by
  obtain ⟨xs, lo, hi, rfl, q⟩ := h
  change rB E0 c_is_tuple_up_to (endK Q) [some (.tup xs), some (.int lo), some (.int hi)] M
  simp only [c_is_tuple_up_to, rB, rS, rE, rT, rO, rC, rX, rEs, rOX, rL, rWk, rG, rGs, rF, byT, lenT, endK, oflD, wipeD, List.getElem?_cons_zero, List.getElem?_cons_succ, List.set_cons_zero, List.set_cons_succ, Bool.not_true, Bool.not_false, Bool.false_eq_true, if_true, if_false, decide_true, decide_false, Bool.true_and, Bool.and_true, Bool.false_and, List.length_nil, List.length_cons, Nat.zero_add, Nat.reduceAdd, Rd.tr_bl, Rd.tr_non, Rd.tr_int, Rd.tr_str, Rd.tr_tup, Rd.tr_fl, Rd.tr_ref, Rd.eq_int, Rd.eq_str, Rd.eq_bl, Rd.sq_tup, Rd.sq_fl, Rd.sq_ref, Rd.cm_eq, Rd.cm_ne, Rd.cm_in, Rd.cm_ni, Rd.is_non, Rd.isn_non, Rd.is_bl, Rd.isn_bl, Rd.is_int, Rd.isn_int, Rd.is_str, Rd.isn_str, Rd.is_tup, Rd.isn_tup, Rd.is_fl, Rd.isn_fl, Rd.is_ref, Rd.isn_ref, Rd.cm_lt, Rd.cm_le, Rd.cm_gt, Rd.cm_ge, Rd.ix_tup, Rd.ix_fl, Rd.ix_str, Rd.ix_ref, Rd.sl_tup, Rd.sl_str, Rd.sl_fl, Rd.sl_ref, Rd.ln_str, Rd.ln_tup, Rd.ln_fl, Rd.ln_ref, Rd.nt_int, Rd.nt_str, Rd.st_int, Rd.ab_int, Rd.od_str, Rd.mx_int, Rd.mn_int, Rd.dm_int, Rd.tp_seq, Rd.ls_seq, Rd.rp_any, Rd.bn_ii, Rd.bn_ss, Rd.bn_tt, Rd.bn_rr, Rd.bn_sub, Rd.bn_mul, Rd.bn_fdv, Rd.bn_mod, Rd.bn_pow, Rd.mt_app, Rd.mt_joi, Rd.mt_spl, Rd.mt_par, Rd.mt_rpa, Rd.my_split, Rd.my_partition, Rd.my_rpartition, Rd.my_count, Rd.my_find, Rd.my_rfind, Rd.my_join, Rd.my_app, Rd.ty_non_int, Rd.ty_non_str, Rd.ty_non_bool, Rd.ty_non_tuple, Rd.ty_non_list, Rd.ty_bl_int, Rd.ty_bl_str, Rd.ty_bl_bool, Rd.ty_bl_tuple, Rd.ty_bl_list, Rd.ty_int_int, Rd.ty_int_str, Rd.ty_int_bool, Rd.ty_int_tuple, Rd.ty_int_list, Rd.ty_str_int, Rd.ty_str_str, Rd.ty_str_bool, Rd.ty_str_tuple, Rd.ty_str_list, Rd.ty_tup_int, Rd.ty_tup_str, Rd.ty_tup_bool, Rd.ty_tup_tuple, Rd.ty_tup_list, Rd.ty_fl_int, Rd.ty_fl_str, Rd.ty_fl_bool, Rd.ty_fl_tuple, Rd.ty_fl_list, Rd.fm_str, Rd.fm_int, Rd.it_t, Rd.it_f, Rd.it_s, Rd.it_r]
  by_cases c : lo ≤ (xs.length : Int)
  · rw [if_pos (decide_eq_true c)]
    rw [decide_eq_true c, Bool.true_and] at q
    exact drop_here q
  · rw [if_neg (by simp [c])]
    rw [decide_eq_false c, Bool.false_and] at q
    exact drop_here q
theorem pl_is_short_path (ds : List D) (M : MH) (Q : KE) (h : sp_is_short_path ds M Q fun _ _ => False) : rB E0 c_is_short_path (endK Q) (startD n_is_short_path.length ds) M := by
  obtain ⟨s, rfl, ok, q⟩ := h
  change rB E0 c_is_short_path (endK Q) [some (.str s)] M
  have hz : s.length ≤ sizeLine := sz _ (by have := ok.2.1; omega)
  have e2 : (s.length : Int) ≤ 40 := by have := ok.2.1; omega
  simp only [c_is_short_path, rB, rS, rE, rT, rO, rC, rX, rEs, rOX, rL, rWk, rG, rGs, rF, byT, lenT, endK, oflD, wipeD, List.getElem?_cons_zero, List.getElem?_cons_succ, List.set_cons_zero, List.set_cons_succ, Bool.not_true, Bool.not_false, Bool.false_eq_true, if_true, if_false, decide_true, decide_false, Bool.true_and, Bool.and_true, Bool.false_and, List.length_nil, List.length_cons, Nat.zero_add, Nat.reduceAdd, Rd.tr_bl, Rd.tr_non, Rd.tr_int, Rd.tr_str, Rd.tr_tup, Rd.tr_fl, Rd.tr_ref, Rd.eq_int, Rd.eq_str, Rd.eq_bl, Rd.sq_tup, Rd.sq_fl, Rd.sq_ref, Rd.cm_eq, Rd.cm_ne, Rd.cm_in, Rd.cm_ni, Rd.is_non, Rd.isn_non, Rd.is_bl, Rd.isn_bl, Rd.is_int, Rd.isn_int, Rd.is_str, Rd.isn_str, Rd.is_tup, Rd.isn_tup, Rd.is_fl, Rd.isn_fl, Rd.is_ref, Rd.isn_ref, Rd.cm_lt, Rd.cm_le, Rd.cm_gt, Rd.cm_ge, Rd.ix_tup, Rd.ix_fl, Rd.ix_str, Rd.ix_ref, Rd.sl_tup, Rd.sl_str, Rd.sl_fl, Rd.sl_ref, Rd.ln_str, Rd.ln_tup, Rd.ln_fl, Rd.ln_ref, Rd.nt_int, Rd.nt_str, Rd.st_int, Rd.ab_int, Rd.od_str, Rd.mx_int, Rd.mn_int, Rd.dm_int, Rd.tp_seq, Rd.ls_seq, Rd.rp_any, Rd.bn_ii, Rd.bn_ss, Rd.bn_tt, Rd.bn_rr, Rd.bn_sub, Rd.bn_mul, Rd.bn_fdv, Rd.bn_mod, Rd.bn_pow, Rd.mt_app, Rd.mt_joi, Rd.mt_spl, Rd.mt_par, Rd.mt_rpa, Rd.my_split, Rd.my_partition, Rd.my_rpartition, Rd.my_count, Rd.my_find, Rd.my_rfind, Rd.my_join, Rd.my_app, Rd.ty_non_int, Rd.ty_non_str, Rd.ty_non_bool, Rd.ty_non_tuple, Rd.ty_non_list, Rd.ty_bl_int, Rd.ty_bl_str, Rd.ty_bl_bool, Rd.ty_bl_tuple, Rd.ty_bl_list, Rd.ty_int_int, Rd.ty_int_str, Rd.ty_int_bool, Rd.ty_int_tuple, Rd.ty_int_list, Rd.ty_str_int, Rd.ty_str_str, Rd.ty_str_bool, Rd.ty_str_tuple, Rd.ty_str_list, Rd.ty_tup_int, Rd.ty_tup_str, Rd.ty_tup_bool, Rd.ty_tup_tuple, Rd.ty_tup_list, Rd.ty_fl_int, Rd.ty_fl_str, Rd.ty_fl_bool, Rd.ty_fl_tuple, Rd.ty_fl_list, Rd.fm_str, Rd.fm_int, Rd.it_t, Rd.it_f, Rd.it_s, Rd.it_r]
  refine ⟨s, rfl, ok, ?_⟩
  simp only [rB, rS, rE, rT, rO, rC, rX, rEs, rOX, rL, rWk, rG, rGs, rF, byT, lenT, endK, oflD, wipeD, List.getElem?_cons_zero, List.getElem?_cons_succ, List.set_cons_zero, List.set_cons_succ, Bool.not_true, Bool.not_false, Bool.false_eq_true, if_true, if_false, decide_true, decide_false, Bool.true_and, Bool.and_true, Bool.false_and, List.length_nil, List.length_cons, Nat.zero_add, Nat.reduceAdd, Rd.tr_bl, Rd.tr_non, Rd.tr_int, Rd.tr_str, Rd.tr_tup, Rd.tr_fl, Rd.tr_ref, Rd.eq_int, Rd.eq_str, Rd.eq_bl, Rd.sq_tup, Rd.sq_fl, Rd.sq_ref, Rd.cm_eq, Rd.cm_ne, Rd.cm_in, Rd.cm_ni, Rd.is_non, Rd.isn_non, Rd.is_bl, Rd.isn_bl, Rd.is_int, Rd.isn_int, Rd.is_str, Rd.isn_str, Rd.is_tup, Rd.isn_tup, Rd.is_fl, Rd.isn_fl, Rd.is_ref, Rd.isn_ref, Rd.cm_lt, Rd.cm_le, Rd.cm_gt, Rd.cm_ge, Rd.ix_tup, Rd.ix_fl, Rd.ix_str, Rd.ix_ref, Rd.sl_tup, Rd.sl_str, Rd.sl_fl, Rd.sl_ref, Rd.ln_str, Rd.ln_tup, Rd.ln_fl, Rd.ln_ref, Rd.nt_int, Rd.nt_str, Rd.st_int, Rd.ab_int, Rd.od_str, Rd.mx_int, Rd.mn_int, Rd.dm_int, Rd.tp_seq, Rd.ls_seq, Rd.rp_any, Rd.bn_ii, Rd.bn_ss, Rd.bn_tt, Rd.bn_rr, Rd.bn_sub, Rd.bn_mul, Rd.bn_fdv, Rd.bn_mod, Rd.bn_pow, Rd.mt_app, Rd.mt_joi, Rd.mt_spl, Rd.mt_par, Rd.mt_rpa, Rd.my_split, Rd.my_partition, Rd.my_rpartition, Rd.my_count, Rd.my_find, Rd.my_rfind, Rd.my_join, Rd.my_app, Rd.ty_non_int, Rd.ty_non_str, Rd.ty_non_bool, Rd.ty_non_tuple, Rd.ty_non_list, Rd.ty_bl_int, Rd.ty_bl_str, Rd.ty_bl_bool, Rd.ty_bl_tuple, Rd.ty_bl_list, Rd.ty_int_int, Rd.ty_int_str, Rd.ty_int_bool, Rd.ty_int_tuple, Rd.ty_int_list, Rd.ty_str_int, Rd.ty_str_str, Rd.ty_str_bool, Rd.ty_str_tuple, Rd.ty_str_list, Rd.ty_tup_int, Rd.ty_tup_str, Rd.ty_tup_bool, Rd.ty_tup_tuple, Rd.ty_tup_list, Rd.ty_fl_int, Rd.ty_fl_str, Rd.ty_fl_bool, Rd.ty_fl_tuple, Rd.ty_fl_list, Rd.fm_str, Rd.fm_int, Rd.it_t, Rd.it_f, Rd.it_s, Rd.it_r, hz, true_and, e2]
  exact drop_here q
theorem pl_is_address (ds : List D) (M : MH) (Q : KE) (h : sp_is_address ds M Q fun _ _ => False) : rB E0 c_is_address (endK Q) (startD n_is_address.length ds) M := by
  obtain ⟨⟨a, b⟩, rfl, ok, q⟩ := h
  change rB E0 c_is_address (endK Q) [some (.tup [.str a, .str b])] M
  simp only [c_is_address, rB, rS, rE, rT, rO, rC, rX, rEs, rOX, rL, rWk, rG, rGs, rF, byT, lenT, endK, oflD, wipeD, List.getElem?_cons_zero, List.getElem?_cons_succ, List.set_cons_zero, List.set_cons_succ, Bool.not_true, Bool.not_false, Bool.false_eq_true, if_true, if_false, decide_true, decide_false, Bool.true_and, Bool.and_true, Bool.false_and, List.length_nil, List.length_cons, Nat.zero_add, Nat.reduceAdd, Rd.tr_bl, Rd.tr_non, Rd.tr_int, Rd.tr_str, Rd.tr_tup, Rd.tr_fl, Rd.tr_ref, Rd.eq_int, Rd.eq_str, Rd.eq_bl, Rd.sq_tup, Rd.sq_fl, Rd.sq_ref, Rd.cm_eq, Rd.cm_ne, Rd.cm_in, Rd.cm_ni, Rd.is_non, Rd.isn_non, Rd.is_bl, Rd.isn_bl, Rd.is_int, Rd.isn_int, Rd.is_str, Rd.isn_str, Rd.is_tup, Rd.isn_tup, Rd.is_fl, Rd.isn_fl, Rd.is_ref, Rd.isn_ref, Rd.cm_lt, Rd.cm_le, Rd.cm_gt, Rd.cm_ge, Rd.ix_tup, Rd.ix_fl, Rd.ix_str, Rd.ix_ref, Rd.sl_tup, Rd.sl_str, Rd.sl_fl, Rd.sl_ref, Rd.ln_str, Rd.ln_tup, Rd.ln_fl, Rd.ln_ref, Rd.nt_int, Rd.nt_str, Rd.st_int, Rd.ab_int, Rd.od_str, Rd.mx_int, Rd.mn_int, Rd.dm_int, Rd.tp_seq, Rd.ls_seq, Rd.rp_any, Rd.bn_ii, Rd.bn_ss, Rd.bn_tt, Rd.bn_rr, Rd.bn_sub, Rd.bn_mul, Rd.bn_fdv, Rd.bn_mod, Rd.bn_pow, Rd.mt_app, Rd.mt_joi, Rd.mt_spl, Rd.mt_par, Rd.mt_rpa, Rd.my_split, Rd.my_partition, Rd.my_rpartition, Rd.my_count, Rd.my_find, Rd.my_rfind, Rd.my_join, Rd.my_app, Rd.ty_non_int, Rd.ty_non_str, Rd.ty_non_bool, Rd.ty_non_tuple, Rd.ty_non_list, Rd.ty_bl_int, Rd.ty_bl_str, Rd.ty_bl_bool, Rd.ty_bl_tuple, Rd.ty_bl_list, Rd.ty_int_int, Rd.ty_int_str, Rd.ty_int_bool, Rd.ty_int_tuple, Rd.ty_int_list, Rd.ty_str_int, Rd.ty_str_str, Rd.ty_str_bool, Rd.ty_str_tuple, Rd.ty_str_list, Rd.ty_tup_int, Rd.ty_tup_str, Rd.ty_tup_bool, Rd.ty_tup_tuple, Rd.ty_tup_list, Rd.ty_fl_int, Rd.ty_fl_str, Rd.ty_fl_bool, Rd.ty_fl_tuple, Rd.ty_fl_list, Rd.fm_str, Rd.fm_int, Rd.it_t, Rd.it_f, Rd.it_s, Rd.it_r]
  refine ⟨_, _, _, rfl, ?_⟩
  simp only [rB, rS, rE, rT, rO, rC, rX, rEs, rOX, rL, rWk, rG, rGs, rF, byT, lenT, endK, oflD, wipeD, List.getElem?_cons_zero, List.getElem?_cons_succ, List.set_cons_zero, List.set_cons_succ, Bool.not_true, Bool.not_false, Bool.false_eq_true, if_true, if_false, decide_true, decide_false, Bool.true_and, Bool.and_true, Bool.false_and, List.length_nil, List.length_cons, Nat.zero_add, Nat.reduceAdd, Rd.tr_bl, Rd.tr_non, Rd.tr_int, Rd.tr_str, Rd.tr_tup, Rd.tr_fl, Rd.tr_ref, Rd.eq_int, Rd.eq_str, Rd.eq_bl, Rd.sq_tup, Rd.sq_fl, Rd.sq_ref, Rd.cm_eq, Rd.cm_ne, Rd.cm_in, Rd.cm_ni, Rd.is_non, Rd.isn_non, Rd.is_bl, Rd.isn_bl, Rd.is_int, Rd.isn_int, Rd.is_str, Rd.isn_str, Rd.is_tup, Rd.isn_tup, Rd.is_fl, Rd.isn_fl, Rd.is_ref, Rd.isn_ref, Rd.cm_lt, Rd.cm_le, Rd.cm_gt, Rd.cm_ge, Rd.ix_tup, Rd.ix_fl, Rd.ix_str, Rd.ix_ref, Rd.sl_tup, Rd.sl_str, Rd.sl_fl, Rd.sl_ref, Rd.ln_str, Rd.ln_tup, Rd.ln_fl, Rd.ln_ref, Rd.nt_int, Rd.nt_str, Rd.st_int, Rd.ab_int, Rd.od_str, Rd.mx_int, Rd.mn_int, Rd.dm_int, Rd.tp_seq, Rd.ls_seq, Rd.rp_any, Rd.bn_ii, Rd.bn_ss, Rd.bn_tt, Rd.bn_rr, Rd.bn_sub, Rd.bn_mul, Rd.bn_fdv, Rd.bn_mod, Rd.bn_pow, Rd.mt_app, Rd.mt_joi, Rd.mt_spl, Rd.mt_par, Rd.mt_rpa, Rd.my_split, Rd.my_partition, Rd.my_rpartition, Rd.my_count, Rd.my_find, Rd.my_rfind, Rd.my_join, Rd.my_app, Rd.ty_non_int, Rd.ty_non_str, Rd.ty_non_bool, Rd.ty_non_tuple, Rd.ty_non_list, Rd.ty_bl_int, Rd.ty_bl_str, Rd.ty_bl_bool, Rd.ty_bl_tuple, Rd.ty_bl_list, Rd.ty_int_int, Rd.ty_int_str, Rd.ty_int_bool, Rd.ty_int_tuple, Rd.ty_int_list, Rd.ty_str_int, Rd.ty_str_str, Rd.ty_str_bool, Rd.ty_str_tuple, Rd.ty_str_list, Rd.ty_tup_int, Rd.ty_tup_str, Rd.ty_tup_bool, Rd.ty_tup_tuple, Rd.ty_tup_list, Rd.ty_fl_int, Rd.ty_fl_str, Rd.ty_fl_bool, Rd.ty_fl_tuple, Rd.ty_fl_list, Rd.fm_str, Rd.fm_int, Rd.it_t, Rd.it_f, Rd.it_s, Rd.it_r, at0, at1, List.getElem?_cons_zero, Option.some.injEq, exists_eq_left']
  refine ⟨a, rfl, ok.1, ?_⟩
  simp only [rB, rS, rE, rT, rO, rC, rX, rEs, rOX, rL, rWk, rG, rGs, rF, byT, lenT, endK, oflD, wipeD, List.getElem?_cons_zero, List.getElem?_cons_succ, List.set_cons_zero, List.set_cons_succ, Bool.not_true, Bool.not_false, Bool.false_eq_true, if_true, if_false, decide_true, decide_false, Bool.true_and, Bool.and_true, Bool.false_and, List.length_nil, List.length_cons, Nat.zero_add, Nat.reduceAdd, Rd.tr_bl, Rd.tr_non, Rd.tr_int, Rd.tr_str, Rd.tr_tup, Rd.tr_fl, Rd.tr_ref, Rd.eq_int, Rd.eq_str, Rd.eq_bl, Rd.sq_tup, Rd.sq_fl, Rd.sq_ref, Rd.cm_eq, Rd.cm_ne, Rd.cm_in, Rd.cm_ni, Rd.is_non, Rd.isn_non, Rd.is_bl, Rd.isn_bl, Rd.is_int, Rd.isn_int, Rd.is_str, Rd.isn_str, Rd.is_tup, Rd.isn_tup, Rd.is_fl, Rd.isn_fl, Rd.is_ref, Rd.isn_ref, Rd.cm_lt, Rd.cm_le, Rd.cm_gt, Rd.cm_ge, Rd.ix_tup, Rd.ix_fl, Rd.ix_str, Rd.ix_ref, Rd.sl_tup, Rd.sl_str, Rd.sl_fl, Rd.sl_ref, Rd.ln_str, Rd.ln_tup, Rd.ln_fl, Rd.ln_ref, Rd.nt_int, Rd.nt_str, Rd.st_int, Rd.ab_int, Rd.od_str, Rd.mx_int, Rd.mn_int, Rd.dm_int, Rd.tp_seq, Rd.ls_seq, Rd.rp_any, Rd.bn_ii, Rd.bn_ss, Rd.bn_tt, Rd.bn_rr, Rd.bn_sub, Rd.bn_mul, Rd.bn_fdv, Rd.bn_mod, Rd.bn_pow, Rd.mt_app, Rd.mt_joi, Rd.mt_spl, Rd.mt_par, Rd.mt_rpa, Rd.my_split, Rd.my_partition, Rd.my_rpartition, Rd.my_count, Rd.my_find, Rd.my_rfind, Rd.my_join, Rd.my_app, Rd.ty_non_int, Rd.ty_non_str, Rd.ty_non_bool, Rd.ty_non_tuple, Rd.ty_non_list, Rd.ty_bl_int, Rd.ty_bl_str, Rd.ty_bl_bool, Rd.ty_bl_tuple, Rd.ty_bl_list, Rd.ty_int_int, Rd.ty_int_str, Rd.ty_int_bool, Rd.ty_int_tuple, Rd.ty_int_list, Rd.ty_str_int, Rd.ty_str_str, Rd.ty_str_bool, Rd.ty_str_tuple, Rd.ty_str_list, Rd.ty_tup_int, Rd.ty_tup_str, Rd.ty_tup_bool, Rd.ty_tup_tuple, Rd.ty_tup_list, Rd.ty_fl_int, Rd.ty_fl_str, Rd.ty_fl_bool, Rd.ty_fl_tuple, Rd.ty_fl_list, Rd.fm_str, Rd.fm_int, Rd.it_t, Rd.it_f, Rd.it_s, Rd.it_r]
  exact ⟨b, rfl, ok.2, drop_here q⟩
theorem pl_text_of (ds : List D) (M : MH) (Q : KE) (h : sp_text_of ds M Q fun _ _ => False) : rB E0 c_text_of (endK Q) (startD n_text_of.length ds) M := by
  obtain ⟨⟨a, b⟩, rfl, ok, q⟩ := h
  change rB E0 c_text_of (endK Q) [some (.tup [.str a, .str b])] M
  simp only [c_text_of, rB, rS, rE, rT, rO, rC, rX, rEs, rOX, rL, rWk, rG, rGs, rF, byT, lenT, endK, oflD, wipeD, List.getElem?_cons_zero, List.getElem?_cons_succ, List.set_cons_zero, List.set_cons_succ, Bool.not_true, Bool.not_false, Bool.false_eq_true, if_true, if_false, decide_true, decide_false, Bool.true_and, Bool.and_true, Bool.false_and, List.length_nil, List.length_cons, Nat.zero_add, Nat.reduceAdd, Rd.tr_bl, Rd.tr_non, Rd.tr_int, Rd.tr_str, Rd.tr_tup, Rd.tr_fl, Rd.tr_ref, Rd.eq_int, Rd.eq_str, Rd.eq_bl, Rd.sq_tup, Rd.sq_fl, Rd.sq_ref, Rd.cm_eq, Rd.cm_ne, Rd.cm_in, Rd.cm_ni, Rd.is_non, Rd.isn_non, Rd.is_bl, Rd.isn_bl, Rd.is_int, Rd.isn_int, Rd.is_str, Rd.isn_str, Rd.is_tup, Rd.isn_tup, Rd.is_fl, Rd.isn_fl, Rd.is_ref, Rd.isn_ref, Rd.cm_lt, Rd.cm_le, Rd.cm_gt, Rd.cm_ge, Rd.ix_tup, Rd.ix_fl, Rd.ix_str, Rd.ix_ref, Rd.sl_tup, Rd.sl_str, Rd.sl_fl, Rd.sl_ref, Rd.ln_str, Rd.ln_tup, Rd.ln_fl, Rd.ln_ref, Rd.nt_int, Rd.nt_str, Rd.st_int, Rd.ab_int, Rd.od_str, Rd.mx_int, Rd.mn_int, Rd.dm_int, Rd.tp_seq, Rd.ls_seq, Rd.rp_any, Rd.bn_ii, Rd.bn_ss, Rd.bn_tt, Rd.bn_rr, Rd.bn_sub, Rd.bn_mul, Rd.bn_fdv, Rd.bn_mod, Rd.bn_pow, Rd.mt_app, Rd.mt_joi, Rd.mt_spl, Rd.mt_par, Rd.mt_rpa, Rd.my_split, Rd.my_partition, Rd.my_rpartition, Rd.my_count, Rd.my_find, Rd.my_rfind, Rd.my_join, Rd.my_app, Rd.ty_non_int, Rd.ty_non_str, Rd.ty_non_bool, Rd.ty_non_tuple, Rd.ty_non_list, Rd.ty_bl_int, Rd.ty_bl_str, Rd.ty_bl_bool, Rd.ty_bl_tuple, Rd.ty_bl_list, Rd.ty_int_int, Rd.ty_int_str, Rd.ty_int_bool, Rd.ty_int_tuple, Rd.ty_int_list, Rd.ty_str_int, Rd.ty_str_str, Rd.ty_str_bool, Rd.ty_str_tuple, Rd.ty_str_list, Rd.ty_tup_int, Rd.ty_tup_str, Rd.ty_tup_bool, Rd.ty_tup_tuple, Rd.ty_tup_list, Rd.ty_fl_int, Rd.ty_fl_str, Rd.ty_fl_bool, Rd.ty_fl_tuple, Rd.ty_fl_list, Rd.fm_str, Rd.fm_int, Rd.it_t, Rd.it_f, Rd.it_s, Rd.it_r, at0, at1, Option.some.injEq, exists_eq_left']
  refine ⟨sz _ ?_, drop_here q⟩
  have h1 := ok.1.2.1
  have h2 := ok.2.2.1
  show a.length + b.length ≤ _
  simp only at h1 h2
  omega
theorem pl_is_moment (ds : List D) (M : MH) (Q : KE) (h : sp_is_moment ds M Q fun _ _ => False) : rB E0 c_is_moment (endK Q) (startD n_is_moment.length ds) M := by
  obtain ⟨n, rfl, hn, q⟩ := h
  change rB E0 c_is_moment (endK Q) [some (.int n)] M
  simp only [c_is_moment, rB, rS, rE, rT, rO, rC, rX, rEs, rOX, rL, rWk, rG, rGs, rF, byT, lenT, endK, oflD, wipeD, List.getElem?_cons_zero, List.getElem?_cons_succ, List.set_cons_zero, List.set_cons_succ, Bool.not_true, Bool.not_false, Bool.false_eq_true, if_true, if_false, decide_true, decide_false, Bool.true_and, Bool.and_true, Bool.false_and, List.length_nil, List.length_cons, Nat.zero_add, Nat.reduceAdd, Rd.tr_bl, Rd.tr_non, Rd.tr_int, Rd.tr_str, Rd.tr_tup, Rd.tr_fl, Rd.tr_ref, Rd.eq_int, Rd.eq_str, Rd.eq_bl, Rd.sq_tup, Rd.sq_fl, Rd.sq_ref, Rd.cm_eq, Rd.cm_ne, Rd.cm_in, Rd.cm_ni, Rd.is_non, Rd.isn_non, Rd.is_bl, Rd.isn_bl, Rd.is_int, Rd.isn_int, Rd.is_str, Rd.isn_str, Rd.is_tup, Rd.isn_tup, Rd.is_fl, Rd.isn_fl, Rd.is_ref, Rd.isn_ref, Rd.cm_lt, Rd.cm_le, Rd.cm_gt, Rd.cm_ge, Rd.ix_tup, Rd.ix_fl, Rd.ix_str, Rd.ix_ref, Rd.sl_tup, Rd.sl_str, Rd.sl_fl, Rd.sl_ref, Rd.ln_str, Rd.ln_tup, Rd.ln_fl, Rd.ln_ref, Rd.nt_int, Rd.nt_str, Rd.st_int, Rd.ab_int, Rd.od_str, Rd.mx_int, Rd.mn_int, Rd.dm_int, Rd.tp_seq, Rd.ls_seq, Rd.rp_any, Rd.bn_ii, Rd.bn_ss, Rd.bn_tt, Rd.bn_rr, Rd.bn_sub, Rd.bn_mul, Rd.bn_fdv, Rd.bn_mod, Rd.bn_pow, Rd.mt_app, Rd.mt_joi, Rd.mt_spl, Rd.mt_par, Rd.mt_rpa, Rd.my_split, Rd.my_partition, Rd.my_rpartition, Rd.my_count, Rd.my_find, Rd.my_rfind, Rd.my_join, Rd.my_app, Rd.ty_non_int, Rd.ty_non_str, Rd.ty_non_bool, Rd.ty_non_tuple, Rd.ty_non_list, Rd.ty_bl_int, Rd.ty_bl_str, Rd.ty_bl_bool, Rd.ty_bl_tuple, Rd.ty_bl_list, Rd.ty_int_int, Rd.ty_int_str, Rd.ty_int_bool, Rd.ty_int_tuple, Rd.ty_int_list, Rd.ty_str_int, Rd.ty_str_str, Rd.ty_str_bool, Rd.ty_str_tuple, Rd.ty_str_list, Rd.ty_tup_int, Rd.ty_tup_str, Rd.ty_tup_bool, Rd.ty_tup_tuple, Rd.ty_tup_list, Rd.ty_fl_int, Rd.ty_fl_str, Rd.ty_fl_bool, Rd.ty_fl_tuple, Rd.ty_fl_list, Rd.fm_str, Rd.fm_int, Rd.it_t, Rd.it_f, Rd.it_s, Rd.it_r]
  refine ⟨_, _, _, rfl, ?_⟩
  rw [decide_eq_true (by omega), decide_eq_true (by omega)]
  exact drop_here q
end Jn
namespace Jn
open PySem PySem.Spec PyProof.Rows L2 Mx TL
theorem ofS_inj {s t : String} : (Str.ofString s = Str.ofString t) = (s = t) := by
  refine propext ⟨fun h => ?_, fun h => by rw [h]⟩
  have e := congrArg tl h
  rw [tl_ofString, tl_ofString] at e
  have inj : ∀ {a b : List Char}, a.map Char.toNat = b.map Char.toNat → a = b := by
    intro a
    induction a with
    | nil => intro b h; cases b <;> first | rfl | cases h
    | cons x xs ih =>
      intro b h
      cases b with
      | nil => cases h
      | cons y ys =>
        rw [List.map_cons, List.map_cons] at h
        injection h with h1 h2
        rw [ih h2, Char.toNat_inj.mp h1]
  exact String.toList_inj.mp (inj e)
theorem eqv_str (a b : Str) : PyData.eqv (.str a) (.str b) = decide (a = b) := by
  unfold PyData.eqv
  by_cases h : a = b <;> simp [h]
theorem in2 {s a b : Str} {M : MH} {k : Bool → Prop} : inD (.str s) (.tup [.str a, .str b]) M k = k (decide (a = s) || decide (b = s)) := by
  refine propext ⟨fun ⟨pa, pbs, e1, e2, h⟩ => ?_, fun h => ⟨.str s, [.str a, .str b], rfl, rfl, ?_⟩⟩
  · cases (show some (PyData.str s) = some pa from e1)
    cases (show some [PyData.str a, PyData.str b] = some pbs from e2)
    simpa [eqv_str] using h
  · simpa [eqv_str] using h
theorem in3 {s a b c : Str} {M : MH} {k : Bool → Prop} : inD (.str s) (.tup [.str a, .str b, .str c]) M k = k (decide (a = s) || (decide (b = s) || decide (c = s))) := by
  refine propext ⟨fun ⟨pa, pbs, e1, e2, h⟩ => ?_, fun h => ⟨.str s, [.str a, .str b, .str c], rfl, rfl, ?_⟩⟩
  · cases (show some (PyData.str s) = some pa from e1)
    cases (show some [PyData.str a, PyData.str b, PyData.str c] = some pbs from e2)
    simpa [eqv_str] using h
  · simpa [eqv_str] using h
theorem mapM_strs (M : MH) (n : Nat) : ∀ ss : List Str, (ss.map D.str).mapM (pyOf M (n + 1)) = some (ss.map PyData.str)
  | [] => rfl
  | s :: ss => by
    rw [List.map_cons, List.mapM_cons]
    show (do let y ← some (PyData.str s); let ys ← (ss.map D.str).mapM (pyOf M (n + 1)); pure (y :: ys)) = _
    rw [mapM_strs M n ss]
    rfl
theorem eqv_strs : ∀ ss ts : List Str, PyData.eqvAll (ss.map .str) (ts.map .str) = decide (ss = ts)
  | [], [] => by simp [PyData.eqvAll]
  | [], _ :: _ => by simp [PyData.eqvAll]
  | _ :: _, [] => by simp [PyData.eqvAll]
  | s :: ss, t :: ts => by
    rw [List.map_cons, List.map_cons]
    unfold PyData.eqvAll
    rw [eqv_str, eqv_strs ss ts]
    by_cases h1 : s = t <;> by_cases h2 : ss = ts <;> simp [h1, h2]
theorem eq_lsts {p r : Addr} {M : MH} {ss ts : List Str} {k : Bool → Prop} (hp : M.get p = some (strsM ss)) (hr : M.get r = some (strsM ts)) (h : k (decide (ss = ts))) : eqD (.ref p) (.ref r) M k := by
  refine ⟨.list (ss.map .str), .list (ts.map .str), ?_, ?_, ?_⟩
  · show (match M.get p with | some (.lst ds) => (ds.mapM (pyOf M 39)).map PyData.list | _ => none) = _
    rw [hp]
    show ((ss.map D.str).mapM (pyOf M 39)).map PyData.list = _
    rw [mapM_strs]
    rfl
  · show (match M.get r with | some (.lst ds) => (ds.mapM (pyOf M 39)).map PyData.list | _ => none) = _
    rw [hr]
    show ((ts.map D.str).mapM (pyOf M 39)).map PyData.list = _
    rw [mapM_strs]
    rfl
  · have e : PyData.eqv (.list (ss.map .str)) (.list (ts.map .str)) = decide (ss = ts) := by
      rw [← eqv_strs ss ts]
      unfold PyData.eqv
      first | rfl | simp
    rw [e]
    exact h
theorem pl_are_links (ds : List D) (M : MH) (Q : KE) (h : sp_are_links ds M Q fun _ _ => False) : rB E0 c_are_links (endK Q) (startD n_are_links.length ds) M := by
  obtain ⟨ls, rfl, hl, ok, q⟩ := h
  change rB E0 c_are_links (endK Q) [some (.tup (ls.map adD)), none] M
  simp only [c_are_links, rB, rS, rE, rT, rO, rC, rX, rEs, rOX, rL, rWk, rG, rGs, rF, byT, lenT, endK, oflD, wipeD, List.getElem?_cons_zero, List.getElem?_cons_succ, List.set_cons_zero, List.set_cons_succ, Bool.not_true, Bool.not_false, Bool.false_eq_true, if_true, if_false, decide_true, decide_false, Bool.true_and, Bool.and_true, Bool.false_and, List.length_nil, List.length_cons, Nat.zero_add, Nat.reduceAdd, Rd.tr_bl, Rd.tr_non, Rd.tr_int, Rd.tr_str, Rd.tr_tup, Rd.tr_fl, Rd.tr_ref, Rd.eq_int, Rd.eq_str, Rd.eq_bl, Rd.sq_tup, Rd.sq_fl, Rd.sq_ref, Rd.cm_eq, Rd.cm_ne, Rd.cm_in, Rd.cm_ni, Rd.is_non, Rd.isn_non, Rd.is_bl, Rd.isn_bl, Rd.is_int, Rd.isn_int, Rd.is_str, Rd.isn_str, Rd.is_tup, Rd.isn_tup, Rd.is_fl, Rd.isn_fl, Rd.is_ref, Rd.isn_ref, Rd.cm_lt, Rd.cm_le, Rd.cm_gt, Rd.cm_ge, Rd.ix_tup, Rd.ix_fl, Rd.ix_str, Rd.ix_ref, Rd.sl_tup, Rd.sl_str, Rd.sl_fl, Rd.sl_ref, Rd.ln_str, Rd.ln_tup, Rd.ln_fl, Rd.ln_ref, Rd.nt_int, Rd.nt_str, Rd.st_int, Rd.ab_int, Rd.od_str, Rd.mx_int, Rd.mn_int, Rd.dm_int, Rd.tp_seq, Rd.ls_seq, Rd.rp_any, Rd.bn_ii, Rd.bn_ss, Rd.bn_tt, Rd.bn_rr, Rd.bn_sub, Rd.bn_mul, Rd.bn_fdv, Rd.bn_mod, Rd.bn_pow, Rd.mt_app, Rd.mt_joi, Rd.mt_spl, Rd.mt_par, Rd.mt_rpa, Rd.my_split, Rd.my_partition, Rd.my_rpartition, Rd.my_count, Rd.my_find, Rd.my_rfind, Rd.my_join, Rd.my_app, Rd.ty_non_int, Rd.ty_non_str, Rd.ty_non_bool, Rd.ty_non_tuple, Rd.ty_non_list, Rd.ty_bl_int, Rd.ty_bl_str, Rd.ty_bl_bool, Rd.ty_bl_tuple, Rd.ty_bl_list, Rd.ty_int_int, Rd.ty_int_str, Rd.ty_int_bool, Rd.ty_int_tuple, Rd.ty_int_list, Rd.ty_str_int, Rd.ty_str_str, Rd.ty_str_bool, Rd.ty_str_tuple, Rd.ty_str_list, Rd.ty_tup_int, Rd.ty_tup_str, Rd.ty_tup_bool, Rd.ty_tup_tuple, Rd.ty_tup_list, Rd.ty_fl_int, Rd.ty_fl_str, Rd.ty_fl_bool, Rd.ty_fl_tuple, Rd.ty_fl_list, Rd.fm_str, Rd.fm_int, Rd.it_t, Rd.it_f, Rd.it_s, Rd.it_r]
  refine ⟨_, _, _, rfl, ?_⟩
  rw [decide_eq_true (show (0 : Int) ≤ _ by omega), decide_eq_true (show _ ≤ (6 : Int) by rw [List.length_map]; omega)]
  simp only [rB, rS, rE, rT, rO, rC, rX, rEs, rOX, rL, rWk, rG, rGs, rF, byT, lenT, endK, oflD, wipeD, List.getElem?_cons_zero, List.getElem?_cons_succ, List.set_cons_zero, List.set_cons_succ, Bool.not_true, Bool.not_false, Bool.false_eq_true, if_true, if_false, decide_true, decide_false, Bool.true_and, Bool.and_true, Bool.false_and, List.length_nil, List.length_cons, Nat.zero_add, Nat.reduceAdd, Rd.tr_bl, Rd.tr_non, Rd.tr_int, Rd.tr_str, Rd.tr_tup, Rd.tr_fl, Rd.tr_ref, Rd.eq_int, Rd.eq_str, Rd.eq_bl, Rd.sq_tup, Rd.sq_fl, Rd.sq_ref, Rd.cm_eq, Rd.cm_ne, Rd.cm_in, Rd.cm_ni, Rd.is_non, Rd.isn_non, Rd.is_bl, Rd.isn_bl, Rd.is_int, Rd.isn_int, Rd.is_str, Rd.isn_str, Rd.is_tup, Rd.isn_tup, Rd.is_fl, Rd.isn_fl, Rd.is_ref, Rd.isn_ref, Rd.cm_lt, Rd.cm_le, Rd.cm_gt, Rd.cm_ge, Rd.ix_tup, Rd.ix_fl, Rd.ix_str, Rd.ix_ref, Rd.sl_tup, Rd.sl_str, Rd.sl_fl, Rd.sl_ref, Rd.ln_str, Rd.ln_tup, Rd.ln_fl, Rd.ln_ref, Rd.nt_int, Rd.nt_str, Rd.st_int, Rd.ab_int, Rd.od_str, Rd.mx_int, Rd.mn_int, Rd.dm_int, Rd.tp_seq, Rd.ls_seq, Rd.rp_any, Rd.bn_ii, Rd.bn_ss, Rd.bn_tt, Rd.bn_rr, Rd.bn_sub, Rd.bn_mul, Rd.bn_fdv, Rd.bn_mod, Rd.bn_pow, Rd.mt_app, Rd.mt_joi, Rd.mt_spl, Rd.mt_par, Rd.mt_rpa, Rd.my_split, Rd.my_partition, Rd.my_rpartition, Rd.my_count, Rd.my_find, Rd.my_rfind, Rd.my_join, Rd.my_app, Rd.ty_non_int, Rd.ty_non_str, Rd.ty_non_bool, Rd.ty_non_tuple, Rd.ty_non_list, Rd.ty_bl_int, Rd.ty_bl_str, Rd.ty_bl_bool, Rd.ty_bl_tuple, Rd.ty_bl_list, Rd.ty_int_int, Rd.ty_int_str, Rd.ty_int_bool, Rd.ty_int_tuple, Rd.ty_int_list, Rd.ty_str_int, Rd.ty_str_str, Rd.ty_str_bool, Rd.ty_str_tuple, Rd.ty_str_list, Rd.ty_tup_int, Rd.ty_tup_str, Rd.ty_tup_bool, Rd.ty_tup_tuple, Rd.ty_tup_list, Rd.ty_fl_int, Rd.ty_fl_str, Rd.ty_fl_bool, Rd.ty_fl_tuple, Rd.ty_fl_list, Rd.fm_str, Rd.fm_int, Rd.it_t, Rd.it_f, Rd.it_s, Rd.it_r]
  refine gather_map (fun _ => .bl true) _ trivial (by rw [List.length_map]; exact sz _ (by omega)) (fun d hd k hk => ?_) ?_
  · obtain ⟨a, ha, rfl⟩ := List.mem_map.mp hd
    exact ⟨a, rfl, ok a ha, hk⟩
  · obtain ⟨bs, e, hb⟩ := all_true (ls.map adD)
    refine ⟨bs, e, ?_⟩
    rw [hb]
    exact drop_here q
theorem pl_is_some_answer (ds : List D) (M : MH) (Q : KE) (h : sp_is_some_answer ds M Q fun _ _ => False) : rB E0 c_is_some_answer (endK Q) (startD n_is_some_answer.length ds) M := by
  obtain ⟨e, rfl, ok, ia, q⟩ := h
  cases e with
  | ask => exact ia.elim
  | lost => exact ia.elim
  | cut => exact ia.elim
  | gone =>
    change rB E0 c_is_some_answer (endK Q) [some (.tup [.str "gone"])] M
    simp only [c_is_some_answer, rB, rS, rE, rT, rO, rC, rX, rEs, rOX, rL, rWk, rG, rGs, rF, byT, lenT, endK, oflD, wipeD, List.getElem?_cons_zero, List.getElem?_cons_succ, List.set_cons_zero, List.set_cons_succ, Bool.not_true, Bool.not_false, Bool.false_eq_true, if_true, if_false, decide_true, decide_false, Bool.true_and, Bool.and_true, Bool.false_and, List.length_nil, List.length_cons, Nat.zero_add, Nat.reduceAdd, Rd.tr_bl, Rd.tr_non, Rd.tr_int, Rd.tr_str, Rd.tr_tup, Rd.tr_fl, Rd.tr_ref, Rd.eq_int, Rd.eq_str, Rd.eq_bl, Rd.sq_tup, Rd.sq_fl, Rd.sq_ref, Rd.cm_eq, Rd.cm_ne, Rd.cm_in, Rd.cm_ni, Rd.is_non, Rd.isn_non, Rd.is_bl, Rd.isn_bl, Rd.is_int, Rd.isn_int, Rd.is_str, Rd.isn_str, Rd.is_tup, Rd.isn_tup, Rd.is_fl, Rd.isn_fl, Rd.is_ref, Rd.isn_ref, Rd.cm_lt, Rd.cm_le, Rd.cm_gt, Rd.cm_ge, Rd.ix_tup, Rd.ix_fl, Rd.ix_str, Rd.ix_ref, Rd.sl_tup, Rd.sl_str, Rd.sl_fl, Rd.sl_ref, Rd.ln_str, Rd.ln_tup, Rd.ln_fl, Rd.ln_ref, Rd.nt_int, Rd.nt_str, Rd.st_int, Rd.ab_int, Rd.od_str, Rd.mx_int, Rd.mn_int, Rd.dm_int, Rd.tp_seq, Rd.ls_seq, Rd.rp_any, Rd.bn_ii, Rd.bn_ss, Rd.bn_tt, Rd.bn_rr, Rd.bn_sub, Rd.bn_mul, Rd.bn_fdv, Rd.bn_mod, Rd.bn_pow, Rd.mt_app, Rd.mt_joi, Rd.mt_spl, Rd.mt_par, Rd.mt_rpa, Rd.my_split, Rd.my_partition, Rd.my_rpartition, Rd.my_count, Rd.my_find, Rd.my_rfind, Rd.my_join, Rd.my_app, Rd.ty_non_int, Rd.ty_non_str, Rd.ty_non_bool, Rd.ty_non_tuple, Rd.ty_non_list, Rd.ty_bl_int, Rd.ty_bl_str, Rd.ty_bl_bool, Rd.ty_bl_tuple, Rd.ty_bl_list, Rd.ty_int_int, Rd.ty_int_str, Rd.ty_int_bool, Rd.ty_int_tuple, Rd.ty_int_list, Rd.ty_str_int, Rd.ty_str_str, Rd.ty_str_bool, Rd.ty_str_tuple, Rd.ty_str_list, Rd.ty_tup_int, Rd.ty_tup_str, Rd.ty_tup_bool, Rd.ty_tup_tuple, Rd.ty_tup_list, Rd.ty_fl_int, Rd.ty_fl_str, Rd.ty_fl_bool, Rd.ty_fl_tuple, Rd.ty_fl_list, Rd.fm_str, Rd.fm_int, Rd.it_t, Rd.it_f, Rd.it_s, Rd.it_r]
    refine ⟨_, _, _, rfl, ?_⟩
    simp [rB, rS, rE, rT, rO, rC, rX, rEs, rOX, rL, rWk, rG, rGs, rF, byT, lenT, endK, oflD, wipeD, List.getElem?_cons_zero, List.getElem?_cons_succ, List.set_cons_zero, List.set_cons_succ, Bool.not_true, Bool.not_false, Bool.false_eq_true, if_true, if_false, decide_true, decide_false, Bool.true_and, Bool.and_true, Bool.false_and, List.length_nil, List.length_cons, Nat.zero_add, Nat.reduceAdd, Rd.tr_bl, Rd.tr_non, Rd.tr_int, Rd.tr_str, Rd.tr_tup, Rd.tr_fl, Rd.tr_ref, Rd.eq_int, Rd.eq_str, Rd.eq_bl, Rd.sq_tup, Rd.sq_fl, Rd.sq_ref, Rd.cm_eq, Rd.cm_ne, Rd.cm_in, Rd.cm_ni, Rd.is_non, Rd.isn_non, Rd.is_bl, Rd.isn_bl, Rd.is_int, Rd.isn_int, Rd.is_str, Rd.isn_str, Rd.is_tup, Rd.isn_tup, Rd.is_fl, Rd.isn_fl, Rd.is_ref, Rd.isn_ref, Rd.cm_lt, Rd.cm_le, Rd.cm_gt, Rd.cm_ge, Rd.ix_tup, Rd.ix_fl, Rd.ix_str, Rd.ix_ref, Rd.sl_tup, Rd.sl_str, Rd.sl_fl, Rd.sl_ref, Rd.ln_str, Rd.ln_tup, Rd.ln_fl, Rd.ln_ref, Rd.nt_int, Rd.nt_str, Rd.st_int, Rd.ab_int, Rd.od_str, Rd.mx_int, Rd.mn_int, Rd.dm_int, Rd.tp_seq, Rd.ls_seq, Rd.rp_any, Rd.bn_ii, Rd.bn_ss, Rd.bn_tt, Rd.bn_rr, Rd.bn_sub, Rd.bn_mul, Rd.bn_fdv, Rd.bn_mod, Rd.bn_pow, Rd.mt_app, Rd.mt_joi, Rd.mt_spl, Rd.mt_par, Rd.mt_rpa, Rd.my_split, Rd.my_partition, Rd.my_rpartition, Rd.my_count, Rd.my_find, Rd.my_rfind, Rd.my_join, Rd.my_app, Rd.ty_non_int, Rd.ty_non_str, Rd.ty_non_bool, Rd.ty_non_tuple, Rd.ty_non_list, Rd.ty_bl_int, Rd.ty_bl_str, Rd.ty_bl_bool, Rd.ty_bl_tuple, Rd.ty_bl_list, Rd.ty_int_int, Rd.ty_int_str, Rd.ty_int_bool, Rd.ty_int_tuple, Rd.ty_int_list, Rd.ty_str_int, Rd.ty_str_str, Rd.ty_str_bool, Rd.ty_str_tuple, Rd.ty_str_list, Rd.ty_tup_int, Rd.ty_tup_str, Rd.ty_tup_bool, Rd.ty_tup_tuple, Rd.ty_tup_list, Rd.ty_fl_int, Rd.ty_fl_str, Rd.ty_fl_bool, Rd.ty_fl_tuple, Rd.ty_fl_list, Rd.fm_str, Rd.fm_int, Rd.it_t, Rd.it_f, Rd.it_s, Rd.it_r, sl0, sl1, sl2, sl3, sl4, sl5, sl6, true_and, at0, at1, at2, in2, in3, ofS_inj]
    exact drop_here q
  | moved a =>
    change rB E0 c_is_some_answer (endK Q) [some (.tup [.str "moved", adD a])] M
    simp only [c_is_some_answer, rB, rS, rE, rT, rO, rC, rX, rEs, rOX, rL, rWk, rG, rGs, rF, byT, lenT, endK, oflD, wipeD, List.getElem?_cons_zero, List.getElem?_cons_succ, List.set_cons_zero, List.set_cons_succ, Bool.not_true, Bool.not_false, Bool.false_eq_true, if_true, if_false, decide_true, decide_false, Bool.true_and, Bool.and_true, Bool.false_and, List.length_nil, List.length_cons, Nat.zero_add, Nat.reduceAdd, Rd.tr_bl, Rd.tr_non, Rd.tr_int, Rd.tr_str, Rd.tr_tup, Rd.tr_fl, Rd.tr_ref, Rd.eq_int, Rd.eq_str, Rd.eq_bl, Rd.sq_tup, Rd.sq_fl, Rd.sq_ref, Rd.cm_eq, Rd.cm_ne, Rd.cm_in, Rd.cm_ni, Rd.is_non, Rd.isn_non, Rd.is_bl, Rd.isn_bl, Rd.is_int, Rd.isn_int, Rd.is_str, Rd.isn_str, Rd.is_tup, Rd.isn_tup, Rd.is_fl, Rd.isn_fl, Rd.is_ref, Rd.isn_ref, Rd.cm_lt, Rd.cm_le, Rd.cm_gt, Rd.cm_ge, Rd.ix_tup, Rd.ix_fl, Rd.ix_str, Rd.ix_ref, Rd.sl_tup, Rd.sl_str, Rd.sl_fl, Rd.sl_ref, Rd.ln_str, Rd.ln_tup, Rd.ln_fl, Rd.ln_ref, Rd.nt_int, Rd.nt_str, Rd.st_int, Rd.ab_int, Rd.od_str, Rd.mx_int, Rd.mn_int, Rd.dm_int, Rd.tp_seq, Rd.ls_seq, Rd.rp_any, Rd.bn_ii, Rd.bn_ss, Rd.bn_tt, Rd.bn_rr, Rd.bn_sub, Rd.bn_mul, Rd.bn_fdv, Rd.bn_mod, Rd.bn_pow, Rd.mt_app, Rd.mt_joi, Rd.mt_spl, Rd.mt_par, Rd.mt_rpa, Rd.my_split, Rd.my_partition, Rd.my_rpartition, Rd.my_count, Rd.my_find, Rd.my_rfind, Rd.my_join, Rd.my_app, Rd.ty_non_int, Rd.ty_non_str, Rd.ty_non_bool, Rd.ty_non_tuple, Rd.ty_non_list, Rd.ty_bl_int, Rd.ty_bl_str, Rd.ty_bl_bool, Rd.ty_bl_tuple, Rd.ty_bl_list, Rd.ty_int_int, Rd.ty_int_str, Rd.ty_int_bool, Rd.ty_int_tuple, Rd.ty_int_list, Rd.ty_str_int, Rd.ty_str_str, Rd.ty_str_bool, Rd.ty_str_tuple, Rd.ty_str_list, Rd.ty_tup_int, Rd.ty_tup_str, Rd.ty_tup_bool, Rd.ty_tup_tuple, Rd.ty_tup_list, Rd.ty_fl_int, Rd.ty_fl_str, Rd.ty_fl_bool, Rd.ty_fl_tuple, Rd.ty_fl_list, Rd.fm_str, Rd.fm_int, Rd.it_t, Rd.it_f, Rd.it_s, Rd.it_r]
    refine ⟨_, _, _, rfl, ?_⟩
    simp [rB, rS, rE, rT, rO, rC, rX, rEs, rOX, rL, rWk, rG, rGs, rF, byT, lenT, endK, oflD, wipeD, List.getElem?_cons_zero, List.getElem?_cons_succ, List.set_cons_zero, List.set_cons_succ, Bool.not_true, Bool.not_false, Bool.false_eq_true, if_true, if_false, decide_true, decide_false, Bool.true_and, Bool.and_true, Bool.false_and, List.length_nil, List.length_cons, Nat.zero_add, Nat.reduceAdd, Rd.tr_bl, Rd.tr_non, Rd.tr_int, Rd.tr_str, Rd.tr_tup, Rd.tr_fl, Rd.tr_ref, Rd.eq_int, Rd.eq_str, Rd.eq_bl, Rd.sq_tup, Rd.sq_fl, Rd.sq_ref, Rd.cm_eq, Rd.cm_ne, Rd.cm_in, Rd.cm_ni, Rd.is_non, Rd.isn_non, Rd.is_bl, Rd.isn_bl, Rd.is_int, Rd.isn_int, Rd.is_str, Rd.isn_str, Rd.is_tup, Rd.isn_tup, Rd.is_fl, Rd.isn_fl, Rd.is_ref, Rd.isn_ref, Rd.cm_lt, Rd.cm_le, Rd.cm_gt, Rd.cm_ge, Rd.ix_tup, Rd.ix_fl, Rd.ix_str, Rd.ix_ref, Rd.sl_tup, Rd.sl_str, Rd.sl_fl, Rd.sl_ref, Rd.ln_str, Rd.ln_tup, Rd.ln_fl, Rd.ln_ref, Rd.nt_int, Rd.nt_str, Rd.st_int, Rd.ab_int, Rd.od_str, Rd.mx_int, Rd.mn_int, Rd.dm_int, Rd.tp_seq, Rd.ls_seq, Rd.rp_any, Rd.bn_ii, Rd.bn_ss, Rd.bn_tt, Rd.bn_rr, Rd.bn_sub, Rd.bn_mul, Rd.bn_fdv, Rd.bn_mod, Rd.bn_pow, Rd.mt_app, Rd.mt_joi, Rd.mt_spl, Rd.mt_par, Rd.mt_rpa, Rd.my_split, Rd.my_partition, Rd.my_rpartition, Rd.my_count, Rd.my_find, Rd.my_rfind, Rd.my_join, Rd.my_app, Rd.ty_non_int, Rd.ty_non_str, Rd.ty_non_bool, Rd.ty_non_tuple, Rd.ty_non_list, Rd.ty_bl_int, Rd.ty_bl_str, Rd.ty_bl_bool, Rd.ty_bl_tuple, Rd.ty_bl_list, Rd.ty_int_int, Rd.ty_int_str, Rd.ty_int_bool, Rd.ty_int_tuple, Rd.ty_int_list, Rd.ty_str_int, Rd.ty_str_str, Rd.ty_str_bool, Rd.ty_str_tuple, Rd.ty_str_list, Rd.ty_tup_int, Rd.ty_tup_str, Rd.ty_tup_bool, Rd.ty_tup_tuple, Rd.ty_tup_list, Rd.ty_fl_int, Rd.ty_fl_str, Rd.ty_fl_bool, Rd.ty_fl_tuple, Rd.ty_fl_list, Rd.fm_str, Rd.fm_int, Rd.it_t, Rd.it_f, Rd.it_s, Rd.it_r, sl0, sl1, sl2, sl3, sl4, sl5, sl6, true_and, at0, at1, at2, in2, in3, ofS_inj]
    exact ⟨a, rfl, ok, drop_here q⟩
  | same a =>
    change rB E0 c_is_some_answer (endK Q) [some (.tup [.str "same", adD a])] M
    simp only [c_is_some_answer, rB, rS, rE, rT, rO, rC, rX, rEs, rOX, rL, rWk, rG, rGs, rF, byT, lenT, endK, oflD, wipeD, List.getElem?_cons_zero, List.getElem?_cons_succ, List.set_cons_zero, List.set_cons_succ, Bool.not_true, Bool.not_false, Bool.false_eq_true, if_true, if_false, decide_true, decide_false, Bool.true_and, Bool.and_true, Bool.false_and, List.length_nil, List.length_cons, Nat.zero_add, Nat.reduceAdd, Rd.tr_bl, Rd.tr_non, Rd.tr_int, Rd.tr_str, Rd.tr_tup, Rd.tr_fl, Rd.tr_ref, Rd.eq_int, Rd.eq_str, Rd.eq_bl, Rd.sq_tup, Rd.sq_fl, Rd.sq_ref, Rd.cm_eq, Rd.cm_ne, Rd.cm_in, Rd.cm_ni, Rd.is_non, Rd.isn_non, Rd.is_bl, Rd.isn_bl, Rd.is_int, Rd.isn_int, Rd.is_str, Rd.isn_str, Rd.is_tup, Rd.isn_tup, Rd.is_fl, Rd.isn_fl, Rd.is_ref, Rd.isn_ref, Rd.cm_lt, Rd.cm_le, Rd.cm_gt, Rd.cm_ge, Rd.ix_tup, Rd.ix_fl, Rd.ix_str, Rd.ix_ref, Rd.sl_tup, Rd.sl_str, Rd.sl_fl, Rd.sl_ref, Rd.ln_str, Rd.ln_tup, Rd.ln_fl, Rd.ln_ref, Rd.nt_int, Rd.nt_str, Rd.st_int, Rd.ab_int, Rd.od_str, Rd.mx_int, Rd.mn_int, Rd.dm_int, Rd.tp_seq, Rd.ls_seq, Rd.rp_any, Rd.bn_ii, Rd.bn_ss, Rd.bn_tt, Rd.bn_rr, Rd.bn_sub, Rd.bn_mul, Rd.bn_fdv, Rd.bn_mod, Rd.bn_pow, Rd.mt_app, Rd.mt_joi, Rd.mt_spl, Rd.mt_par, Rd.mt_rpa, Rd.my_split, Rd.my_partition, Rd.my_rpartition, Rd.my_count, Rd.my_find, Rd.my_rfind, Rd.my_join, Rd.my_app, Rd.ty_non_int, Rd.ty_non_str, Rd.ty_non_bool, Rd.ty_non_tuple, Rd.ty_non_list, Rd.ty_bl_int, Rd.ty_bl_str, Rd.ty_bl_bool, Rd.ty_bl_tuple, Rd.ty_bl_list, Rd.ty_int_int, Rd.ty_int_str, Rd.ty_int_bool, Rd.ty_int_tuple, Rd.ty_int_list, Rd.ty_str_int, Rd.ty_str_str, Rd.ty_str_bool, Rd.ty_str_tuple, Rd.ty_str_list, Rd.ty_tup_int, Rd.ty_tup_str, Rd.ty_tup_bool, Rd.ty_tup_tuple, Rd.ty_tup_list, Rd.ty_fl_int, Rd.ty_fl_str, Rd.ty_fl_bool, Rd.ty_fl_tuple, Rd.ty_fl_list, Rd.fm_str, Rd.fm_int, Rd.it_t, Rd.it_f, Rd.it_s, Rd.it_r]
    refine ⟨_, _, _, rfl, ?_⟩
    simp [rB, rS, rE, rT, rO, rC, rX, rEs, rOX, rL, rWk, rG, rGs, rF, byT, lenT, endK, oflD, wipeD, List.getElem?_cons_zero, List.getElem?_cons_succ, List.set_cons_zero, List.set_cons_succ, Bool.not_true, Bool.not_false, Bool.false_eq_true, if_true, if_false, decide_true, decide_false, Bool.true_and, Bool.and_true, Bool.false_and, List.length_nil, List.length_cons, Nat.zero_add, Nat.reduceAdd, Rd.tr_bl, Rd.tr_non, Rd.tr_int, Rd.tr_str, Rd.tr_tup, Rd.tr_fl, Rd.tr_ref, Rd.eq_int, Rd.eq_str, Rd.eq_bl, Rd.sq_tup, Rd.sq_fl, Rd.sq_ref, Rd.cm_eq, Rd.cm_ne, Rd.cm_in, Rd.cm_ni, Rd.is_non, Rd.isn_non, Rd.is_bl, Rd.isn_bl, Rd.is_int, Rd.isn_int, Rd.is_str, Rd.isn_str, Rd.is_tup, Rd.isn_tup, Rd.is_fl, Rd.isn_fl, Rd.is_ref, Rd.isn_ref, Rd.cm_lt, Rd.cm_le, Rd.cm_gt, Rd.cm_ge, Rd.ix_tup, Rd.ix_fl, Rd.ix_str, Rd.ix_ref, Rd.sl_tup, Rd.sl_str, Rd.sl_fl, Rd.sl_ref, Rd.ln_str, Rd.ln_tup, Rd.ln_fl, Rd.ln_ref, Rd.nt_int, Rd.nt_str, Rd.st_int, Rd.ab_int, Rd.od_str, Rd.mx_int, Rd.mn_int, Rd.dm_int, Rd.tp_seq, Rd.ls_seq, Rd.rp_any, Rd.bn_ii, Rd.bn_ss, Rd.bn_tt, Rd.bn_rr, Rd.bn_sub, Rd.bn_mul, Rd.bn_fdv, Rd.bn_mod, Rd.bn_pow, Rd.mt_app, Rd.mt_joi, Rd.mt_spl, Rd.mt_par, Rd.mt_rpa, Rd.my_split, Rd.my_partition, Rd.my_rpartition, Rd.my_count, Rd.my_find, Rd.my_rfind, Rd.my_join, Rd.my_app, Rd.ty_non_int, Rd.ty_non_str, Rd.ty_non_bool, Rd.ty_non_tuple, Rd.ty_non_list, Rd.ty_bl_int, Rd.ty_bl_str, Rd.ty_bl_bool, Rd.ty_bl_tuple, Rd.ty_bl_list, Rd.ty_int_int, Rd.ty_int_str, Rd.ty_int_bool, Rd.ty_int_tuple, Rd.ty_int_list, Rd.ty_str_int, Rd.ty_str_str, Rd.ty_str_bool, Rd.ty_str_tuple, Rd.ty_str_list, Rd.ty_tup_int, Rd.ty_tup_str, Rd.ty_tup_bool, Rd.ty_tup_tuple, Rd.ty_tup_list, Rd.ty_fl_int, Rd.ty_fl_str, Rd.ty_fl_bool, Rd.ty_fl_tuple, Rd.ty_fl_list, Rd.fm_str, Rd.fm_int, Rd.it_t, Rd.it_f, Rd.it_s, Rd.it_r, sl0, sl1, sl2, sl3, sl4, sl5, sl6, true_and, at0, at1, at2, in2, in3, ofS_inj]
    exact ⟨a, rfl, ok, drop_here q⟩
  | page n ls =>
    change rB E0 c_is_some_answer (endK Q) [some (.tup [.str "page", .int n, .tup (ls.map adD)])] M
    simp only [c_is_some_answer, rB, rS, rE, rT, rO, rC, rX, rEs, rOX, rL, rWk, rG, rGs, rF, byT, lenT, endK, oflD, wipeD, List.getElem?_cons_zero, List.getElem?_cons_succ, List.set_cons_zero, List.set_cons_succ, Bool.not_true, Bool.not_false, Bool.false_eq_true, if_true, if_false, decide_true, decide_false, Bool.true_and, Bool.and_true, Bool.false_and, List.length_nil, List.length_cons, Nat.zero_add, Nat.reduceAdd, Rd.tr_bl, Rd.tr_non, Rd.tr_int, Rd.tr_str, Rd.tr_tup, Rd.tr_fl, Rd.tr_ref, Rd.eq_int, Rd.eq_str, Rd.eq_bl, Rd.sq_tup, Rd.sq_fl, Rd.sq_ref, Rd.cm_eq, Rd.cm_ne, Rd.cm_in, Rd.cm_ni, Rd.is_non, Rd.isn_non, Rd.is_bl, Rd.isn_bl, Rd.is_int, Rd.isn_int, Rd.is_str, Rd.isn_str, Rd.is_tup, Rd.isn_tup, Rd.is_fl, Rd.isn_fl, Rd.is_ref, Rd.isn_ref, Rd.cm_lt, Rd.cm_le, Rd.cm_gt, Rd.cm_ge, Rd.ix_tup, Rd.ix_fl, Rd.ix_str, Rd.ix_ref, Rd.sl_tup, Rd.sl_str, Rd.sl_fl, Rd.sl_ref, Rd.ln_str, Rd.ln_tup, Rd.ln_fl, Rd.ln_ref, Rd.nt_int, Rd.nt_str, Rd.st_int, Rd.ab_int, Rd.od_str, Rd.mx_int, Rd.mn_int, Rd.dm_int, Rd.tp_seq, Rd.ls_seq, Rd.rp_any, Rd.bn_ii, Rd.bn_ss, Rd.bn_tt, Rd.bn_rr, Rd.bn_sub, Rd.bn_mul, Rd.bn_fdv, Rd.bn_mod, Rd.bn_pow, Rd.mt_app, Rd.mt_joi, Rd.mt_spl, Rd.mt_par, Rd.mt_rpa, Rd.my_split, Rd.my_partition, Rd.my_rpartition, Rd.my_count, Rd.my_find, Rd.my_rfind, Rd.my_join, Rd.my_app, Rd.ty_non_int, Rd.ty_non_str, Rd.ty_non_bool, Rd.ty_non_tuple, Rd.ty_non_list, Rd.ty_bl_int, Rd.ty_bl_str, Rd.ty_bl_bool, Rd.ty_bl_tuple, Rd.ty_bl_list, Rd.ty_int_int, Rd.ty_int_str, Rd.ty_int_bool, Rd.ty_int_tuple, Rd.ty_int_list, Rd.ty_str_int, Rd.ty_str_str, Rd.ty_str_bool, Rd.ty_str_tuple, Rd.ty_str_list, Rd.ty_tup_int, Rd.ty_tup_str, Rd.ty_tup_bool, Rd.ty_tup_tuple, Rd.ty_tup_list, Rd.ty_fl_int, Rd.ty_fl_str, Rd.ty_fl_bool, Rd.ty_fl_tuple, Rd.ty_fl_list, Rd.fm_str, Rd.fm_int, Rd.it_t, Rd.it_f, Rd.it_s, Rd.it_r]
    refine ⟨_, _, _, rfl, ?_⟩
    simp [rB, rS, rE, rT, rO, rC, rX, rEs, rOX, rL, rWk, rG, rGs, rF, byT, lenT, endK, oflD, wipeD, List.getElem?_cons_zero, List.getElem?_cons_succ, List.set_cons_zero, List.set_cons_succ, Bool.not_true, Bool.not_false, Bool.false_eq_true, if_true, if_false, decide_true, decide_false, Bool.true_and, Bool.and_true, Bool.false_and, List.length_nil, List.length_cons, Nat.zero_add, Nat.reduceAdd, Rd.tr_bl, Rd.tr_non, Rd.tr_int, Rd.tr_str, Rd.tr_tup, Rd.tr_fl, Rd.tr_ref, Rd.eq_int, Rd.eq_str, Rd.eq_bl, Rd.sq_tup, Rd.sq_fl, Rd.sq_ref, Rd.cm_eq, Rd.cm_ne, Rd.cm_in, Rd.cm_ni, Rd.is_non, Rd.isn_non, Rd.is_bl, Rd.isn_bl, Rd.is_int, Rd.isn_int, Rd.is_str, Rd.isn_str, Rd.is_tup, Rd.isn_tup, Rd.is_fl, Rd.isn_fl, Rd.is_ref, Rd.isn_ref, Rd.cm_lt, Rd.cm_le, Rd.cm_gt, Rd.cm_ge, Rd.ix_tup, Rd.ix_fl, Rd.ix_str, Rd.ix_ref, Rd.sl_tup, Rd.sl_str, Rd.sl_fl, Rd.sl_ref, Rd.ln_str, Rd.ln_tup, Rd.ln_fl, Rd.ln_ref, Rd.nt_int, Rd.nt_str, Rd.st_int, Rd.ab_int, Rd.od_str, Rd.mx_int, Rd.mn_int, Rd.dm_int, Rd.tp_seq, Rd.ls_seq, Rd.rp_any, Rd.bn_ii, Rd.bn_ss, Rd.bn_tt, Rd.bn_rr, Rd.bn_sub, Rd.bn_mul, Rd.bn_fdv, Rd.bn_mod, Rd.bn_pow, Rd.mt_app, Rd.mt_joi, Rd.mt_spl, Rd.mt_par, Rd.mt_rpa, Rd.my_split, Rd.my_partition, Rd.my_rpartition, Rd.my_count, Rd.my_find, Rd.my_rfind, Rd.my_join, Rd.my_app, Rd.ty_non_int, Rd.ty_non_str, Rd.ty_non_bool, Rd.ty_non_tuple, Rd.ty_non_list, Rd.ty_bl_int, Rd.ty_bl_str, Rd.ty_bl_bool, Rd.ty_bl_tuple, Rd.ty_bl_list, Rd.ty_int_int, Rd.ty_int_str, Rd.ty_int_bool, Rd.ty_int_tuple, Rd.ty_int_list, Rd.ty_str_int, Rd.ty_str_str, Rd.ty_str_bool, Rd.ty_str_tuple, Rd.ty_str_list, Rd.ty_tup_int, Rd.ty_tup_str, Rd.ty_tup_bool, Rd.ty_tup_tuple, Rd.ty_tup_list, Rd.ty_fl_int, Rd.ty_fl_str, Rd.ty_fl_bool, Rd.ty_fl_tuple, Rd.ty_fl_list, Rd.fm_str, Rd.fm_int, Rd.it_t, Rd.it_f, Rd.it_s, Rd.it_r, sl0, sl1, sl2, sl3, sl4, sl5, sl6, true_and, at0, at1, at2, in2, in3, ofS_inj]
    refine ⟨_, _, _, rfl, ?_⟩
    have h1 : (n : Int) ≤ 999999 := by have := ok.1; omega
    simp [h1]
    exact ⟨ls, rfl, ok.2.1, ok.2.2, drop_here q⟩
end Jn
namespace Jn
open PySem PySem.Spec PyProof.Rows L2 Mx TL
theorem cut_from {α : Type} (xs : List α) (k : Nat) : Mx.cutD xs (some (k : Int)) none = xs.drop k := by
  unfold Mx.cutD
  rw [HT.sIx_nat, HT.sIx_none]
  by_cases h : k ≤ xs.length
  · rw [Nat.min_eq_left h]
    exact List.take_of_length_le (by rw [List.length_drop]; exact Nat.le_refl _)
  · rw [Nat.min_eq_right (by omega), List.drop_eq_nil_of_le (Nat.le_refl _), List.drop_eq_nil_of_le (by omega)]
    exact List.take_nil
theorem cut2 {α : Type} (xs : List α) : Mx.cutD xs (some 2) none = xs.drop 2 := cut_from xs 2
theorem cut3 {α : Type} (xs : List α) : Mx.cutD xs (some 3) none = xs.drop 3 := cut_from xs 3
theorem tl_numT (n : Nat) : tl (numT n) = numL n := tl_num n
theorem len_numT (n : Nat) : (numT n).length = (numL n).length := by rw [len_tl, tl_numT]
theorem num_len {n : Nat} (h : n ≤ 999999999999) : 1 ≤ (numT n).length ∧ (numT n).length ≤ 12 := by
  rw [len_numT]
  refine ⟨?_, numL_len (by decide) (by omega)⟩
  cases e : numL n with
  | nil => exact absurd e (numL_ne n)
  | cons a l => simp
theorem num_head : ∀ (n : Nat), ∃ c r, numL n = c :: r ∧ (r ≠ [] → c ≠ 48) ∧ (10 ≤ n → r ≠ []) := by
  intro n
  induction n using Nat.strongRecOn with
  | _ n ih =>
    by_cases h : n < 10
    · exact ⟨48 + n, [], numL_lt h, fun z => absurd rfl z, fun z => by omega⟩
    · obtain ⟨c, r, e, h1, h2⟩ := ih (n / 10) (by omega)
      refine ⟨c, r ++ [48 + n % 10], ?_, fun _ => ?_, fun _ => by simp⟩
      · rw [numL_step (by omega), e]
        rfl
      · by_cases h3 : 10 ≤ n / 10
        · exact h1 (h2 h3)
        · have e2 := numL_lt (show n / 10 < 10 by omega)
          rw [e] at e2
          injection e2 with e3 e4
          omega
theorem digit_in {c : Nat} (h : 48 ≤ c ∧ c ≤ 57) : c ∈ tl (Str.ofString "0123456789") := by
  have e : tl (Str.ofString "0123456789") = [48, 49, 50, 51, 52, 53, 54, 55, 56, 57] := by decide +kernel
  rw [e]
  have : c = 48 ∨ c = 49 ∨ c = 50 ∨ c = 51 ∨ c = 52 ∨ c = 53 ∨ c = 54 ∨ c = 55 ∨ c = 56 ∨ c = 57 := by omega
  rcases this with h | h | h | h | h | h | h | h | h | h <;> subst h <;> decide
theorem str_zero : Str.ofString "0" = ⟨#[48]⟩ := by decide +kernel
theorem sign_inj {c d : Nat} : ((⟨#[c]⟩ : Str) = ⟨#[d]⟩) = (c = d) := by
  refine propext ⟨fun h => ?_, fun h => by rw [h]⟩
  have e := congrArg tl h
  have e2 : [c] = [d] := e
  injection e2
theorem pl_is_numeral (ds : List D) (M : MH) (Q : KE) (h : sp_is_numeral ds M Q fun _ _ => False) : rB E0 c_is_numeral (endK Q) (startD n_is_numeral.length ds) M := by
  obtain ⟨n, rfl, hn, q⟩ := h
  change rB E0 c_is_numeral (endK Q) [some (.str (numT n)), none] M
  obtain ⟨l1, l2⟩ := num_len hn
  have hz : (numT n).length ≤ sizeLine := sz _ (by omega)
  have e1 : (1 : Int) ≤ ((numT n).length : Int) := by omega
  have e2 : ((numT n).length : Int) ≤ 12 := by omega
  obtain ⟨c, r, e3, h1, h2⟩ := num_head n
  have e4 : (numT n).cps.toList = c :: r := (tl_numT n).trans e3
  have hl : (numT n).length = r.length + 1 := by rw [len_numT, e3]; rfl
  simp only [c_is_numeral, rB, rS, rE, rT, rO, rC, rX, rEs, rOX, rL, rWk, rG, rGs, rF, byT, lenT, endK, oflD, wipeD, List.getElem?_cons_zero, List.getElem?_cons_succ, List.set_cons_zero, List.set_cons_succ, Bool.not_true, Bool.not_false, Bool.false_eq_true, if_true, if_false, decide_true, decide_false, Bool.true_and, Bool.and_true, Bool.false_and, List.length_nil, List.length_cons, Nat.zero_add, Nat.reduceAdd, Rd.tr_bl, Rd.tr_non, Rd.tr_int, Rd.tr_str, Rd.tr_tup, Rd.tr_fl, Rd.tr_ref, Rd.eq_int, Rd.eq_str, Rd.eq_bl, Rd.sq_tup, Rd.sq_fl, Rd.sq_ref, Rd.cm_eq, Rd.cm_ne, Rd.cm_in, Rd.cm_ni, Rd.is_non, Rd.isn_non, Rd.is_bl, Rd.isn_bl, Rd.is_int, Rd.isn_int, Rd.is_str, Rd.isn_str, Rd.is_tup, Rd.isn_tup, Rd.is_fl, Rd.isn_fl, Rd.is_ref, Rd.isn_ref, Rd.cm_lt, Rd.cm_le, Rd.cm_gt, Rd.cm_ge, Rd.ix_tup, Rd.ix_fl, Rd.ix_str, Rd.ix_ref, Rd.sl_tup, Rd.sl_str, Rd.sl_fl, Rd.sl_ref, Rd.ln_str, Rd.ln_tup, Rd.ln_fl, Rd.ln_ref, Rd.nt_int, Rd.nt_str, Rd.st_int, Rd.ab_int, Rd.od_str, Rd.mx_int, Rd.mn_int, Rd.dm_int, Rd.tp_seq, Rd.ls_seq, Rd.rp_any, Rd.bn_ii, Rd.bn_ss, Rd.bn_tt, Rd.bn_rr, Rd.bn_sub, Rd.bn_mul, Rd.bn_fdv, Rd.bn_mod, Rd.bn_pow, Rd.mt_app, Rd.mt_joi, Rd.mt_spl, Rd.mt_par, Rd.mt_rpa, Rd.my_split, Rd.my_partition, Rd.my_rpartition, Rd.my_count, Rd.my_find, Rd.my_rfind, Rd.my_join, Rd.my_app, Rd.ty_non_int, Rd.ty_non_str, Rd.ty_non_bool, Rd.ty_non_tuple, Rd.ty_non_list, Rd.ty_bl_int, Rd.ty_bl_str, Rd.ty_bl_bool, Rd.ty_bl_tuple, Rd.ty_bl_list, Rd.ty_int_int, Rd.ty_int_str, Rd.ty_int_bool, Rd.ty_int_tuple, Rd.ty_int_list, Rd.ty_str_int, Rd.ty_str_str, Rd.ty_str_bool, Rd.ty_str_tuple, Rd.ty_str_list, Rd.ty_tup_int, Rd.ty_tup_str, Rd.ty_tup_bool, Rd.ty_tup_tuple, Rd.ty_tup_list, Rd.ty_fl_int, Rd.ty_fl_str, Rd.ty_fl_bool, Rd.ty_fl_tuple, Rd.ty_fl_list, Rd.fm_str, Rd.fm_int, Rd.it_t, Rd.it_f, Rd.it_s, Rd.it_r, hz, e1, e2, true_and]
  refine gather_map (fun _ => .bl true) _ trivial (by rw [List.length_map]; simpa [Str.length] using hz) (fun d hd k hk => ?_) ?_
  · obtain ⟨x, hc, rfl⟩ := List.mem_map.mp hd
    refine in_sign ?_
    have hx : x ∈ numL n := by rw [← tl_numT]; exact hc
    rw [decide_eq_true (digit_in (numL_digits n x hx))]
    exact hk
  · obtain ⟨bs, e, hb⟩ := all_true (List.map (fun c => D.str ⟨#[c]⟩) (numT n).cps.toList)
    refine ⟨bs, e, ?_⟩
    rw [hb]
    simp only [rB, rS, rE, rT, rO, rC, rX, rEs, rOX, rL, rWk, rG, rGs, rF, byT, lenT, endK, oflD, wipeD, List.getElem?_cons_zero, List.getElem?_cons_succ, List.set_cons_zero, List.set_cons_succ, Bool.not_true, Bool.not_false, Bool.false_eq_true, if_true, if_false, decide_true, decide_false, Bool.true_and, Bool.and_true, Bool.false_and, List.length_nil, List.length_cons, Nat.zero_add, Nat.reduceAdd, Rd.tr_bl, Rd.tr_non, Rd.tr_int, Rd.tr_str, Rd.tr_tup, Rd.tr_fl, Rd.tr_ref, Rd.eq_int, Rd.eq_str, Rd.eq_bl, Rd.sq_tup, Rd.sq_fl, Rd.sq_ref, Rd.cm_eq, Rd.cm_ne, Rd.cm_in, Rd.cm_ni, Rd.is_non, Rd.isn_non, Rd.is_bl, Rd.isn_bl, Rd.is_int, Rd.isn_int, Rd.is_str, Rd.isn_str, Rd.is_tup, Rd.isn_tup, Rd.is_fl, Rd.isn_fl, Rd.is_ref, Rd.isn_ref, Rd.cm_lt, Rd.cm_le, Rd.cm_gt, Rd.cm_ge, Rd.ix_tup, Rd.ix_fl, Rd.ix_str, Rd.ix_ref, Rd.sl_tup, Rd.sl_str, Rd.sl_fl, Rd.sl_ref, Rd.ln_str, Rd.ln_tup, Rd.ln_fl, Rd.ln_ref, Rd.nt_int, Rd.nt_str, Rd.st_int, Rd.ab_int, Rd.od_str, Rd.mx_int, Rd.mn_int, Rd.dm_int, Rd.tp_seq, Rd.ls_seq, Rd.rp_any, Rd.bn_ii, Rd.bn_ss, Rd.bn_tt, Rd.bn_rr, Rd.bn_sub, Rd.bn_mul, Rd.bn_fdv, Rd.bn_mod, Rd.bn_pow, Rd.mt_app, Rd.mt_joi, Rd.mt_spl, Rd.mt_par, Rd.mt_rpa, Rd.my_split, Rd.my_partition, Rd.my_rpartition, Rd.my_count, Rd.my_find, Rd.my_rfind, Rd.my_join, Rd.my_app, Rd.ty_non_int, Rd.ty_non_str, Rd.ty_non_bool, Rd.ty_non_tuple, Rd.ty_non_list, Rd.ty_bl_int, Rd.ty_bl_str, Rd.ty_bl_bool, Rd.ty_bl_tuple, Rd.ty_bl_list, Rd.ty_int_int, Rd.ty_int_str, Rd.ty_int_bool, Rd.ty_int_tuple, Rd.ty_int_list, Rd.ty_str_int, Rd.ty_str_str, Rd.ty_str_bool, Rd.ty_str_tuple, Rd.ty_str_list, Rd.ty_tup_int, Rd.ty_tup_str, Rd.ty_tup_bool, Rd.ty_tup_tuple, Rd.ty_tup_list, Rd.ty_fl_int, Rd.ty_fl_str, Rd.ty_fl_bool, Rd.ty_fl_tuple, Rd.ty_fl_list, Rd.fm_str, Rd.fm_int, Rd.it_t, Rd.it_f, Rd.it_s, Rd.it_r, e4, at0, Option.some.injEq, exists_eq_left', str_zero, sign_inj]
    by_cases hr : r = []
    · subst hr
      rw [if_pos (decide_eq_true (by rw [hl]; rfl))]
      rw [decide_eq_true (by rw [hl]; rfl)]
      exact drop_here q
    · rw [if_neg (by
        intro z
        have := of_decide_eq_true z
        rw [hl] at this
        cases r with
        | nil => exact hr rfl
        | cons a b => simp at this; omega)]
      have := h1 hr
      simp [this]
      exact drop_here q
theorem get_old {M : MH} {p r : Addr} {o u : MO} (h : M.get p = some u) (hr : M.get r = none) : MH.get ((r, o) :: M) p = some u := by
  rw [MH.get_ne (MH.ne_of h hr)]
  exact h
theorem one_str (s : Str) : strsM [s] = .lst [.str s] := rfl
theorem kind_ne (e : JE) (h : isAns e) : decide (kindT e :: wordsB e = (["gone"] : List Str)) = (match (generalizing := false) e with | .gone => true | _ => false) := by
  cases e with
  | ask => exact h.elim
  | lost => exact h.elim
  | cut => exact h.elim
  | gone => simp [kindT, wordsB]
  | moved a => simp [kindT, wordsB, ofS_inj]
  | same a => simp [kindT, wordsB, ofS_inj]
  | page n ls => simp [kindT, wordsB, ofS_inj]
theorem ad_len {a : Ad} (h : okAd a) : (adT a).length ≤ 52 := by
  have h1 := h.1.2.1
  have h2 := h.2.2.1
  have e : (adT a).length = a.1.length + a.2.length := strLen_append _ _
  omega
theorem pl_answer_of (ds : List D) (M : MH) (Q : KE) (h : sp_answer_of ds M Q fun _ _ => False) : rB E0 c_answer_of (endK Q) (startD n_answer_of.length ds) M := by
  obtain ⟨p, e, rfl, hp, ok, ia, q⟩ := h
  change rB E0 c_answer_of (endK Q) [some (.ref p), none, none] M
  simp only [c_answer_of, rB, rS, rE, rT, rO, rC, rX, rEs, rOX, rL, rWk, rG, rGs, rF, byT, lenT, endK, oflD, wipeD, List.getElem?_cons_zero, List.getElem?_cons_succ, List.set_cons_zero, List.set_cons_succ, Bool.not_true, Bool.not_false, Bool.false_eq_true, if_true, if_false, decide_true, decide_false, Bool.true_and, Bool.and_true, Bool.false_and, List.length_nil, List.length_cons, Nat.zero_add, Nat.reduceAdd, Rd.tr_bl, Rd.tr_non, Rd.tr_int, Rd.tr_str, Rd.tr_tup, Rd.tr_fl, Rd.tr_ref, Rd.eq_int, Rd.eq_str, Rd.eq_bl, Rd.sq_tup, Rd.sq_fl, Rd.sq_ref, Rd.cm_eq, Rd.cm_ne, Rd.cm_in, Rd.cm_ni, Rd.is_non, Rd.isn_non, Rd.is_bl, Rd.isn_bl, Rd.is_int, Rd.isn_int, Rd.is_str, Rd.isn_str, Rd.is_tup, Rd.isn_tup, Rd.is_fl, Rd.isn_fl, Rd.is_ref, Rd.isn_ref, Rd.cm_lt, Rd.cm_le, Rd.cm_gt, Rd.cm_ge, Rd.ix_tup, Rd.ix_fl, Rd.ix_str, Rd.ix_ref, Rd.sl_tup, Rd.sl_str, Rd.sl_fl, Rd.sl_ref, Rd.ln_str, Rd.ln_tup, Rd.ln_fl, Rd.ln_ref, Rd.nt_int, Rd.nt_str, Rd.st_int, Rd.ab_int, Rd.od_str, Rd.mx_int, Rd.mn_int, Rd.dm_int, Rd.tp_seq, Rd.ls_seq, Rd.rp_any, Rd.bn_ii, Rd.bn_ss, Rd.bn_tt, Rd.bn_rr, Rd.bn_sub, Rd.bn_mul, Rd.bn_fdv, Rd.bn_mod, Rd.bn_pow, Rd.mt_app, Rd.mt_joi, Rd.mt_spl, Rd.mt_par, Rd.mt_rpa, Rd.my_split, Rd.my_partition, Rd.my_rpartition, Rd.my_count, Rd.my_find, Rd.my_rfind, Rd.my_join, Rd.my_app, Rd.ty_non_int, Rd.ty_non_str, Rd.ty_non_bool, Rd.ty_non_tuple, Rd.ty_non_list, Rd.ty_bl_int, Rd.ty_bl_str, Rd.ty_bl_bool, Rd.ty_bl_tuple, Rd.ty_bl_list, Rd.ty_int_int, Rd.ty_int_str, Rd.ty_int_bool, Rd.ty_int_tuple, Rd.ty_int_list, Rd.ty_str_int, Rd.ty_str_str, Rd.ty_str_bool, Rd.ty_str_tuple, Rd.ty_str_list, Rd.ty_tup_int, Rd.ty_tup_str, Rd.ty_tup_bool, Rd.ty_tup_tuple, Rd.ty_tup_list, Rd.ty_fl_int, Rd.ty_fl_str, Rd.ty_fl_bool, Rd.ty_fl_tuple, Rd.ty_fl_list, Rd.fm_str, Rd.fm_int, Rd.it_t, Rd.it_f, Rd.it_s, Rd.it_r, sl0, sl1, sl2, sl3, sl4, sl5, sl6, true_and, at0, at1, at2, in2, in3, ofS_inj]
  intro r hr _
  refine eq_lsts (ss := kindT e :: wordsB e) (ts := ["gone"]) (get_old hp hr) (by rw [MH.get_same]; rfl) ?_
  rw [kind_ne e ia]
  have hp' : MH.get ((r, MO.lst [D.str "gone"]) :: M) p = some (strsM (kindT e :: wordsB e)) := get_old hp hr
  have sub : SubM M ((r, MO.lst [D.str "gone"]) :: M) := .new hr
  generalize ((r, MO.lst [D.str "gone"]) :: M) = M1 at hp' sub
  cases e with
  | ask => exact ia.elim
  | lost => exact ia.elim
  | cut => exact ia.elim
  | gone =>
    simp only [if_true]
    exact drop_by sub q
  | moved a =>
    have hp2 : MH.get M1 p = some (.lst [.str "moved", .str (adT a)]) := hp'
    simp [hp2, rB, rS, rE, rT, rO, rC, rX, rEs, rOX, rL, rWk, rG, rGs, rF, byT, lenT, endK, oflD, wipeD, List.getElem?_cons_zero, List.getElem?_cons_succ, List.set_cons_zero, List.set_cons_succ, Bool.not_true, Bool.not_false, Bool.false_eq_true, if_true, if_false, decide_true, decide_false, Bool.true_and, Bool.and_true, Bool.false_and, List.length_nil, List.length_cons, Nat.zero_add, Nat.reduceAdd, Rd.tr_bl, Rd.tr_non, Rd.tr_int, Rd.tr_str, Rd.tr_tup, Rd.tr_fl, Rd.tr_ref, Rd.eq_int, Rd.eq_str, Rd.eq_bl, Rd.sq_tup, Rd.sq_fl, Rd.sq_ref, Rd.cm_eq, Rd.cm_ne, Rd.cm_in, Rd.cm_ni, Rd.is_non, Rd.isn_non, Rd.is_bl, Rd.isn_bl, Rd.is_int, Rd.isn_int, Rd.is_str, Rd.isn_str, Rd.is_tup, Rd.isn_tup, Rd.is_fl, Rd.isn_fl, Rd.is_ref, Rd.isn_ref, Rd.cm_lt, Rd.cm_le, Rd.cm_gt, Rd.cm_ge, Rd.ix_tup, Rd.ix_fl, Rd.ix_str, Rd.ix_ref, Rd.sl_tup, Rd.sl_str, Rd.sl_fl, Rd.sl_ref, Rd.ln_str, Rd.ln_tup, Rd.ln_fl, Rd.ln_ref, Rd.nt_int, Rd.nt_str, Rd.st_int, Rd.ab_int, Rd.od_str, Rd.mx_int, Rd.mn_int, Rd.dm_int, Rd.tp_seq, Rd.ls_seq, Rd.rp_any, Rd.bn_ii, Rd.bn_ss, Rd.bn_tt, Rd.bn_rr, Rd.bn_sub, Rd.bn_mul, Rd.bn_fdv, Rd.bn_mod, Rd.bn_pow, Rd.mt_app, Rd.mt_joi, Rd.mt_spl, Rd.mt_par, Rd.mt_rpa, Rd.my_split, Rd.my_partition, Rd.my_rpartition, Rd.my_count, Rd.my_find, Rd.my_rfind, Rd.my_join, Rd.my_app, Rd.ty_non_int, Rd.ty_non_str, Rd.ty_non_bool, Rd.ty_non_tuple, Rd.ty_non_list, Rd.ty_bl_int, Rd.ty_bl_str, Rd.ty_bl_bool, Rd.ty_bl_tuple, Rd.ty_bl_list, Rd.ty_int_int, Rd.ty_int_str, Rd.ty_int_bool, Rd.ty_int_tuple, Rd.ty_int_list, Rd.ty_str_int, Rd.ty_str_str, Rd.ty_str_bool, Rd.ty_str_tuple, Rd.ty_str_list, Rd.ty_tup_int, Rd.ty_tup_str, Rd.ty_tup_bool, Rd.ty_tup_tuple, Rd.ty_tup_list, Rd.ty_fl_int, Rd.ty_fl_str, Rd.ty_fl_bool, Rd.ty_fl_tuple, Rd.ty_fl_list, Rd.fm_str, Rd.fm_int, Rd.it_t, Rd.it_f, Rd.it_s, Rd.it_r, sl0, sl1, sl2, sl3, sl4, sl5, sl6, true_and, at0, at1, at2, in2, in3, ofS_inj]
    refine ⟨a, rfl, ok, ?_⟩
    refine ⟨.moved a, rfl, ok, trivial, ?_⟩
    simp only [rB, rS, rE, rT, rO, rC, rX, rEs, rOX, rL, rWk, rG, rGs, rF, byT, lenT, endK, oflD, wipeD, List.getElem?_cons_zero, List.getElem?_cons_succ, List.set_cons_zero, List.set_cons_succ, Bool.not_true, Bool.not_false, Bool.false_eq_true, if_true, if_false, decide_true, decide_false, Bool.true_and, Bool.and_true, Bool.false_and, List.length_nil, List.length_cons, Nat.zero_add, Nat.reduceAdd, Rd.tr_bl, Rd.tr_non, Rd.tr_int, Rd.tr_str, Rd.tr_tup, Rd.tr_fl, Rd.tr_ref, Rd.eq_int, Rd.eq_str, Rd.eq_bl, Rd.sq_tup, Rd.sq_fl, Rd.sq_ref, Rd.cm_eq, Rd.cm_ne, Rd.cm_in, Rd.cm_ni, Rd.is_non, Rd.isn_non, Rd.is_bl, Rd.isn_bl, Rd.is_int, Rd.isn_int, Rd.is_str, Rd.isn_str, Rd.is_tup, Rd.isn_tup, Rd.is_fl, Rd.isn_fl, Rd.is_ref, Rd.isn_ref, Rd.cm_lt, Rd.cm_le, Rd.cm_gt, Rd.cm_ge, Rd.ix_tup, Rd.ix_fl, Rd.ix_str, Rd.ix_ref, Rd.sl_tup, Rd.sl_str, Rd.sl_fl, Rd.sl_ref, Rd.ln_str, Rd.ln_tup, Rd.ln_fl, Rd.ln_ref, Rd.nt_int, Rd.nt_str, Rd.st_int, Rd.ab_int, Rd.od_str, Rd.mx_int, Rd.mn_int, Rd.dm_int, Rd.tp_seq, Rd.ls_seq, Rd.rp_any, Rd.bn_ii, Rd.bn_ss, Rd.bn_tt, Rd.bn_rr, Rd.bn_sub, Rd.bn_mul, Rd.bn_fdv, Rd.bn_mod, Rd.bn_pow, Rd.mt_app, Rd.mt_joi, Rd.mt_spl, Rd.mt_par, Rd.mt_rpa, Rd.my_split, Rd.my_partition, Rd.my_rpartition, Rd.my_count, Rd.my_find, Rd.my_rfind, Rd.my_join, Rd.my_app, Rd.ty_non_int, Rd.ty_non_str, Rd.ty_non_bool, Rd.ty_non_tuple, Rd.ty_non_list, Rd.ty_bl_int, Rd.ty_bl_str, Rd.ty_bl_bool, Rd.ty_bl_tuple, Rd.ty_bl_list, Rd.ty_int_int, Rd.ty_int_str, Rd.ty_int_bool, Rd.ty_int_tuple, Rd.ty_int_list, Rd.ty_str_int, Rd.ty_str_str, Rd.ty_str_bool, Rd.ty_str_tuple, Rd.ty_str_list, Rd.ty_tup_int, Rd.ty_tup_str, Rd.ty_tup_bool, Rd.ty_tup_tuple, Rd.ty_tup_list, Rd.ty_fl_int, Rd.ty_fl_str, Rd.ty_fl_bool, Rd.ty_fl_tuple, Rd.ty_fl_list, Rd.fm_str, Rd.fm_int, Rd.it_t, Rd.it_f, Rd.it_s, Rd.it_r]
    exact drop_by sub q
  | same a =>
    have hp2 : MH.get M1 p = some (.lst [.str "same", .str (adT a)]) := hp'
    simp [hp2, rB, rS, rE, rT, rO, rC, rX, rEs, rOX, rL, rWk, rG, rGs, rF, byT, lenT, endK, oflD, wipeD, List.getElem?_cons_zero, List.getElem?_cons_succ, List.set_cons_zero, List.set_cons_succ, Bool.not_true, Bool.not_false, Bool.false_eq_true, if_true, if_false, decide_true, decide_false, Bool.true_and, Bool.and_true, Bool.false_and, List.length_nil, List.length_cons, Nat.zero_add, Nat.reduceAdd, Rd.tr_bl, Rd.tr_non, Rd.tr_int, Rd.tr_str, Rd.tr_tup, Rd.tr_fl, Rd.tr_ref, Rd.eq_int, Rd.eq_str, Rd.eq_bl, Rd.sq_tup, Rd.sq_fl, Rd.sq_ref, Rd.cm_eq, Rd.cm_ne, Rd.cm_in, Rd.cm_ni, Rd.is_non, Rd.isn_non, Rd.is_bl, Rd.isn_bl, Rd.is_int, Rd.isn_int, Rd.is_str, Rd.isn_str, Rd.is_tup, Rd.isn_tup, Rd.is_fl, Rd.isn_fl, Rd.is_ref, Rd.isn_ref, Rd.cm_lt, Rd.cm_le, Rd.cm_gt, Rd.cm_ge, Rd.ix_tup, Rd.ix_fl, Rd.ix_str, Rd.ix_ref, Rd.sl_tup, Rd.sl_str, Rd.sl_fl, Rd.sl_ref, Rd.ln_str, Rd.ln_tup, Rd.ln_fl, Rd.ln_ref, Rd.nt_int, Rd.nt_str, Rd.st_int, Rd.ab_int, Rd.od_str, Rd.mx_int, Rd.mn_int, Rd.dm_int, Rd.tp_seq, Rd.ls_seq, Rd.rp_any, Rd.bn_ii, Rd.bn_ss, Rd.bn_tt, Rd.bn_rr, Rd.bn_sub, Rd.bn_mul, Rd.bn_fdv, Rd.bn_mod, Rd.bn_pow, Rd.mt_app, Rd.mt_joi, Rd.mt_spl, Rd.mt_par, Rd.mt_rpa, Rd.my_split, Rd.my_partition, Rd.my_rpartition, Rd.my_count, Rd.my_find, Rd.my_rfind, Rd.my_join, Rd.my_app, Rd.ty_non_int, Rd.ty_non_str, Rd.ty_non_bool, Rd.ty_non_tuple, Rd.ty_non_list, Rd.ty_bl_int, Rd.ty_bl_str, Rd.ty_bl_bool, Rd.ty_bl_tuple, Rd.ty_bl_list, Rd.ty_int_int, Rd.ty_int_str, Rd.ty_int_bool, Rd.ty_int_tuple, Rd.ty_int_list, Rd.ty_str_int, Rd.ty_str_str, Rd.ty_str_bool, Rd.ty_str_tuple, Rd.ty_str_list, Rd.ty_tup_int, Rd.ty_tup_str, Rd.ty_tup_bool, Rd.ty_tup_tuple, Rd.ty_tup_list, Rd.ty_fl_int, Rd.ty_fl_str, Rd.ty_fl_bool, Rd.ty_fl_tuple, Rd.ty_fl_list, Rd.fm_str, Rd.fm_int, Rd.it_t, Rd.it_f, Rd.it_s, Rd.it_r, sl0, sl1, sl2, sl3, sl4, sl5, sl6, true_and, at0, at1, at2, in2, in3, ofS_inj]
    refine ⟨a, rfl, ok, ?_⟩
    refine ⟨.same a, rfl, ok, trivial, ?_⟩
    simp only [rB, rS, rE, rT, rO, rC, rX, rEs, rOX, rL, rWk, rG, rGs, rF, byT, lenT, endK, oflD, wipeD, List.getElem?_cons_zero, List.getElem?_cons_succ, List.set_cons_zero, List.set_cons_succ, Bool.not_true, Bool.not_false, Bool.false_eq_true, if_true, if_false, decide_true, decide_false, Bool.true_and, Bool.and_true, Bool.false_and, List.length_nil, List.length_cons, Nat.zero_add, Nat.reduceAdd, Rd.tr_bl, Rd.tr_non, Rd.tr_int, Rd.tr_str, Rd.tr_tup, Rd.tr_fl, Rd.tr_ref, Rd.eq_int, Rd.eq_str, Rd.eq_bl, Rd.sq_tup, Rd.sq_fl, Rd.sq_ref, Rd.cm_eq, Rd.cm_ne, Rd.cm_in, Rd.cm_ni, Rd.is_non, Rd.isn_non, Rd.is_bl, Rd.isn_bl, Rd.is_int, Rd.isn_int, Rd.is_str, Rd.isn_str, Rd.is_tup, Rd.isn_tup, Rd.is_fl, Rd.isn_fl, Rd.is_ref, Rd.isn_ref, Rd.cm_lt, Rd.cm_le, Rd.cm_gt, Rd.cm_ge, Rd.ix_tup, Rd.ix_fl, Rd.ix_str, Rd.ix_ref, Rd.sl_tup, Rd.sl_str, Rd.sl_fl, Rd.sl_ref, Rd.ln_str, Rd.ln_tup, Rd.ln_fl, Rd.ln_ref, Rd.nt_int, Rd.nt_str, Rd.st_int, Rd.ab_int, Rd.od_str, Rd.mx_int, Rd.mn_int, Rd.dm_int, Rd.tp_seq, Rd.ls_seq, Rd.rp_any, Rd.bn_ii, Rd.bn_ss, Rd.bn_tt, Rd.bn_rr, Rd.bn_sub, Rd.bn_mul, Rd.bn_fdv, Rd.bn_mod, Rd.bn_pow, Rd.mt_app, Rd.mt_joi, Rd.mt_spl, Rd.mt_par, Rd.mt_rpa, Rd.my_split, Rd.my_partition, Rd.my_rpartition, Rd.my_count, Rd.my_find, Rd.my_rfind, Rd.my_join, Rd.my_app, Rd.ty_non_int, Rd.ty_non_str, Rd.ty_non_bool, Rd.ty_non_tuple, Rd.ty_non_list, Rd.ty_bl_int, Rd.ty_bl_str, Rd.ty_bl_bool, Rd.ty_bl_tuple, Rd.ty_bl_list, Rd.ty_int_int, Rd.ty_int_str, Rd.ty_int_bool, Rd.ty_int_tuple, Rd.ty_int_list, Rd.ty_str_int, Rd.ty_str_str, Rd.ty_str_bool, Rd.ty_str_tuple, Rd.ty_str_list, Rd.ty_tup_int, Rd.ty_tup_str, Rd.ty_tup_bool, Rd.ty_tup_tuple, Rd.ty_tup_list, Rd.ty_fl_int, Rd.ty_fl_str, Rd.ty_fl_bool, Rd.ty_fl_tuple, Rd.ty_fl_list, Rd.fm_str, Rd.fm_int, Rd.it_t, Rd.it_f, Rd.it_s, Rd.it_r]
    exact drop_by sub q
  | page n ls =>
    have hp2 : MH.get M1 p = some (.lst (.str "page" :: .str (numT n) :: (ls.map adT).map .str)) := hp'
    have hl := ok.2.1
    have hn : n ≤ 999999999999 := by have := ok.1; omega
    have hz : (numT n).length ≤ 12 := (num_len hn).2
    have hv : intText? (numT n) = some (n : Int) := int_num (by rw [← len_numT]; omega)
    simp only [hp2, rB, rS, rE, rT, rO, rC, rX, rEs, rOX, rL, rWk, rG, rGs, rF, byT, lenT, endK, oflD, wipeD, List.getElem?_cons_zero, List.getElem?_cons_succ, List.set_cons_zero, List.set_cons_succ, Bool.not_true, Bool.not_false, Bool.false_eq_true, if_true, if_false, decide_true, decide_false, Bool.true_and, Bool.and_true, Bool.false_and, List.length_nil, List.length_cons, Nat.zero_add, Nat.reduceAdd, Rd.tr_bl, Rd.tr_non, Rd.tr_int, Rd.tr_str, Rd.tr_tup, Rd.tr_fl, Rd.tr_ref, Rd.eq_int, Rd.eq_str, Rd.eq_bl, Rd.sq_tup, Rd.sq_fl, Rd.sq_ref, Rd.cm_eq, Rd.cm_ne, Rd.cm_in, Rd.cm_ni, Rd.is_non, Rd.isn_non, Rd.is_bl, Rd.isn_bl, Rd.is_int, Rd.isn_int, Rd.is_str, Rd.isn_str, Rd.is_tup, Rd.isn_tup, Rd.is_fl, Rd.isn_fl, Rd.is_ref, Rd.isn_ref, Rd.cm_lt, Rd.cm_le, Rd.cm_gt, Rd.cm_ge, Rd.ix_tup, Rd.ix_fl, Rd.ix_str, Rd.ix_ref, Rd.sl_tup, Rd.sl_str, Rd.sl_fl, Rd.sl_ref, Rd.ln_str, Rd.ln_tup, Rd.ln_fl, Rd.ln_ref, Rd.nt_int, Rd.nt_str, Rd.st_int, Rd.ab_int, Rd.od_str, Rd.mx_int, Rd.mn_int, Rd.dm_int, Rd.tp_seq, Rd.ls_seq, Rd.rp_any, Rd.bn_ii, Rd.bn_ss, Rd.bn_tt, Rd.bn_rr, Rd.bn_sub, Rd.bn_mul, Rd.bn_fdv, Rd.bn_mod, Rd.bn_pow, Rd.mt_app, Rd.mt_joi, Rd.mt_spl, Rd.mt_par, Rd.mt_rpa, Rd.my_split, Rd.my_partition, Rd.my_rpartition, Rd.my_count, Rd.my_find, Rd.my_rfind, Rd.my_join, Rd.my_app, Rd.ty_non_int, Rd.ty_non_str, Rd.ty_non_bool, Rd.ty_non_tuple, Rd.ty_non_list, Rd.ty_bl_int, Rd.ty_bl_str, Rd.ty_bl_bool, Rd.ty_bl_tuple, Rd.ty_bl_list, Rd.ty_int_int, Rd.ty_int_str, Rd.ty_int_bool, Rd.ty_int_tuple, Rd.ty_int_list, Rd.ty_str_int, Rd.ty_str_str, Rd.ty_str_bool, Rd.ty_str_tuple, Rd.ty_str_list, Rd.ty_tup_int, Rd.ty_tup_str, Rd.ty_tup_bool, Rd.ty_tup_tuple, Rd.ty_tup_list, Rd.ty_fl_int, Rd.ty_fl_str, Rd.ty_fl_bool, Rd.ty_fl_tuple, Rd.ty_fl_list, Rd.fm_str, Rd.fm_int, Rd.it_t, Rd.it_f, Rd.it_s, Rd.it_r, sl0, sl1, sl2, sl3, sl4, sl5, sl6, true_and, at0, at1, at2, in2, in3, ofS_inj]
    have e1 : ((((ls.map adT).map D.str).length + 1 + 1 : Nat) : Int) = (ls.length : Int) + 2 := by simp; omega
    simp only [e1]
    have e2 : decide ((2 : Int) ≤ (ls.length : Int) + 2) = true := decide_eq_true (by omega)
    have e3 : decide ((ls.length : Int) + 2 ≤ 6 + 2) = true := decide_eq_true (by omega)
    simp only [Option.some.injEq, exists_eq_left', in2, in3, ofS_inj, String.reduceEq, decide_false, Bool.or_false, Bool.false_eq_true, if_false, e2, e3, if_true, rB, rS, rE, rT, rO, rC, rX, rEs, rOX, rL, rWk, rG, rGs, rF, byT, lenT, endK, oflD, wipeD, List.getElem?_cons_zero, List.getElem?_cons_succ, List.set_cons_zero, List.set_cons_succ, Bool.not_true, Bool.not_false, Bool.false_eq_true, if_true, if_false, decide_true, decide_false, Bool.true_and, Bool.and_true, Bool.false_and, List.length_nil, List.length_cons, Nat.zero_add, Nat.reduceAdd, Rd.tr_bl, Rd.tr_non, Rd.tr_int, Rd.tr_str, Rd.tr_tup, Rd.tr_fl, Rd.tr_ref, Rd.eq_int, Rd.eq_str, Rd.eq_bl, Rd.sq_tup, Rd.sq_fl, Rd.sq_ref, Rd.cm_eq, Rd.cm_ne, Rd.cm_in, Rd.cm_ni, Rd.is_non, Rd.isn_non, Rd.is_bl, Rd.isn_bl, Rd.is_int, Rd.isn_int, Rd.is_str, Rd.isn_str, Rd.is_tup, Rd.isn_tup, Rd.is_fl, Rd.isn_fl, Rd.is_ref, Rd.isn_ref, Rd.cm_lt, Rd.cm_le, Rd.cm_gt, Rd.cm_ge, Rd.ix_tup, Rd.ix_fl, Rd.ix_str, Rd.ix_ref, Rd.sl_tup, Rd.sl_str, Rd.sl_fl, Rd.sl_ref, Rd.ln_str, Rd.ln_tup, Rd.ln_fl, Rd.ln_ref, Rd.nt_int, Rd.nt_str, Rd.st_int, Rd.ab_int, Rd.od_str, Rd.mx_int, Rd.mn_int, Rd.dm_int, Rd.tp_seq, Rd.ls_seq, Rd.rp_any, Rd.bn_ii, Rd.bn_ss, Rd.bn_tt, Rd.bn_rr, Rd.bn_sub, Rd.bn_mul, Rd.bn_fdv, Rd.bn_mod, Rd.bn_pow, Rd.mt_app, Rd.mt_joi, Rd.mt_spl, Rd.mt_par, Rd.mt_rpa, Rd.my_split, Rd.my_partition, Rd.my_rpartition, Rd.my_count, Rd.my_find, Rd.my_rfind, Rd.my_join, Rd.my_app, Rd.ty_non_int, Rd.ty_non_str, Rd.ty_non_bool, Rd.ty_non_tuple, Rd.ty_non_list, Rd.ty_bl_int, Rd.ty_bl_str, Rd.ty_bl_bool, Rd.ty_bl_tuple, Rd.ty_bl_list, Rd.ty_int_int, Rd.ty_int_str, Rd.ty_int_bool, Rd.ty_int_tuple, Rd.ty_int_list, Rd.ty_str_int, Rd.ty_str_str, Rd.ty_str_bool, Rd.ty_str_tuple, Rd.ty_str_list, Rd.ty_tup_int, Rd.ty_tup_str, Rd.ty_tup_bool, Rd.ty_tup_tuple, Rd.ty_tup_list, Rd.ty_fl_int, Rd.ty_fl_str, Rd.ty_fl_bool, Rd.ty_fl_tuple, Rd.ty_fl_list, Rd.fm_str, Rd.fm_int, Rd.it_t, Rd.it_f, Rd.it_s, Rd.it_r, decide_true, ite_self]
    refine ⟨n, rfl, hn, ?_⟩
    simp only [hp2, Option.some.injEq, exists_eq_left', rB, rS, rE, rT, rO, rC, rX, rEs, rOX, rL, rWk, rG, rGs, rF, byT, lenT, endK, oflD, wipeD, List.getElem?_cons_zero, List.getElem?_cons_succ, List.set_cons_zero, List.set_cons_succ, Bool.not_true, Bool.not_false, Bool.false_eq_true, if_true, if_false, decide_true, decide_false, Bool.true_and, Bool.and_true, Bool.false_and, List.length_nil, List.length_cons, Nat.zero_add, Nat.reduceAdd, Rd.tr_bl, Rd.tr_non, Rd.tr_int, Rd.tr_str, Rd.tr_tup, Rd.tr_fl, Rd.tr_ref, Rd.eq_int, Rd.eq_str, Rd.eq_bl, Rd.sq_tup, Rd.sq_fl, Rd.sq_ref, Rd.cm_eq, Rd.cm_ne, Rd.cm_in, Rd.cm_ni, Rd.is_non, Rd.isn_non, Rd.is_bl, Rd.isn_bl, Rd.is_int, Rd.isn_int, Rd.is_str, Rd.isn_str, Rd.is_tup, Rd.isn_tup, Rd.is_fl, Rd.isn_fl, Rd.is_ref, Rd.isn_ref, Rd.cm_lt, Rd.cm_le, Rd.cm_gt, Rd.cm_ge, Rd.ix_tup, Rd.ix_fl, Rd.ix_str, Rd.ix_ref, Rd.sl_tup, Rd.sl_str, Rd.sl_fl, Rd.sl_ref, Rd.ln_str, Rd.ln_tup, Rd.ln_fl, Rd.ln_ref, Rd.nt_int, Rd.nt_str, Rd.st_int, Rd.ab_int, Rd.od_str, Rd.mx_int, Rd.mn_int, Rd.dm_int, Rd.tp_seq, Rd.ls_seq, Rd.rp_any, Rd.bn_ii, Rd.bn_ss, Rd.bn_tt, Rd.bn_rr, Rd.bn_sub, Rd.bn_mul, Rd.bn_fdv, Rd.bn_mod, Rd.bn_pow, Rd.mt_app, Rd.mt_joi, Rd.mt_spl, Rd.mt_par, Rd.mt_rpa, Rd.my_split, Rd.my_partition, Rd.my_rpartition, Rd.my_count, Rd.my_find, Rd.my_rfind, Rd.my_join, Rd.my_app, Rd.ty_non_int, Rd.ty_non_str, Rd.ty_non_bool, Rd.ty_non_tuple, Rd.ty_non_list, Rd.ty_bl_int, Rd.ty_bl_str, Rd.ty_bl_bool, Rd.ty_bl_tuple, Rd.ty_bl_list, Rd.ty_int_int, Rd.ty_int_str, Rd.ty_int_bool, Rd.ty_int_tuple, Rd.ty_int_list, Rd.ty_str_int, Rd.ty_str_str, Rd.ty_str_bool, Rd.ty_str_tuple, Rd.ty_str_list, Rd.ty_tup_int, Rd.ty_tup_str, Rd.ty_tup_bool, Rd.ty_tup_tuple, Rd.ty_tup_list, Rd.ty_fl_int, Rd.ty_fl_str, Rd.ty_fl_bool, Rd.ty_fl_tuple, Rd.ty_fl_list, Rd.fm_str, Rd.fm_int, Rd.it_t, Rd.it_f, Rd.it_s, Rd.it_r, sl0, sl1, sl2, sl3, sl4, sl5, sl6, true_and, at0, at1, at2, in2, in3, ofS_inj]
    refine ⟨n, hv, by omega, ?_⟩
    intro r2 hr2
    simp only [MH.get_same, cut2, List.drop_succ_cons, List.drop_zero]
    have e4 : (ls.map adT).map D.str = ls.map fun a => D.str (adT a) := by rw [List.map_map]; rfl
    rw [e4]
    refine gather_over ls (fun a => D.str (adT a)) adD MH.get_same (sz _ (by omega)) (fun a ha k hk => ⟨a, rfl, ok.2.2 a ha, hk⟩) ?_
    refine ⟨.page n ls, rfl, ok, trivial, ?_⟩
    simp only [rB, rS, rE, rT, rO, rC, rX, rEs, rOX, rL, rWk, rG, rGs, rF, byT, lenT, endK, oflD, wipeD, List.getElem?_cons_zero, List.getElem?_cons_succ, List.set_cons_zero, List.set_cons_succ, Bool.not_true, Bool.not_false, Bool.false_eq_true, if_true, if_false, decide_true, decide_false, Bool.true_and, Bool.and_true, Bool.false_and, List.length_nil, List.length_cons, Nat.zero_add, Nat.reduceAdd, Rd.tr_bl, Rd.tr_non, Rd.tr_int, Rd.tr_str, Rd.tr_tup, Rd.tr_fl, Rd.tr_ref, Rd.eq_int, Rd.eq_str, Rd.eq_bl, Rd.sq_tup, Rd.sq_fl, Rd.sq_ref, Rd.cm_eq, Rd.cm_ne, Rd.cm_in, Rd.cm_ni, Rd.is_non, Rd.isn_non, Rd.is_bl, Rd.isn_bl, Rd.is_int, Rd.isn_int, Rd.is_str, Rd.isn_str, Rd.is_tup, Rd.isn_tup, Rd.is_fl, Rd.isn_fl, Rd.is_ref, Rd.isn_ref, Rd.cm_lt, Rd.cm_le, Rd.cm_gt, Rd.cm_ge, Rd.ix_tup, Rd.ix_fl, Rd.ix_str, Rd.ix_ref, Rd.sl_tup, Rd.sl_str, Rd.sl_fl, Rd.sl_ref, Rd.ln_str, Rd.ln_tup, Rd.ln_fl, Rd.ln_ref, Rd.nt_int, Rd.nt_str, Rd.st_int, Rd.ab_int, Rd.od_str, Rd.mx_int, Rd.mn_int, Rd.dm_int, Rd.tp_seq, Rd.ls_seq, Rd.rp_any, Rd.bn_ii, Rd.bn_ss, Rd.bn_tt, Rd.bn_rr, Rd.bn_sub, Rd.bn_mul, Rd.bn_fdv, Rd.bn_mod, Rd.bn_pow, Rd.mt_app, Rd.mt_joi, Rd.mt_spl, Rd.mt_par, Rd.mt_rpa, Rd.my_split, Rd.my_partition, Rd.my_rpartition, Rd.my_count, Rd.my_find, Rd.my_rfind, Rd.my_join, Rd.my_app, Rd.ty_non_int, Rd.ty_non_str, Rd.ty_non_bool, Rd.ty_non_tuple, Rd.ty_non_list, Rd.ty_bl_int, Rd.ty_bl_str, Rd.ty_bl_bool, Rd.ty_bl_tuple, Rd.ty_bl_list, Rd.ty_int_int, Rd.ty_int_str, Rd.ty_int_bool, Rd.ty_int_tuple, Rd.ty_int_list, Rd.ty_str_int, Rd.ty_str_str, Rd.ty_str_bool, Rd.ty_str_tuple, Rd.ty_str_list, Rd.ty_tup_int, Rd.ty_tup_str, Rd.ty_tup_bool, Rd.ty_tup_tuple, Rd.ty_tup_list, Rd.ty_fl_int, Rd.ty_fl_str, Rd.ty_fl_bool, Rd.ty_fl_tuple, Rd.ty_fl_list, Rd.fm_str, Rd.fm_int, Rd.it_t, Rd.it_f, Rd.it_s, Rd.it_r]
    exact drop_by (sub.trans (.new hr2)) q
end Jn
namespace Jn
open PySem PySem.Spec PyProof.Rows L2 Mx TL
theorem get_none {M : MH} {a r : Addr} {o : MO} (h : MH.get ((a, o) :: M) r = none) : MH.get M r = none ∧ r ≠ a := by
  by_cases e : r = a
  · subst e
    rw [MH.get_same] at h
    cases h
  · exact ⟨by rw [MH.get_ne e] at h; exact h, e⟩
theorem pl_event_of (ds : List D) (M : MH) (Q : KE) (h : sp_event_of ds M Q fun _ _ => False) : rB E0 c_event_of (endK Q) (startD n_event_of.length ds) M := by
  obtain ⟨p, e, rfl, hp, ok, q⟩ := h
  change rB E0 c_event_of (endK Q) [some (.ref p)] M
  have one : ∀ s : Str, (s = "ask" ∨ s = "lost" ∨ s = "cut") → MH.get M p = some (.lst [.str s]) → Q (.tup [.str s]) M → rB E0 c_event_of (endK Q) [some (.ref p)] M := by
    intro s hs hp q
    have e3 : (decide (Str.ofString "ask" = s) || (decide (Str.ofString "lost" = s) || decide (Str.ofString "cut" = s))) = true := by
      rcases hs with rfl | rfl | rfl <;> simp
    simp only [c_event_of, rB, rS, rE, rT, rO, rC, rX, rEs, rOX, rL, rWk, rG, rGs, rF, byT, lenT, endK, oflD, wipeD, List.getElem?_cons_zero, List.getElem?_cons_succ, List.set_cons_zero, List.set_cons_succ, Bool.not_true, Bool.not_false, Bool.false_eq_true, if_true, if_false, decide_true, decide_false, Bool.true_and, Bool.and_true, Bool.false_and, List.length_nil, List.length_cons, Nat.zero_add, Nat.reduceAdd, Rd.tr_bl, Rd.tr_non, Rd.tr_int, Rd.tr_str, Rd.tr_tup, Rd.tr_fl, Rd.tr_ref, Rd.eq_int, Rd.eq_str, Rd.eq_bl, Rd.sq_tup, Rd.sq_fl, Rd.sq_ref, Rd.cm_eq, Rd.cm_ne, Rd.cm_in, Rd.cm_ni, Rd.is_non, Rd.isn_non, Rd.is_bl, Rd.isn_bl, Rd.is_int, Rd.isn_int, Rd.is_str, Rd.isn_str, Rd.is_tup, Rd.isn_tup, Rd.is_fl, Rd.isn_fl, Rd.is_ref, Rd.isn_ref, Rd.cm_lt, Rd.cm_le, Rd.cm_gt, Rd.cm_ge, Rd.ix_tup, Rd.ix_fl, Rd.ix_str, Rd.ix_ref, Rd.sl_tup, Rd.sl_str, Rd.sl_fl, Rd.sl_ref, Rd.ln_str, Rd.ln_tup, Rd.ln_fl, Rd.ln_ref, Rd.nt_int, Rd.nt_str, Rd.st_int, Rd.ab_int, Rd.od_str, Rd.mx_int, Rd.mn_int, Rd.dm_int, Rd.tp_seq, Rd.ls_seq, Rd.rp_any, Rd.bn_ii, Rd.bn_ss, Rd.bn_tt, Rd.bn_rr, Rd.bn_sub, Rd.bn_mul, Rd.bn_fdv, Rd.bn_mod, Rd.bn_pow, Rd.mt_app, Rd.mt_joi, Rd.mt_spl, Rd.mt_par, Rd.mt_rpa, Rd.my_split, Rd.my_partition, Rd.my_rpartition, Rd.my_count, Rd.my_find, Rd.my_rfind, Rd.my_join, Rd.my_app, Rd.ty_non_int, Rd.ty_non_str, Rd.ty_non_bool, Rd.ty_non_tuple, Rd.ty_non_list, Rd.ty_bl_int, Rd.ty_bl_str, Rd.ty_bl_bool, Rd.ty_bl_tuple, Rd.ty_bl_list, Rd.ty_int_int, Rd.ty_int_str, Rd.ty_int_bool, Rd.ty_int_tuple, Rd.ty_int_list, Rd.ty_str_int, Rd.ty_str_str, Rd.ty_str_bool, Rd.ty_str_tuple, Rd.ty_str_list, Rd.ty_tup_int, Rd.ty_tup_str, Rd.ty_tup_bool, Rd.ty_tup_tuple, Rd.ty_tup_list, Rd.ty_fl_int, Rd.ty_fl_str, Rd.ty_fl_bool, Rd.ty_fl_tuple, Rd.ty_fl_list, Rd.fm_str, Rd.fm_int, Rd.it_t, Rd.it_f, Rd.it_s, Rd.it_r, hp, sl3, sl1, true_and, at0, in3, e3, decide_true, Option.some.injEq, exists_eq_left', Int.reduceEq, if_true, show ((1 : Nat) : Int) = 1 from rfl]
    exact drop_here q
  have far : isAns e → rB E0 c_event_of (endK Q) [some (.ref p)] M := by
    intro ia
    cases e with
    | ask => exact ia.elim
    | lost => exact ia.elim
    | cut => exact ia.elim
    | gone =>
      have hp2 : MH.get M p = some (.lst [.str "gone"]) := hp
      simp only [c_event_of, rB, rS, rE, rT, rO, rC, rX, rEs, rOX, rL, rWk, rG, rGs, rF, byT, lenT, endK, oflD, wipeD, List.getElem?_cons_zero, List.getElem?_cons_succ, List.set_cons_zero, List.set_cons_succ, Bool.not_true, Bool.not_false, Bool.false_eq_true, if_true, if_false, decide_true, decide_false, Bool.true_and, Bool.and_true, Bool.false_and, List.length_nil, List.length_cons, Nat.zero_add, Nat.reduceAdd, Rd.tr_bl, Rd.tr_non, Rd.tr_int, Rd.tr_str, Rd.tr_tup, Rd.tr_fl, Rd.tr_ref, Rd.eq_int, Rd.eq_str, Rd.eq_bl, Rd.sq_tup, Rd.sq_fl, Rd.sq_ref, Rd.cm_eq, Rd.cm_ne, Rd.cm_in, Rd.cm_ni, Rd.is_non, Rd.isn_non, Rd.is_bl, Rd.isn_bl, Rd.is_int, Rd.isn_int, Rd.is_str, Rd.isn_str, Rd.is_tup, Rd.isn_tup, Rd.is_fl, Rd.isn_fl, Rd.is_ref, Rd.isn_ref, Rd.cm_lt, Rd.cm_le, Rd.cm_gt, Rd.cm_ge, Rd.ix_tup, Rd.ix_fl, Rd.ix_str, Rd.ix_ref, Rd.sl_tup, Rd.sl_str, Rd.sl_fl, Rd.sl_ref, Rd.ln_str, Rd.ln_tup, Rd.ln_fl, Rd.ln_ref, Rd.nt_int, Rd.nt_str, Rd.st_int, Rd.ab_int, Rd.od_str, Rd.mx_int, Rd.mn_int, Rd.dm_int, Rd.tp_seq, Rd.ls_seq, Rd.rp_any, Rd.bn_ii, Rd.bn_ss, Rd.bn_tt, Rd.bn_rr, Rd.bn_sub, Rd.bn_mul, Rd.bn_fdv, Rd.bn_mod, Rd.bn_pow, Rd.mt_app, Rd.mt_joi, Rd.mt_spl, Rd.mt_par, Rd.mt_rpa, Rd.my_split, Rd.my_partition, Rd.my_rpartition, Rd.my_count, Rd.my_find, Rd.my_rfind, Rd.my_join, Rd.my_app, Rd.ty_non_int, Rd.ty_non_str, Rd.ty_non_bool, Rd.ty_non_tuple, Rd.ty_non_list, Rd.ty_bl_int, Rd.ty_bl_str, Rd.ty_bl_bool, Rd.ty_bl_tuple, Rd.ty_bl_list, Rd.ty_int_int, Rd.ty_int_str, Rd.ty_int_bool, Rd.ty_int_tuple, Rd.ty_int_list, Rd.ty_str_int, Rd.ty_str_str, Rd.ty_str_bool, Rd.ty_str_tuple, Rd.ty_str_list, Rd.ty_tup_int, Rd.ty_tup_str, Rd.ty_tup_bool, Rd.ty_tup_tuple, Rd.ty_tup_list, Rd.ty_fl_int, Rd.ty_fl_str, Rd.ty_fl_bool, Rd.ty_fl_tuple, Rd.ty_fl_list, Rd.fm_str, Rd.fm_int, Rd.it_t, Rd.it_f, Rd.it_s, Rd.it_r, hp2, sl3, true_and, at0, in3, ofS_inj, String.reduceEq, decide_false, Bool.or_false, Bool.false_eq_true, if_false, Option.some.injEq, exists_eq_left', decide_true, if_true, show ((1 : Nat) : Int) = 1 from rfl]
      exact ⟨p, .gone, rfl, hp, ok, ia, drop_here q⟩
    | moved a =>
      have hp2 : MH.get M p = some (.lst [.str "moved", .str (adT a)]) := hp
      simp only [c_event_of, rB, rS, rE, rT, rO, rC, rX, rEs, rOX, rL, rWk, rG, rGs, rF, byT, lenT, endK, oflD, wipeD, List.getElem?_cons_zero, List.getElem?_cons_succ, List.set_cons_zero, List.set_cons_succ, Bool.not_true, Bool.not_false, Bool.false_eq_true, if_true, if_false, decide_true, decide_false, Bool.true_and, Bool.and_true, Bool.false_and, List.length_nil, List.length_cons, Nat.zero_add, Nat.reduceAdd, Rd.tr_bl, Rd.tr_non, Rd.tr_int, Rd.tr_str, Rd.tr_tup, Rd.tr_fl, Rd.tr_ref, Rd.eq_int, Rd.eq_str, Rd.eq_bl, Rd.sq_tup, Rd.sq_fl, Rd.sq_ref, Rd.cm_eq, Rd.cm_ne, Rd.cm_in, Rd.cm_ni, Rd.is_non, Rd.isn_non, Rd.is_bl, Rd.isn_bl, Rd.is_int, Rd.isn_int, Rd.is_str, Rd.isn_str, Rd.is_tup, Rd.isn_tup, Rd.is_fl, Rd.isn_fl, Rd.is_ref, Rd.isn_ref, Rd.cm_lt, Rd.cm_le, Rd.cm_gt, Rd.cm_ge, Rd.ix_tup, Rd.ix_fl, Rd.ix_str, Rd.ix_ref, Rd.sl_tup, Rd.sl_str, Rd.sl_fl, Rd.sl_ref, Rd.ln_str, Rd.ln_tup, Rd.ln_fl, Rd.ln_ref, Rd.nt_int, Rd.nt_str, Rd.st_int, Rd.ab_int, Rd.od_str, Rd.mx_int, Rd.mn_int, Rd.dm_int, Rd.tp_seq, Rd.ls_seq, Rd.rp_any, Rd.bn_ii, Rd.bn_ss, Rd.bn_tt, Rd.bn_rr, Rd.bn_sub, Rd.bn_mul, Rd.bn_fdv, Rd.bn_mod, Rd.bn_pow, Rd.mt_app, Rd.mt_joi, Rd.mt_spl, Rd.mt_par, Rd.mt_rpa, Rd.my_split, Rd.my_partition, Rd.my_rpartition, Rd.my_count, Rd.my_find, Rd.my_rfind, Rd.my_join, Rd.my_app, Rd.ty_non_int, Rd.ty_non_str, Rd.ty_non_bool, Rd.ty_non_tuple, Rd.ty_non_list, Rd.ty_bl_int, Rd.ty_bl_str, Rd.ty_bl_bool, Rd.ty_bl_tuple, Rd.ty_bl_list, Rd.ty_int_int, Rd.ty_int_str, Rd.ty_int_bool, Rd.ty_int_tuple, Rd.ty_int_list, Rd.ty_str_int, Rd.ty_str_str, Rd.ty_str_bool, Rd.ty_str_tuple, Rd.ty_str_list, Rd.ty_tup_int, Rd.ty_tup_str, Rd.ty_tup_bool, Rd.ty_tup_tuple, Rd.ty_tup_list, Rd.ty_fl_int, Rd.ty_fl_str, Rd.ty_fl_bool, Rd.ty_fl_tuple, Rd.ty_fl_list, Rd.fm_str, Rd.fm_int, Rd.it_t, Rd.it_f, Rd.it_s, Rd.it_r, hp2, show decide (((2 : Nat) : Int) = 1) = false from rfl]
      exact ⟨p, .moved a, rfl, hp, ok, ia, drop_here q⟩
    | same a =>
      have hp2 : MH.get M p = some (.lst [.str "same", .str (adT a)]) := hp
      simp only [c_event_of, rB, rS, rE, rT, rO, rC, rX, rEs, rOX, rL, rWk, rG, rGs, rF, byT, lenT, endK, oflD, wipeD, List.getElem?_cons_zero, List.getElem?_cons_succ, List.set_cons_zero, List.set_cons_succ, Bool.not_true, Bool.not_false, Bool.false_eq_true, if_true, if_false, decide_true, decide_false, Bool.true_and, Bool.and_true, Bool.false_and, List.length_nil, List.length_cons, Nat.zero_add, Nat.reduceAdd, Rd.tr_bl, Rd.tr_non, Rd.tr_int, Rd.tr_str, Rd.tr_tup, Rd.tr_fl, Rd.tr_ref, Rd.eq_int, Rd.eq_str, Rd.eq_bl, Rd.sq_tup, Rd.sq_fl, Rd.sq_ref, Rd.cm_eq, Rd.cm_ne, Rd.cm_in, Rd.cm_ni, Rd.is_non, Rd.isn_non, Rd.is_bl, Rd.isn_bl, Rd.is_int, Rd.isn_int, Rd.is_str, Rd.isn_str, Rd.is_tup, Rd.isn_tup, Rd.is_fl, Rd.isn_fl, Rd.is_ref, Rd.isn_ref, Rd.cm_lt, Rd.cm_le, Rd.cm_gt, Rd.cm_ge, Rd.ix_tup, Rd.ix_fl, Rd.ix_str, Rd.ix_ref, Rd.sl_tup, Rd.sl_str, Rd.sl_fl, Rd.sl_ref, Rd.ln_str, Rd.ln_tup, Rd.ln_fl, Rd.ln_ref, Rd.nt_int, Rd.nt_str, Rd.st_int, Rd.ab_int, Rd.od_str, Rd.mx_int, Rd.mn_int, Rd.dm_int, Rd.tp_seq, Rd.ls_seq, Rd.rp_any, Rd.bn_ii, Rd.bn_ss, Rd.bn_tt, Rd.bn_rr, Rd.bn_sub, Rd.bn_mul, Rd.bn_fdv, Rd.bn_mod, Rd.bn_pow, Rd.mt_app, Rd.mt_joi, Rd.mt_spl, Rd.mt_par, Rd.mt_rpa, Rd.my_split, Rd.my_partition, Rd.my_rpartition, Rd.my_count, Rd.my_find, Rd.my_rfind, Rd.my_join, Rd.my_app, Rd.ty_non_int, Rd.ty_non_str, Rd.ty_non_bool, Rd.ty_non_tuple, Rd.ty_non_list, Rd.ty_bl_int, Rd.ty_bl_str, Rd.ty_bl_bool, Rd.ty_bl_tuple, Rd.ty_bl_list, Rd.ty_int_int, Rd.ty_int_str, Rd.ty_int_bool, Rd.ty_int_tuple, Rd.ty_int_list, Rd.ty_str_int, Rd.ty_str_str, Rd.ty_str_bool, Rd.ty_str_tuple, Rd.ty_str_list, Rd.ty_tup_int, Rd.ty_tup_str, Rd.ty_tup_bool, Rd.ty_tup_tuple, Rd.ty_tup_list, Rd.ty_fl_int, Rd.ty_fl_str, Rd.ty_fl_bool, Rd.ty_fl_tuple, Rd.ty_fl_list, Rd.fm_str, Rd.fm_int, Rd.it_t, Rd.it_f, Rd.it_s, Rd.it_r, hp2, show decide (((2 : Nat) : Int) = 1) = false from rfl]
      exact ⟨p, .same a, rfl, hp, ok, ia, drop_here q⟩
    | page n ls =>
      have hp2 : MH.get M p = some (.lst (.str "page" :: .str (numT n) :: (ls.map adT).map .str)) := hp
      have e1 : decide (((((ls.map adT).map D.str).length + 1 + 1 : Nat) : Int) = 1) = false := decide_eq_false (by omega)
      simp only [c_event_of, rB, rS, rE, rT, rO, rC, rX, rEs, rOX, rL, rWk, rG, rGs, rF, byT, lenT, endK, oflD, wipeD, List.getElem?_cons_zero, List.getElem?_cons_succ, List.set_cons_zero, List.set_cons_succ, Bool.not_true, Bool.not_false, Bool.false_eq_true, if_true, if_false, decide_true, decide_false, Bool.true_and, Bool.and_true, Bool.false_and, List.length_nil, List.length_cons, Nat.zero_add, Nat.reduceAdd, Rd.tr_bl, Rd.tr_non, Rd.tr_int, Rd.tr_str, Rd.tr_tup, Rd.tr_fl, Rd.tr_ref, Rd.eq_int, Rd.eq_str, Rd.eq_bl, Rd.sq_tup, Rd.sq_fl, Rd.sq_ref, Rd.cm_eq, Rd.cm_ne, Rd.cm_in, Rd.cm_ni, Rd.is_non, Rd.isn_non, Rd.is_bl, Rd.isn_bl, Rd.is_int, Rd.isn_int, Rd.is_str, Rd.isn_str, Rd.is_tup, Rd.isn_tup, Rd.is_fl, Rd.isn_fl, Rd.is_ref, Rd.isn_ref, Rd.cm_lt, Rd.cm_le, Rd.cm_gt, Rd.cm_ge, Rd.ix_tup, Rd.ix_fl, Rd.ix_str, Rd.ix_ref, Rd.sl_tup, Rd.sl_str, Rd.sl_fl, Rd.sl_ref, Rd.ln_str, Rd.ln_tup, Rd.ln_fl, Rd.ln_ref, Rd.nt_int, Rd.nt_str, Rd.st_int, Rd.ab_int, Rd.od_str, Rd.mx_int, Rd.mn_int, Rd.dm_int, Rd.tp_seq, Rd.ls_seq, Rd.rp_any, Rd.bn_ii, Rd.bn_ss, Rd.bn_tt, Rd.bn_rr, Rd.bn_sub, Rd.bn_mul, Rd.bn_fdv, Rd.bn_mod, Rd.bn_pow, Rd.mt_app, Rd.mt_joi, Rd.mt_spl, Rd.mt_par, Rd.mt_rpa, Rd.my_split, Rd.my_partition, Rd.my_rpartition, Rd.my_count, Rd.my_find, Rd.my_rfind, Rd.my_join, Rd.my_app, Rd.ty_non_int, Rd.ty_non_str, Rd.ty_non_bool, Rd.ty_non_tuple, Rd.ty_non_list, Rd.ty_bl_int, Rd.ty_bl_str, Rd.ty_bl_bool, Rd.ty_bl_tuple, Rd.ty_bl_list, Rd.ty_int_int, Rd.ty_int_str, Rd.ty_int_bool, Rd.ty_int_tuple, Rd.ty_int_list, Rd.ty_str_int, Rd.ty_str_str, Rd.ty_str_bool, Rd.ty_str_tuple, Rd.ty_str_list, Rd.ty_tup_int, Rd.ty_tup_str, Rd.ty_tup_bool, Rd.ty_tup_tuple, Rd.ty_tup_list, Rd.ty_fl_int, Rd.ty_fl_str, Rd.ty_fl_bool, Rd.ty_fl_tuple, Rd.ty_fl_list, Rd.fm_str, Rd.fm_int, Rd.it_t, Rd.it_f, Rd.it_s, Rd.it_r, hp2, e1]
      exact ⟨p, .page n ls, rfl, hp, ok, ia, drop_here q⟩
  cases e with
  | ask => exact one "ask" (.inl rfl) hp q
  | lost => exact one "lost" (.inr (.inl rfl)) hp q
  | cut => exact one "cut" (.inr (.inr rfl)) hp q
  | gone => exact far trivial
  | moved a => exact far trivial
  | same a => exact far trivial
  | page n ls => exact far trivial
theorem log_small {n : Nat} (h : n ≤ 999999999999) : (n : Int).natAbs.log2 < 1920 := by
  rw [Int.natAbs_natCast]
  by_cases h0 : n = 0
  · subst h0
    decide
  · refine Nat.lt_of_lt_of_le ((Nat.log2_lt h0).mpr (show n < 2 ^ 40 by omega)) (by decide)
theorem ev0 (e : JE) : ∃ r, evD e = .tup (.str (kindT e) :: r) := by cases e <;> exact ⟨_, rfl⟩
theorem two_new {M : MH} {a b c : Addr} {o u v : MO} (ha : M.get a = none) (hb : MH.get ((a, o) :: M) b = none) (hc : MH.get ((b, u) :: (a, o) :: M) c = none) : M.get c = none ∧ SubM ((c, v) :: M) ((c, v) :: (b, u) :: (a, o) :: M) :=
  ⟨(get_none (get_none hc).1).1, .cons ((SubM.new ha).trans (.new hb))⟩
theorem pl_words_behind (ds : List D) (M : MH) (Q : KE) (h : sp_words_behind ds M Q fun _ _ => False) : rB E0 c_words_behind (endK Q) (startD n_words_behind.length ds) M := by
  obtain ⟨e, rfl, ok, q⟩ := h
  change rB E0 c_words_behind (endK Q) [some (evD e), none] M
  have none : ∀ s : Str, (s = "ask" ∨ s = "lost" ∨ s = "cut" ∨ s = "gone") → (∀ r, M.get r = none → Q (.ref r) ((r, strsM []) :: M)) → rB E0 c_words_behind (endK Q) [some (.tup [.str s]), Option.none] M := by
    intro s hs q
    have e2 : (decide (Str.ofString "moved" = s) || decide (Str.ofString "same" = s)) = false := by
      rcases hs with rfl | rfl | rfl | rfl <;> simp [ofS_inj]
    have e1 : decide (s = Str.ofString "page") = false := by
      rcases hs with rfl | rfl | rfl | rfl <;> simp [ofS_inj]
    simp only [c_words_behind, rB, rS, rE, rT, rO, rC, rX, rEs, rOX, rL, rWk, rG, rGs, rF, byT, lenT, endK, oflD, wipeD, List.getElem?_cons_zero, List.getElem?_cons_succ, List.set_cons_zero, List.set_cons_succ, Bool.not_true, Bool.not_false, Bool.false_eq_true, if_true, if_false, decide_true, decide_false, Bool.true_and, Bool.and_true, Bool.false_and, List.length_nil, List.length_cons, Nat.zero_add, Nat.reduceAdd, Rd.tr_bl, Rd.tr_non, Rd.tr_int, Rd.tr_str, Rd.tr_tup, Rd.tr_fl, Rd.tr_ref, Rd.eq_int, Rd.eq_str, Rd.eq_bl, Rd.sq_tup, Rd.sq_fl, Rd.sq_ref, Rd.cm_eq, Rd.cm_ne, Rd.cm_in, Rd.cm_ni, Rd.is_non, Rd.isn_non, Rd.is_bl, Rd.isn_bl, Rd.is_int, Rd.isn_int, Rd.is_str, Rd.isn_str, Rd.is_tup, Rd.isn_tup, Rd.is_fl, Rd.isn_fl, Rd.is_ref, Rd.isn_ref, Rd.cm_lt, Rd.cm_le, Rd.cm_gt, Rd.cm_ge, Rd.ix_tup, Rd.ix_fl, Rd.ix_str, Rd.ix_ref, Rd.sl_tup, Rd.sl_str, Rd.sl_fl, Rd.sl_ref, Rd.ln_str, Rd.ln_tup, Rd.ln_fl, Rd.ln_ref, Rd.nt_int, Rd.nt_str, Rd.st_int, Rd.ab_int, Rd.od_str, Rd.mx_int, Rd.mn_int, Rd.dm_int, Rd.tp_seq, Rd.ls_seq, Rd.rp_any, Rd.bn_ii, Rd.bn_ss, Rd.bn_tt, Rd.bn_rr, Rd.bn_sub, Rd.bn_mul, Rd.bn_fdv, Rd.bn_mod, Rd.bn_pow, Rd.mt_app, Rd.mt_joi, Rd.mt_spl, Rd.mt_par, Rd.mt_rpa, Rd.my_split, Rd.my_partition, Rd.my_rpartition, Rd.my_count, Rd.my_find, Rd.my_rfind, Rd.my_join, Rd.my_app, Rd.ty_non_int, Rd.ty_non_str, Rd.ty_non_bool, Rd.ty_non_tuple, Rd.ty_non_list, Rd.ty_bl_int, Rd.ty_bl_str, Rd.ty_bl_bool, Rd.ty_bl_tuple, Rd.ty_bl_list, Rd.ty_int_int, Rd.ty_int_str, Rd.ty_int_bool, Rd.ty_int_tuple, Rd.ty_int_list, Rd.ty_str_int, Rd.ty_str_str, Rd.ty_str_bool, Rd.ty_str_tuple, Rd.ty_str_list, Rd.ty_tup_int, Rd.ty_tup_str, Rd.ty_tup_bool, Rd.ty_tup_tuple, Rd.ty_tup_list, Rd.ty_fl_int, Rd.ty_fl_str, Rd.ty_fl_bool, Rd.ty_fl_tuple, Rd.ty_fl_list, Rd.fm_str, Rd.fm_int, Rd.it_t, Rd.it_f, Rd.it_s, Rd.it_r, at0, Option.some.injEq, exists_eq_left', e1, sl0, sl1, sl2, sl3, sl4, sl5, sl6, true_and, at0, at1, at2, in2, in3, ofS_inj, e2]
    exact fun r hr _ => drop_here (q r hr)
  have single : ∀ (s : Str) (a : Ad), (s = "moved" ∨ s = "same") → okAd a → (∀ r, M.get r = Option.none → Q (.ref r) ((r, strsM [adT a]) :: M)) → rB E0 c_words_behind (endK Q) [some (.tup [.str s, adD a]), Option.none] M := by
    intro s a hs oka q
    have e2 : (decide (Str.ofString "moved" = s) || decide (Str.ofString "same" = s)) = true := by
      rcases hs with rfl | rfl <;> simp
    have e1 : decide (s = Str.ofString "page") = false := by
      rcases hs with rfl | rfl <;> simp [ofS_inj]
    simp only [c_words_behind, rB, rS, rE, rT, rO, rC, rX, rEs, rOX, rL, rWk, rG, rGs, rF, byT, lenT, endK, oflD, wipeD, List.getElem?_cons_zero, List.getElem?_cons_succ, List.set_cons_zero, List.set_cons_succ, Bool.not_true, Bool.not_false, Bool.false_eq_true, if_true, if_false, decide_true, decide_false, Bool.true_and, Bool.and_true, Bool.false_and, List.length_nil, List.length_cons, Nat.zero_add, Nat.reduceAdd, Rd.tr_bl, Rd.tr_non, Rd.tr_int, Rd.tr_str, Rd.tr_tup, Rd.tr_fl, Rd.tr_ref, Rd.eq_int, Rd.eq_str, Rd.eq_bl, Rd.sq_tup, Rd.sq_fl, Rd.sq_ref, Rd.cm_eq, Rd.cm_ne, Rd.cm_in, Rd.cm_ni, Rd.is_non, Rd.isn_non, Rd.is_bl, Rd.isn_bl, Rd.is_int, Rd.isn_int, Rd.is_str, Rd.isn_str, Rd.is_tup, Rd.isn_tup, Rd.is_fl, Rd.isn_fl, Rd.is_ref, Rd.isn_ref, Rd.cm_lt, Rd.cm_le, Rd.cm_gt, Rd.cm_ge, Rd.ix_tup, Rd.ix_fl, Rd.ix_str, Rd.ix_ref, Rd.sl_tup, Rd.sl_str, Rd.sl_fl, Rd.sl_ref, Rd.ln_str, Rd.ln_tup, Rd.ln_fl, Rd.ln_ref, Rd.nt_int, Rd.nt_str, Rd.st_int, Rd.ab_int, Rd.od_str, Rd.mx_int, Rd.mn_int, Rd.dm_int, Rd.tp_seq, Rd.ls_seq, Rd.rp_any, Rd.bn_ii, Rd.bn_ss, Rd.bn_tt, Rd.bn_rr, Rd.bn_sub, Rd.bn_mul, Rd.bn_fdv, Rd.bn_mod, Rd.bn_pow, Rd.mt_app, Rd.mt_joi, Rd.mt_spl, Rd.mt_par, Rd.mt_rpa, Rd.my_split, Rd.my_partition, Rd.my_rpartition, Rd.my_count, Rd.my_find, Rd.my_rfind, Rd.my_join, Rd.my_app, Rd.ty_non_int, Rd.ty_non_str, Rd.ty_non_bool, Rd.ty_non_tuple, Rd.ty_non_list, Rd.ty_bl_int, Rd.ty_bl_str, Rd.ty_bl_bool, Rd.ty_bl_tuple, Rd.ty_bl_list, Rd.ty_int_int, Rd.ty_int_str, Rd.ty_int_bool, Rd.ty_int_tuple, Rd.ty_int_list, Rd.ty_str_int, Rd.ty_str_str, Rd.ty_str_bool, Rd.ty_str_tuple, Rd.ty_str_list, Rd.ty_tup_int, Rd.ty_tup_str, Rd.ty_tup_bool, Rd.ty_tup_tuple, Rd.ty_tup_list, Rd.ty_fl_int, Rd.ty_fl_str, Rd.ty_fl_bool, Rd.ty_fl_tuple, Rd.ty_fl_list, Rd.fm_str, Rd.fm_int, Rd.it_t, Rd.it_f, Rd.it_s, Rd.it_r, at0, Option.some.injEq, exists_eq_left', e1, sl0, sl1, sl2, sl3, sl4, sl5, sl6, true_and, at0, at1, at2, in2, in3, ofS_inj, e2]
    refine ⟨a, rfl, oka, ?_⟩
    simp only [rB, rS, rE, rT, rO, rC, rX, rEs, rOX, rL, rWk, rG, rGs, rF, byT, lenT, endK, oflD, wipeD, List.getElem?_cons_zero, List.getElem?_cons_succ, List.set_cons_zero, List.set_cons_succ, Bool.not_true, Bool.not_false, Bool.false_eq_true, if_true, if_false, decide_true, decide_false, Bool.true_and, Bool.and_true, Bool.false_and, List.length_nil, List.length_cons, Nat.zero_add, Nat.reduceAdd, Rd.tr_bl, Rd.tr_non, Rd.tr_int, Rd.tr_str, Rd.tr_tup, Rd.tr_fl, Rd.tr_ref, Rd.eq_int, Rd.eq_str, Rd.eq_bl, Rd.sq_tup, Rd.sq_fl, Rd.sq_ref, Rd.cm_eq, Rd.cm_ne, Rd.cm_in, Rd.cm_ni, Rd.is_non, Rd.isn_non, Rd.is_bl, Rd.isn_bl, Rd.is_int, Rd.isn_int, Rd.is_str, Rd.isn_str, Rd.is_tup, Rd.isn_tup, Rd.is_fl, Rd.isn_fl, Rd.is_ref, Rd.isn_ref, Rd.cm_lt, Rd.cm_le, Rd.cm_gt, Rd.cm_ge, Rd.ix_tup, Rd.ix_fl, Rd.ix_str, Rd.ix_ref, Rd.sl_tup, Rd.sl_str, Rd.sl_fl, Rd.sl_ref, Rd.ln_str, Rd.ln_tup, Rd.ln_fl, Rd.ln_ref, Rd.nt_int, Rd.nt_str, Rd.st_int, Rd.ab_int, Rd.od_str, Rd.mx_int, Rd.mn_int, Rd.dm_int, Rd.tp_seq, Rd.ls_seq, Rd.rp_any, Rd.bn_ii, Rd.bn_ss, Rd.bn_tt, Rd.bn_rr, Rd.bn_sub, Rd.bn_mul, Rd.bn_fdv, Rd.bn_mod, Rd.bn_pow, Rd.mt_app, Rd.mt_joi, Rd.mt_spl, Rd.mt_par, Rd.mt_rpa, Rd.my_split, Rd.my_partition, Rd.my_rpartition, Rd.my_count, Rd.my_find, Rd.my_rfind, Rd.my_join, Rd.my_app, Rd.ty_non_int, Rd.ty_non_str, Rd.ty_non_bool, Rd.ty_non_tuple, Rd.ty_non_list, Rd.ty_bl_int, Rd.ty_bl_str, Rd.ty_bl_bool, Rd.ty_bl_tuple, Rd.ty_bl_list, Rd.ty_int_int, Rd.ty_int_str, Rd.ty_int_bool, Rd.ty_int_tuple, Rd.ty_int_list, Rd.ty_str_int, Rd.ty_str_str, Rd.ty_str_bool, Rd.ty_str_tuple, Rd.ty_str_list, Rd.ty_tup_int, Rd.ty_tup_str, Rd.ty_tup_bool, Rd.ty_tup_tuple, Rd.ty_tup_list, Rd.ty_fl_int, Rd.ty_fl_str, Rd.ty_fl_bool, Rd.ty_fl_tuple, Rd.ty_fl_list, Rd.fm_str, Rd.fm_int, Rd.it_t, Rd.it_f, Rd.it_s, Rd.it_r, sl0, sl1, sl2, sl3, sl4, sl5, sl6, true_and, at0, at1, at2, in2, in3, ofS_inj]
    exact fun r hr _ => drop_here (q r hr)
  cases e with
  | ask => exact none "ask" (.inl rfl) q
  | lost => exact none "lost" (.inr (.inl rfl)) q
  | cut => exact none "cut" (.inr (.inr (.inl rfl))) q
  | gone => exact none "gone" (.inr (.inr (.inr rfl))) q
  | moved a => exact single "moved" a (.inl rfl) ok q
  | same a => exact single "same" a (.inr rfl) ok q
  | page n ls =>
    change rB E0 c_words_behind (endK Q) [some (.tup [.str "page", .int n, .tup (ls.map adD)]), Option.none] M
    have hl := ok.2.1
    have hn : n ≤ 999999999999 := by have := ok.1; omega
    simp only [c_words_behind, rB, rS, rE, rT, rO, rC, rX, rEs, rOX, rL, rWk, rG, rGs, rF, byT, lenT, endK, oflD, wipeD, List.getElem?_cons_zero, List.getElem?_cons_succ, List.set_cons_zero, List.set_cons_succ, Bool.not_true, Bool.not_false, Bool.false_eq_true, if_true, if_false, decide_true, decide_false, Bool.true_and, Bool.and_true, Bool.false_and, List.length_nil, List.length_cons, Nat.zero_add, Nat.reduceAdd, Rd.tr_bl, Rd.tr_non, Rd.tr_int, Rd.tr_str, Rd.tr_tup, Rd.tr_fl, Rd.tr_ref, Rd.eq_int, Rd.eq_str, Rd.eq_bl, Rd.sq_tup, Rd.sq_fl, Rd.sq_ref, Rd.cm_eq, Rd.cm_ne, Rd.cm_in, Rd.cm_ni, Rd.is_non, Rd.isn_non, Rd.is_bl, Rd.isn_bl, Rd.is_int, Rd.isn_int, Rd.is_str, Rd.isn_str, Rd.is_tup, Rd.isn_tup, Rd.is_fl, Rd.isn_fl, Rd.is_ref, Rd.isn_ref, Rd.cm_lt, Rd.cm_le, Rd.cm_gt, Rd.cm_ge, Rd.ix_tup, Rd.ix_fl, Rd.ix_str, Rd.ix_ref, Rd.sl_tup, Rd.sl_str, Rd.sl_fl, Rd.sl_ref, Rd.ln_str, Rd.ln_tup, Rd.ln_fl, Rd.ln_ref, Rd.nt_int, Rd.nt_str, Rd.st_int, Rd.ab_int, Rd.od_str, Rd.mx_int, Rd.mn_int, Rd.dm_int, Rd.tp_seq, Rd.ls_seq, Rd.rp_any, Rd.bn_ii, Rd.bn_ss, Rd.bn_tt, Rd.bn_rr, Rd.bn_sub, Rd.bn_mul, Rd.bn_fdv, Rd.bn_mod, Rd.bn_pow, Rd.mt_app, Rd.mt_joi, Rd.mt_spl, Rd.mt_par, Rd.mt_rpa, Rd.my_split, Rd.my_partition, Rd.my_rpartition, Rd.my_count, Rd.my_find, Rd.my_rfind, Rd.my_join, Rd.my_app, Rd.ty_non_int, Rd.ty_non_str, Rd.ty_non_bool, Rd.ty_non_tuple, Rd.ty_non_list, Rd.ty_bl_int, Rd.ty_bl_str, Rd.ty_bl_bool, Rd.ty_bl_tuple, Rd.ty_bl_list, Rd.ty_int_int, Rd.ty_int_str, Rd.ty_int_bool, Rd.ty_int_tuple, Rd.ty_int_list, Rd.ty_str_int, Rd.ty_str_str, Rd.ty_str_bool, Rd.ty_str_tuple, Rd.ty_str_list, Rd.ty_tup_int, Rd.ty_tup_str, Rd.ty_tup_bool, Rd.ty_tup_tuple, Rd.ty_tup_list, Rd.ty_fl_int, Rd.ty_fl_str, Rd.ty_fl_bool, Rd.ty_fl_tuple, Rd.ty_fl_list, Rd.fm_str, Rd.fm_int, Rd.it_t, Rd.it_f, Rd.it_s, Rd.it_r, at0, at1, at2, Option.some.injEq, exists_eq_left', decide_true, sl0, sl1, sl2, sl3, sl4, sl5, sl6, true_and, at0, at1, at2, in2, in3, ofS_inj]
    refine ⟨log_small hn, fun r hr _ => ?_⟩
    refine gather_over ls adD (fun a => D.str (adT a)) trivial (sz _ (by omega)) (fun a ha k hk => ⟨a, rfl, ok.2.2 a ha, hk⟩) ?_
    intro r2 hr2 _
    refine ⟨_, _, get_old MH.get_same hr2, MH.get_same, ?_, fun r3 hr3 => ?_⟩
    · rw [List.length_map]
      exact sz _ (by simp; omega)
    · obtain ⟨n3, sub⟩ := two_new (v := strsM (wordsB (.page n ls))) hr hr2 hr3
      have e5 : strsM (wordsB (.page n ls)) = .lst ([D.str (Str.ofString (toString (n : Int)))] ++ ls.map fun a => D.str (adT a)) := by
        show MO.lst (D.str (numT n) :: (ls.map adT).map D.str) = _
        rw [List.map_map]
        rfl
      rw [e5] at sub
      refine drop_by sub ?_
      rw [← e5]
      exact q r3 n3
theorem pl_is_some_event (ds : List D) (M : MH) (Q : KE) (h : sp_is_some_event ds M Q fun _ _ => False) : rB E0 c_is_some_event (endK Q) (startD n_is_some_event.length ds) M := by
  obtain ⟨e, rfl, ok, q⟩ := h
  change rB E0 c_is_some_event (endK Q) [some (evD e)] M
  have one : ∀ s : Str, (s = "ask" ∨ s = "lost" ∨ s = "cut") → rB E0 c_is_some_event (endK Q) [some (.tup [.str s])] M := by
    intro s hs
    have e3 : (decide (Str.ofString "ask" = s) || (decide (Str.ofString "lost" = s) || decide (Str.ofString "cut" = s))) = true := by
      rcases hs with rfl | rfl | rfl <;> simp
    simp only [c_is_some_event, rB, rS, rE, rT, rO, rC, rX, rEs, rOX, rL, rWk, rG, rGs, rF, byT, lenT, endK, oflD, wipeD, List.getElem?_cons_zero, List.getElem?_cons_succ, List.set_cons_zero, List.set_cons_succ, Bool.not_true, Bool.not_false, Bool.false_eq_true, if_true, if_false, decide_true, decide_false, Bool.true_and, Bool.and_true, Bool.false_and, List.length_nil, List.length_cons, Nat.zero_add, Nat.reduceAdd, Rd.tr_bl, Rd.tr_non, Rd.tr_int, Rd.tr_str, Rd.tr_tup, Rd.tr_fl, Rd.tr_ref, Rd.eq_int, Rd.eq_str, Rd.eq_bl, Rd.sq_tup, Rd.sq_fl, Rd.sq_ref, Rd.cm_eq, Rd.cm_ne, Rd.cm_in, Rd.cm_ni, Rd.is_non, Rd.isn_non, Rd.is_bl, Rd.isn_bl, Rd.is_int, Rd.isn_int, Rd.is_str, Rd.isn_str, Rd.is_tup, Rd.isn_tup, Rd.is_fl, Rd.isn_fl, Rd.is_ref, Rd.isn_ref, Rd.cm_lt, Rd.cm_le, Rd.cm_gt, Rd.cm_ge, Rd.ix_tup, Rd.ix_fl, Rd.ix_str, Rd.ix_ref, Rd.sl_tup, Rd.sl_str, Rd.sl_fl, Rd.sl_ref, Rd.ln_str, Rd.ln_tup, Rd.ln_fl, Rd.ln_ref, Rd.nt_int, Rd.nt_str, Rd.st_int, Rd.ab_int, Rd.od_str, Rd.mx_int, Rd.mn_int, Rd.dm_int, Rd.tp_seq, Rd.ls_seq, Rd.rp_any, Rd.bn_ii, Rd.bn_ss, Rd.bn_tt, Rd.bn_rr, Rd.bn_sub, Rd.bn_mul, Rd.bn_fdv, Rd.bn_mod, Rd.bn_pow, Rd.mt_app, Rd.mt_joi, Rd.mt_spl, Rd.mt_par, Rd.mt_rpa, Rd.my_split, Rd.my_partition, Rd.my_rpartition, Rd.my_count, Rd.my_find, Rd.my_rfind, Rd.my_join, Rd.my_app, Rd.ty_non_int, Rd.ty_non_str, Rd.ty_non_bool, Rd.ty_non_tuple, Rd.ty_non_list, Rd.ty_bl_int, Rd.ty_bl_str, Rd.ty_bl_bool, Rd.ty_bl_tuple, Rd.ty_bl_list, Rd.ty_int_int, Rd.ty_int_str, Rd.ty_int_bool, Rd.ty_int_tuple, Rd.ty_int_list, Rd.ty_str_int, Rd.ty_str_str, Rd.ty_str_bool, Rd.ty_str_tuple, Rd.ty_str_list, Rd.ty_tup_int, Rd.ty_tup_str, Rd.ty_tup_bool, Rd.ty_tup_tuple, Rd.ty_tup_list, Rd.ty_fl_int, Rd.ty_fl_str, Rd.ty_fl_bool, Rd.ty_fl_tuple, Rd.ty_fl_list, Rd.fm_str, Rd.fm_int, Rd.it_t, Rd.it_f, Rd.it_s, Rd.it_r]
    refine ⟨_, _, _, rfl, ?_⟩
    simp only [rB, rS, rE, rT, rO, rC, rX, rEs, rOX, rL, rWk, rG, rGs, rF, byT, lenT, endK, oflD, wipeD, List.getElem?_cons_zero, List.getElem?_cons_succ, List.set_cons_zero, List.set_cons_succ, Bool.not_true, Bool.not_false, Bool.false_eq_true, if_true, if_false, decide_true, decide_false, Bool.true_and, Bool.and_true, Bool.false_and, List.length_nil, List.length_cons, Nat.zero_add, Nat.reduceAdd, Rd.tr_bl, Rd.tr_non, Rd.tr_int, Rd.tr_str, Rd.tr_tup, Rd.tr_fl, Rd.tr_ref, Rd.eq_int, Rd.eq_str, Rd.eq_bl, Rd.sq_tup, Rd.sq_fl, Rd.sq_ref, Rd.cm_eq, Rd.cm_ne, Rd.cm_in, Rd.cm_ni, Rd.is_non, Rd.isn_non, Rd.is_bl, Rd.isn_bl, Rd.is_int, Rd.isn_int, Rd.is_str, Rd.isn_str, Rd.is_tup, Rd.isn_tup, Rd.is_fl, Rd.isn_fl, Rd.is_ref, Rd.isn_ref, Rd.cm_lt, Rd.cm_le, Rd.cm_gt, Rd.cm_ge, Rd.ix_tup, Rd.ix_fl, Rd.ix_str, Rd.ix_ref, Rd.sl_tup, Rd.sl_str, Rd.sl_fl, Rd.sl_ref, Rd.ln_str, Rd.ln_tup, Rd.ln_fl, Rd.ln_ref, Rd.nt_int, Rd.nt_str, Rd.st_int, Rd.ab_int, Rd.od_str, Rd.mx_int, Rd.mn_int, Rd.dm_int, Rd.tp_seq, Rd.ls_seq, Rd.rp_any, Rd.bn_ii, Rd.bn_ss, Rd.bn_tt, Rd.bn_rr, Rd.bn_sub, Rd.bn_mul, Rd.bn_fdv, Rd.bn_mod, Rd.bn_pow, Rd.mt_app, Rd.mt_joi, Rd.mt_spl, Rd.mt_par, Rd.mt_rpa, Rd.my_split, Rd.my_partition, Rd.my_rpartition, Rd.my_count, Rd.my_find, Rd.my_rfind, Rd.my_join, Rd.my_app, Rd.ty_non_int, Rd.ty_non_str, Rd.ty_non_bool, Rd.ty_non_tuple, Rd.ty_non_list, Rd.ty_bl_int, Rd.ty_bl_str, Rd.ty_bl_bool, Rd.ty_bl_tuple, Rd.ty_bl_list, Rd.ty_int_int, Rd.ty_int_str, Rd.ty_int_bool, Rd.ty_int_tuple, Rd.ty_int_list, Rd.ty_str_int, Rd.ty_str_str, Rd.ty_str_bool, Rd.ty_str_tuple, Rd.ty_str_list, Rd.ty_tup_int, Rd.ty_tup_str, Rd.ty_tup_bool, Rd.ty_tup_tuple, Rd.ty_tup_list, Rd.ty_fl_int, Rd.ty_fl_str, Rd.ty_fl_bool, Rd.ty_fl_tuple, Rd.ty_fl_list, Rd.fm_str, Rd.fm_int, Rd.it_t, Rd.it_f, Rd.it_s, Rd.it_r, show decide ((1 : Int) ≤ ((1 : Nat) : Int)) = true from rfl, show decide (((1 : Nat) : Int) ≤ 3) = true from rfl, show decide (((1 : Nat) : Int) = 1) = true from rfl, sl0, sl1, sl2, sl3, sl4, sl5, sl6, true_and, at0, at1, at2, in2, in3, ofS_inj, e3, Option.some.injEq, exists_eq_left']
    exact drop_here q
  have far : isAns e → (∃ xs, evD e = .tup (.str (kindT e) :: xs) ∧ xs.length ≤ 2 ∧ (xs = [] → kindT e = "gone")) → rB E0 c_is_some_event (endK Q) [some (evD e)] M := by
    rintro ia ⟨xs, ex, hx, hg⟩
    have fin : sp_is_some_answer [.tup (.str (kindT e) :: xs)] M (endK Q).rt (E0 [some (.tup (.str (kindT e) :: xs))]) := ⟨e, by rw [← ex], ok, ia, drop_here q⟩
    rw [ex]
    simp only [c_is_some_event, rB, rS, rE, rT, rO, rC, rX, rEs, rOX, rL, rWk, rG, rGs, rF, byT, lenT, endK, oflD, wipeD, List.getElem?_cons_zero, List.getElem?_cons_succ, List.set_cons_zero, List.set_cons_succ, Bool.not_true, Bool.not_false, Bool.false_eq_true, if_true, if_false, decide_true, decide_false, Bool.true_and, Bool.and_true, Bool.false_and, List.length_nil, List.length_cons, Nat.zero_add, Nat.reduceAdd, Rd.tr_bl, Rd.tr_non, Rd.tr_int, Rd.tr_str, Rd.tr_tup, Rd.tr_fl, Rd.tr_ref, Rd.eq_int, Rd.eq_str, Rd.eq_bl, Rd.sq_tup, Rd.sq_fl, Rd.sq_ref, Rd.cm_eq, Rd.cm_ne, Rd.cm_in, Rd.cm_ni, Rd.is_non, Rd.isn_non, Rd.is_bl, Rd.isn_bl, Rd.is_int, Rd.isn_int, Rd.is_str, Rd.isn_str, Rd.is_tup, Rd.isn_tup, Rd.is_fl, Rd.isn_fl, Rd.is_ref, Rd.isn_ref, Rd.cm_lt, Rd.cm_le, Rd.cm_gt, Rd.cm_ge, Rd.ix_tup, Rd.ix_fl, Rd.ix_str, Rd.ix_ref, Rd.sl_tup, Rd.sl_str, Rd.sl_fl, Rd.sl_ref, Rd.ln_str, Rd.ln_tup, Rd.ln_fl, Rd.ln_ref, Rd.nt_int, Rd.nt_str, Rd.st_int, Rd.ab_int, Rd.od_str, Rd.mx_int, Rd.mn_int, Rd.dm_int, Rd.tp_seq, Rd.ls_seq, Rd.rp_any, Rd.bn_ii, Rd.bn_ss, Rd.bn_tt, Rd.bn_rr, Rd.bn_sub, Rd.bn_mul, Rd.bn_fdv, Rd.bn_mod, Rd.bn_pow, Rd.mt_app, Rd.mt_joi, Rd.mt_spl, Rd.mt_par, Rd.mt_rpa, Rd.my_split, Rd.my_partition, Rd.my_rpartition, Rd.my_count, Rd.my_find, Rd.my_rfind, Rd.my_join, Rd.my_app, Rd.ty_non_int, Rd.ty_non_str, Rd.ty_non_bool, Rd.ty_non_tuple, Rd.ty_non_list, Rd.ty_bl_int, Rd.ty_bl_str, Rd.ty_bl_bool, Rd.ty_bl_tuple, Rd.ty_bl_list, Rd.ty_int_int, Rd.ty_int_str, Rd.ty_int_bool, Rd.ty_int_tuple, Rd.ty_int_list, Rd.ty_str_int, Rd.ty_str_str, Rd.ty_str_bool, Rd.ty_str_tuple, Rd.ty_str_list, Rd.ty_tup_int, Rd.ty_tup_str, Rd.ty_tup_bool, Rd.ty_tup_tuple, Rd.ty_tup_list, Rd.ty_fl_int, Rd.ty_fl_str, Rd.ty_fl_bool, Rd.ty_fl_tuple, Rd.ty_fl_list, Rd.fm_str, Rd.fm_int, Rd.it_t, Rd.it_f, Rd.it_s, Rd.it_r]
    refine ⟨_, _, _, rfl, ?_⟩
    have l1 : decide ((1 : Int) ≤ ((xs.length + 1 : Nat) : Int)) = true := decide_eq_true (by omega)
    have l2 : decide (((xs.length + 1 : Nat) : Int) ≤ 3) = true := decide_eq_true (by omega)
    simp only [rB, rS, rE, rT, rO, rC, rX, rEs, rOX, rL, rWk, rG, rGs, rF, byT, lenT, endK, oflD, wipeD, List.getElem?_cons_zero, List.getElem?_cons_succ, List.set_cons_zero, List.set_cons_succ, Bool.not_true, Bool.not_false, Bool.false_eq_true, if_true, if_false, decide_true, decide_false, Bool.true_and, Bool.and_true, Bool.false_and, List.length_nil, List.length_cons, Nat.zero_add, Nat.reduceAdd, Rd.tr_bl, Rd.tr_non, Rd.tr_int, Rd.tr_str, Rd.tr_tup, Rd.tr_fl, Rd.tr_ref, Rd.eq_int, Rd.eq_str, Rd.eq_bl, Rd.sq_tup, Rd.sq_fl, Rd.sq_ref, Rd.cm_eq, Rd.cm_ne, Rd.cm_in, Rd.cm_ni, Rd.is_non, Rd.isn_non, Rd.is_bl, Rd.isn_bl, Rd.is_int, Rd.isn_int, Rd.is_str, Rd.isn_str, Rd.is_tup, Rd.isn_tup, Rd.is_fl, Rd.isn_fl, Rd.is_ref, Rd.isn_ref, Rd.cm_lt, Rd.cm_le, Rd.cm_gt, Rd.cm_ge, Rd.ix_tup, Rd.ix_fl, Rd.ix_str, Rd.ix_ref, Rd.sl_tup, Rd.sl_str, Rd.sl_fl, Rd.sl_ref, Rd.ln_str, Rd.ln_tup, Rd.ln_fl, Rd.ln_ref, Rd.nt_int, Rd.nt_str, Rd.st_int, Rd.ab_int, Rd.od_str, Rd.mx_int, Rd.mn_int, Rd.dm_int, Rd.tp_seq, Rd.ls_seq, Rd.rp_any, Rd.bn_ii, Rd.bn_ss, Rd.bn_tt, Rd.bn_rr, Rd.bn_sub, Rd.bn_mul, Rd.bn_fdv, Rd.bn_mod, Rd.bn_pow, Rd.mt_app, Rd.mt_joi, Rd.mt_spl, Rd.mt_par, Rd.mt_rpa, Rd.my_split, Rd.my_partition, Rd.my_rpartition, Rd.my_count, Rd.my_find, Rd.my_rfind, Rd.my_join, Rd.my_app, Rd.ty_non_int, Rd.ty_non_str, Rd.ty_non_bool, Rd.ty_non_tuple, Rd.ty_non_list, Rd.ty_bl_int, Rd.ty_bl_str, Rd.ty_bl_bool, Rd.ty_bl_tuple, Rd.ty_bl_list, Rd.ty_int_int, Rd.ty_int_str, Rd.ty_int_bool, Rd.ty_int_tuple, Rd.ty_int_list, Rd.ty_str_int, Rd.ty_str_str, Rd.ty_str_bool, Rd.ty_str_tuple, Rd.ty_str_list, Rd.ty_tup_int, Rd.ty_tup_str, Rd.ty_tup_bool, Rd.ty_tup_tuple, Rd.ty_tup_list, Rd.ty_fl_int, Rd.ty_fl_str, Rd.ty_fl_bool, Rd.ty_fl_tuple, Rd.ty_fl_list, Rd.fm_str, Rd.fm_int, Rd.it_t, Rd.it_f, Rd.it_s, Rd.it_r, l1, l2, sl0, sl1, sl2, sl3, sl4, sl5, sl6, true_and, at0, at1, at2, in2, in3, ofS_inj, Option.some.injEq, exists_eq_left']
    cases xs with
    | nil =>
      have e3 : (decide (Str.ofString "ask" = kindT e) || (decide (Str.ofString "lost" = kindT e) || decide (Str.ofString "cut" = kindT e))) = false := by
        rw [hg rfl]
        simp [ofS_inj]
      simp only [rB, rS, rE, rT, rO, rC, rX, rEs, rOX, rL, rWk, rG, rGs, rF, byT, lenT, endK, oflD, wipeD, List.getElem?_cons_zero, List.getElem?_cons_succ, List.set_cons_zero, List.set_cons_succ, Bool.not_true, Bool.not_false, Bool.false_eq_true, if_true, if_false, decide_true, decide_false, Bool.true_and, Bool.and_true, Bool.false_and, List.length_nil, List.length_cons, Nat.zero_add, Nat.reduceAdd, Rd.tr_bl, Rd.tr_non, Rd.tr_int, Rd.tr_str, Rd.tr_tup, Rd.tr_fl, Rd.tr_ref, Rd.eq_int, Rd.eq_str, Rd.eq_bl, Rd.sq_tup, Rd.sq_fl, Rd.sq_ref, Rd.cm_eq, Rd.cm_ne, Rd.cm_in, Rd.cm_ni, Rd.is_non, Rd.isn_non, Rd.is_bl, Rd.isn_bl, Rd.is_int, Rd.isn_int, Rd.is_str, Rd.isn_str, Rd.is_tup, Rd.isn_tup, Rd.is_fl, Rd.isn_fl, Rd.is_ref, Rd.isn_ref, Rd.cm_lt, Rd.cm_le, Rd.cm_gt, Rd.cm_ge, Rd.ix_tup, Rd.ix_fl, Rd.ix_str, Rd.ix_ref, Rd.sl_tup, Rd.sl_str, Rd.sl_fl, Rd.sl_ref, Rd.ln_str, Rd.ln_tup, Rd.ln_fl, Rd.ln_ref, Rd.nt_int, Rd.nt_str, Rd.st_int, Rd.ab_int, Rd.od_str, Rd.mx_int, Rd.mn_int, Rd.dm_int, Rd.tp_seq, Rd.ls_seq, Rd.rp_any, Rd.bn_ii, Rd.bn_ss, Rd.bn_tt, Rd.bn_rr, Rd.bn_sub, Rd.bn_mul, Rd.bn_fdv, Rd.bn_mod, Rd.bn_pow, Rd.mt_app, Rd.mt_joi, Rd.mt_spl, Rd.mt_par, Rd.mt_rpa, Rd.my_split, Rd.my_partition, Rd.my_rpartition, Rd.my_count, Rd.my_find, Rd.my_rfind, Rd.my_join, Rd.my_app, Rd.ty_non_int, Rd.ty_non_str, Rd.ty_non_bool, Rd.ty_non_tuple, Rd.ty_non_list, Rd.ty_bl_int, Rd.ty_bl_str, Rd.ty_bl_bool, Rd.ty_bl_tuple, Rd.ty_bl_list, Rd.ty_int_int, Rd.ty_int_str, Rd.ty_int_bool, Rd.ty_int_tuple, Rd.ty_int_list, Rd.ty_str_int, Rd.ty_str_str, Rd.ty_str_bool, Rd.ty_str_tuple, Rd.ty_str_list, Rd.ty_tup_int, Rd.ty_tup_str, Rd.ty_tup_bool, Rd.ty_tup_tuple, Rd.ty_tup_list, Rd.ty_fl_int, Rd.ty_fl_str, Rd.ty_fl_bool, Rd.ty_fl_tuple, Rd.ty_fl_list, Rd.fm_str, Rd.fm_int, Rd.it_t, Rd.it_f, Rd.it_s, Rd.it_r, show decide (((1 : Nat) : Int) = 1) = true from rfl, e3]
      exact fin
    | cons y ys =>
      have l3 : decide (((ys.length + 1 + 1 : Nat) : Int) = 1) = false := decide_eq_false (by omega)
      simp only [rB, rS, rE, rT, rO, rC, rX, rEs, rOX, rL, rWk, rG, rGs, rF, byT, lenT, endK, oflD, wipeD, List.getElem?_cons_zero, List.getElem?_cons_succ, List.set_cons_zero, List.set_cons_succ, Bool.not_true, Bool.not_false, Bool.false_eq_true, if_true, if_false, decide_true, decide_false, Bool.true_and, Bool.and_true, Bool.false_and, List.length_nil, List.length_cons, Nat.zero_add, Nat.reduceAdd, Rd.tr_bl, Rd.tr_non, Rd.tr_int, Rd.tr_str, Rd.tr_tup, Rd.tr_fl, Rd.tr_ref, Rd.eq_int, Rd.eq_str, Rd.eq_bl, Rd.sq_tup, Rd.sq_fl, Rd.sq_ref, Rd.cm_eq, Rd.cm_ne, Rd.cm_in, Rd.cm_ni, Rd.is_non, Rd.isn_non, Rd.is_bl, Rd.isn_bl, Rd.is_int, Rd.isn_int, Rd.is_str, Rd.isn_str, Rd.is_tup, Rd.isn_tup, Rd.is_fl, Rd.isn_fl, Rd.is_ref, Rd.isn_ref, Rd.cm_lt, Rd.cm_le, Rd.cm_gt, Rd.cm_ge, Rd.ix_tup, Rd.ix_fl, Rd.ix_str, Rd.ix_ref, Rd.sl_tup, Rd.sl_str, Rd.sl_fl, Rd.sl_ref, Rd.ln_str, Rd.ln_tup, Rd.ln_fl, Rd.ln_ref, Rd.nt_int, Rd.nt_str, Rd.st_int, Rd.ab_int, Rd.od_str, Rd.mx_int, Rd.mn_int, Rd.dm_int, Rd.tp_seq, Rd.ls_seq, Rd.rp_any, Rd.bn_ii, Rd.bn_ss, Rd.bn_tt, Rd.bn_rr, Rd.bn_sub, Rd.bn_mul, Rd.bn_fdv, Rd.bn_mod, Rd.bn_pow, Rd.mt_app, Rd.mt_joi, Rd.mt_spl, Rd.mt_par, Rd.mt_rpa, Rd.my_split, Rd.my_partition, Rd.my_rpartition, Rd.my_count, Rd.my_find, Rd.my_rfind, Rd.my_join, Rd.my_app, Rd.ty_non_int, Rd.ty_non_str, Rd.ty_non_bool, Rd.ty_non_tuple, Rd.ty_non_list, Rd.ty_bl_int, Rd.ty_bl_str, Rd.ty_bl_bool, Rd.ty_bl_tuple, Rd.ty_bl_list, Rd.ty_int_int, Rd.ty_int_str, Rd.ty_int_bool, Rd.ty_int_tuple, Rd.ty_int_list, Rd.ty_str_int, Rd.ty_str_str, Rd.ty_str_bool, Rd.ty_str_tuple, Rd.ty_str_list, Rd.ty_tup_int, Rd.ty_tup_str, Rd.ty_tup_bool, Rd.ty_tup_tuple, Rd.ty_tup_list, Rd.ty_fl_int, Rd.ty_fl_str, Rd.ty_fl_bool, Rd.ty_fl_tuple, Rd.ty_fl_list, Rd.fm_str, Rd.fm_int, Rd.it_t, Rd.it_f, Rd.it_s, Rd.it_r, l3]
      exact fin
  cases e with
  | ask => exact one "ask" (.inl rfl)
  | lost => exact one "lost" (.inr (.inl rfl))
  | cut => exact one "cut" (.inr (.inr rfl))
  | gone => exact far trivial ⟨_, rfl, by decide, fun _ => rfl⟩
  | moved a => exact far trivial ⟨_, rfl, (by show (_ : Nat) ≤ 2; simp), fun z => by cases z⟩
  | same a => exact far trivial ⟨_, rfl, (by show (_ : Nat) ≤ 2; simp), fun z => by cases z⟩
  | page n ls => exact far trivial ⟨_, rfl, (by show (_ : Nat) ≤ 2; simp), fun z => by cases z⟩
theorem pl_is_some_row (ds : List D) (M : MH) (Q : KE) (h : sp_is_some_row ds M Q fun _ _ => False) : rB E0 c_is_some_row (endK Q) (startD n_is_some_row.length ds) M := by
  obtain ⟨r, rfl, ok, q⟩ := h
  change rB E0 c_is_some_row (endK Q) [some (.tup [.int r.m, adD r.a, evD r.e])] M
  simp only [c_is_some_row, rB, rS, rE, rT, rO, rC, rX, rEs, rOX, rL, rWk, rG, rGs, rF, byT, lenT, endK, oflD, wipeD, List.getElem?_cons_zero, List.getElem?_cons_succ, List.set_cons_zero, List.set_cons_succ, Bool.not_true, Bool.not_false, Bool.false_eq_true, if_true, if_false, decide_true, decide_false, Bool.true_and, Bool.and_true, Bool.false_and, List.length_nil, List.length_cons, Nat.zero_add, Nat.reduceAdd, Rd.tr_bl, Rd.tr_non, Rd.tr_int, Rd.tr_str, Rd.tr_tup, Rd.tr_fl, Rd.tr_ref, Rd.eq_int, Rd.eq_str, Rd.eq_bl, Rd.sq_tup, Rd.sq_fl, Rd.sq_ref, Rd.cm_eq, Rd.cm_ne, Rd.cm_in, Rd.cm_ni, Rd.is_non, Rd.isn_non, Rd.is_bl, Rd.isn_bl, Rd.is_int, Rd.isn_int, Rd.is_str, Rd.isn_str, Rd.is_tup, Rd.isn_tup, Rd.is_fl, Rd.isn_fl, Rd.is_ref, Rd.isn_ref, Rd.cm_lt, Rd.cm_le, Rd.cm_gt, Rd.cm_ge, Rd.ix_tup, Rd.ix_fl, Rd.ix_str, Rd.ix_ref, Rd.sl_tup, Rd.sl_str, Rd.sl_fl, Rd.sl_ref, Rd.ln_str, Rd.ln_tup, Rd.ln_fl, Rd.ln_ref, Rd.nt_int, Rd.nt_str, Rd.st_int, Rd.ab_int, Rd.od_str, Rd.mx_int, Rd.mn_int, Rd.dm_int, Rd.tp_seq, Rd.ls_seq, Rd.rp_any, Rd.bn_ii, Rd.bn_ss, Rd.bn_tt, Rd.bn_rr, Rd.bn_sub, Rd.bn_mul, Rd.bn_fdv, Rd.bn_mod, Rd.bn_pow, Rd.mt_app, Rd.mt_joi, Rd.mt_spl, Rd.mt_par, Rd.mt_rpa, Rd.my_split, Rd.my_partition, Rd.my_rpartition, Rd.my_count, Rd.my_find, Rd.my_rfind, Rd.my_join, Rd.my_app, Rd.ty_non_int, Rd.ty_non_str, Rd.ty_non_bool, Rd.ty_non_tuple, Rd.ty_non_list, Rd.ty_bl_int, Rd.ty_bl_str, Rd.ty_bl_bool, Rd.ty_bl_tuple, Rd.ty_bl_list, Rd.ty_int_int, Rd.ty_int_str, Rd.ty_int_bool, Rd.ty_int_tuple, Rd.ty_int_list, Rd.ty_str_int, Rd.ty_str_str, Rd.ty_str_bool, Rd.ty_str_tuple, Rd.ty_str_list, Rd.ty_tup_int, Rd.ty_tup_str, Rd.ty_tup_bool, Rd.ty_tup_tuple, Rd.ty_tup_list, Rd.ty_fl_int, Rd.ty_fl_str, Rd.ty_fl_bool, Rd.ty_fl_tuple, Rd.ty_fl_list, Rd.fm_str, Rd.fm_int, Rd.it_t, Rd.it_f, Rd.it_s, Rd.it_r]
  refine ⟨_, _, _, rfl, ?_⟩
  simp only [rB, rS, rE, rT, rO, rC, rX, rEs, rOX, rL, rWk, rG, rGs, rF, byT, lenT, endK, oflD, wipeD, List.getElem?_cons_zero, List.getElem?_cons_succ, List.set_cons_zero, List.set_cons_succ, Bool.not_true, Bool.not_false, Bool.false_eq_true, if_true, if_false, decide_true, decide_false, Bool.true_and, Bool.and_true, Bool.false_and, List.length_nil, List.length_cons, Nat.zero_add, Nat.reduceAdd, Rd.tr_bl, Rd.tr_non, Rd.tr_int, Rd.tr_str, Rd.tr_tup, Rd.tr_fl, Rd.tr_ref, Rd.eq_int, Rd.eq_str, Rd.eq_bl, Rd.sq_tup, Rd.sq_fl, Rd.sq_ref, Rd.cm_eq, Rd.cm_ne, Rd.cm_in, Rd.cm_ni, Rd.is_non, Rd.isn_non, Rd.is_bl, Rd.isn_bl, Rd.is_int, Rd.isn_int, Rd.is_str, Rd.isn_str, Rd.is_tup, Rd.isn_tup, Rd.is_fl, Rd.isn_fl, Rd.is_ref, Rd.isn_ref, Rd.cm_lt, Rd.cm_le, Rd.cm_gt, Rd.cm_ge, Rd.ix_tup, Rd.ix_fl, Rd.ix_str, Rd.ix_ref, Rd.sl_tup, Rd.sl_str, Rd.sl_fl, Rd.sl_ref, Rd.ln_str, Rd.ln_tup, Rd.ln_fl, Rd.ln_ref, Rd.nt_int, Rd.nt_str, Rd.st_int, Rd.ab_int, Rd.od_str, Rd.mx_int, Rd.mn_int, Rd.dm_int, Rd.tp_seq, Rd.ls_seq, Rd.rp_any, Rd.bn_ii, Rd.bn_ss, Rd.bn_tt, Rd.bn_rr, Rd.bn_sub, Rd.bn_mul, Rd.bn_fdv, Rd.bn_mod, Rd.bn_pow, Rd.mt_app, Rd.mt_joi, Rd.mt_spl, Rd.mt_par, Rd.mt_rpa, Rd.my_split, Rd.my_partition, Rd.my_rpartition, Rd.my_count, Rd.my_find, Rd.my_rfind, Rd.my_join, Rd.my_app, Rd.ty_non_int, Rd.ty_non_str, Rd.ty_non_bool, Rd.ty_non_tuple, Rd.ty_non_list, Rd.ty_bl_int, Rd.ty_bl_str, Rd.ty_bl_bool, Rd.ty_bl_tuple, Rd.ty_bl_list, Rd.ty_int_int, Rd.ty_int_str, Rd.ty_int_bool, Rd.ty_int_tuple, Rd.ty_int_list, Rd.ty_str_int, Rd.ty_str_str, Rd.ty_str_bool, Rd.ty_str_tuple, Rd.ty_str_list, Rd.ty_tup_int, Rd.ty_tup_str, Rd.ty_tup_bool, Rd.ty_tup_tuple, Rd.ty_tup_list, Rd.ty_fl_int, Rd.ty_fl_str, Rd.ty_fl_bool, Rd.ty_fl_tuple, Rd.ty_fl_list, Rd.fm_str, Rd.fm_int, Rd.it_t, Rd.it_f, Rd.it_s, Rd.it_r, show decide ((3 : Int) ≤ ((3 : Nat) : Int)) = true from rfl, show decide (((3 : Nat) : Int) ≤ 3) = true from rfl, sl0, sl1, sl2, sl3, sl4, sl5, sl6, true_and, at0, at1, at2, in2, in3, ofS_inj, Option.some.injEq, exists_eq_left']
  refine ⟨r.m, rfl, ok.1, ?_⟩
  simp only [rB, rS, rE, rT, rO, rC, rX, rEs, rOX, rL, rWk, rG, rGs, rF, byT, lenT, endK, oflD, wipeD, List.getElem?_cons_zero, List.getElem?_cons_succ, List.set_cons_zero, List.set_cons_succ, Bool.not_true, Bool.not_false, Bool.false_eq_true, if_true, if_false, decide_true, decide_false, Bool.true_and, Bool.and_true, Bool.false_and, List.length_nil, List.length_cons, Nat.zero_add, Nat.reduceAdd, Rd.tr_bl, Rd.tr_non, Rd.tr_int, Rd.tr_str, Rd.tr_tup, Rd.tr_fl, Rd.tr_ref, Rd.eq_int, Rd.eq_str, Rd.eq_bl, Rd.sq_tup, Rd.sq_fl, Rd.sq_ref, Rd.cm_eq, Rd.cm_ne, Rd.cm_in, Rd.cm_ni, Rd.is_non, Rd.isn_non, Rd.is_bl, Rd.isn_bl, Rd.is_int, Rd.isn_int, Rd.is_str, Rd.isn_str, Rd.is_tup, Rd.isn_tup, Rd.is_fl, Rd.isn_fl, Rd.is_ref, Rd.isn_ref, Rd.cm_lt, Rd.cm_le, Rd.cm_gt, Rd.cm_ge, Rd.ix_tup, Rd.ix_fl, Rd.ix_str, Rd.ix_ref, Rd.sl_tup, Rd.sl_str, Rd.sl_fl, Rd.sl_ref, Rd.ln_str, Rd.ln_tup, Rd.ln_fl, Rd.ln_ref, Rd.nt_int, Rd.nt_str, Rd.st_int, Rd.ab_int, Rd.od_str, Rd.mx_int, Rd.mn_int, Rd.dm_int, Rd.tp_seq, Rd.ls_seq, Rd.rp_any, Rd.bn_ii, Rd.bn_ss, Rd.bn_tt, Rd.bn_rr, Rd.bn_sub, Rd.bn_mul, Rd.bn_fdv, Rd.bn_mod, Rd.bn_pow, Rd.mt_app, Rd.mt_joi, Rd.mt_spl, Rd.mt_par, Rd.mt_rpa, Rd.my_split, Rd.my_partition, Rd.my_rpartition, Rd.my_count, Rd.my_find, Rd.my_rfind, Rd.my_join, Rd.my_app, Rd.ty_non_int, Rd.ty_non_str, Rd.ty_non_bool, Rd.ty_non_tuple, Rd.ty_non_list, Rd.ty_bl_int, Rd.ty_bl_str, Rd.ty_bl_bool, Rd.ty_bl_tuple, Rd.ty_bl_list, Rd.ty_int_int, Rd.ty_int_str, Rd.ty_int_bool, Rd.ty_int_tuple, Rd.ty_int_list, Rd.ty_str_int, Rd.ty_str_str, Rd.ty_str_bool, Rd.ty_str_tuple, Rd.ty_str_list, Rd.ty_tup_int, Rd.ty_tup_str, Rd.ty_tup_bool, Rd.ty_tup_tuple, Rd.ty_tup_list, Rd.ty_fl_int, Rd.ty_fl_str, Rd.ty_fl_bool, Rd.ty_fl_tuple, Rd.ty_fl_list, Rd.fm_str, Rd.fm_int, Rd.it_t, Rd.it_f, Rd.it_s, Rd.it_r]
  refine ⟨r.a, rfl, ok.2.1, ?_⟩
  simp only [rB, rS, rE, rT, rO, rC, rX, rEs, rOX, rL, rWk, rG, rGs, rF, byT, lenT, endK, oflD, wipeD, List.getElem?_cons_zero, List.getElem?_cons_succ, List.set_cons_zero, List.set_cons_succ, Bool.not_true, Bool.not_false, Bool.false_eq_true, if_true, if_false, decide_true, decide_false, Bool.true_and, Bool.and_true, Bool.false_and, List.length_nil, List.length_cons, Nat.zero_add, Nat.reduceAdd, Rd.tr_bl, Rd.tr_non, Rd.tr_int, Rd.tr_str, Rd.tr_tup, Rd.tr_fl, Rd.tr_ref, Rd.eq_int, Rd.eq_str, Rd.eq_bl, Rd.sq_tup, Rd.sq_fl, Rd.sq_ref, Rd.cm_eq, Rd.cm_ne, Rd.cm_in, Rd.cm_ni, Rd.is_non, Rd.isn_non, Rd.is_bl, Rd.isn_bl, Rd.is_int, Rd.isn_int, Rd.is_str, Rd.isn_str, Rd.is_tup, Rd.isn_tup, Rd.is_fl, Rd.isn_fl, Rd.is_ref, Rd.isn_ref, Rd.cm_lt, Rd.cm_le, Rd.cm_gt, Rd.cm_ge, Rd.ix_tup, Rd.ix_fl, Rd.ix_str, Rd.ix_ref, Rd.sl_tup, Rd.sl_str, Rd.sl_fl, Rd.sl_ref, Rd.ln_str, Rd.ln_tup, Rd.ln_fl, Rd.ln_ref, Rd.nt_int, Rd.nt_str, Rd.st_int, Rd.ab_int, Rd.od_str, Rd.mx_int, Rd.mn_int, Rd.dm_int, Rd.tp_seq, Rd.ls_seq, Rd.rp_any, Rd.bn_ii, Rd.bn_ss, Rd.bn_tt, Rd.bn_rr, Rd.bn_sub, Rd.bn_mul, Rd.bn_fdv, Rd.bn_mod, Rd.bn_pow, Rd.mt_app, Rd.mt_joi, Rd.mt_spl, Rd.mt_par, Rd.mt_rpa, Rd.my_split, Rd.my_partition, Rd.my_rpartition, Rd.my_count, Rd.my_find, Rd.my_rfind, Rd.my_join, Rd.my_app, Rd.ty_non_int, Rd.ty_non_str, Rd.ty_non_bool, Rd.ty_non_tuple, Rd.ty_non_list, Rd.ty_bl_int, Rd.ty_bl_str, Rd.ty_bl_bool, Rd.ty_bl_tuple, Rd.ty_bl_list, Rd.ty_int_int, Rd.ty_int_str, Rd.ty_int_bool, Rd.ty_int_tuple, Rd.ty_int_list, Rd.ty_str_int, Rd.ty_str_str, Rd.ty_str_bool, Rd.ty_str_tuple, Rd.ty_str_list, Rd.ty_tup_int, Rd.ty_tup_str, Rd.ty_tup_bool, Rd.ty_tup_tuple, Rd.ty_tup_list, Rd.ty_fl_int, Rd.ty_fl_str, Rd.ty_fl_bool, Rd.ty_fl_tuple, Rd.ty_fl_list, Rd.fm_str, Rd.fm_int, Rd.it_t, Rd.it_f, Rd.it_s, Rd.it_r]
  exact ⟨r.e, rfl, ok.2.2, drop_here q⟩
theorem pl_check_log (ds : List D) (M : MH) (Q : KE) (h : sp_check_log ds M Q fun _ _ => False) : rB E0 c_check_log (endK Q) (startD n_check_log.length ds) M := by
  obtain ⟨rs, rfl, ok, q⟩ := h
  change rB E0 c_check_log (endK Q) [some (.tup (rs.map rowD)), none, none] M
  simp only [c_check_log, rB, rS, rE, rT, rO, rC, rX, rEs, rOX, rL, rWk, rG, rGs, rF, byT, lenT, endK, oflD, wipeD, List.getElem?_cons_zero, List.getElem?_cons_succ, List.set_cons_zero, List.set_cons_succ, Bool.not_true, Bool.not_false, Bool.false_eq_true, if_true, if_false, decide_true, decide_false, Bool.true_and, Bool.and_true, Bool.false_and, List.length_nil, List.length_cons, Nat.zero_add, Nat.reduceAdd, Rd.tr_bl, Rd.tr_non, Rd.tr_int, Rd.tr_str, Rd.tr_tup, Rd.tr_fl, Rd.tr_ref, Rd.eq_int, Rd.eq_str, Rd.eq_bl, Rd.sq_tup, Rd.sq_fl, Rd.sq_ref, Rd.cm_eq, Rd.cm_ne, Rd.cm_in, Rd.cm_ni, Rd.is_non, Rd.isn_non, Rd.is_bl, Rd.isn_bl, Rd.is_int, Rd.isn_int, Rd.is_str, Rd.isn_str, Rd.is_tup, Rd.isn_tup, Rd.is_fl, Rd.isn_fl, Rd.is_ref, Rd.isn_ref, Rd.cm_lt, Rd.cm_le, Rd.cm_gt, Rd.cm_ge, Rd.ix_tup, Rd.ix_fl, Rd.ix_str, Rd.ix_ref, Rd.sl_tup, Rd.sl_str, Rd.sl_fl, Rd.sl_ref, Rd.ln_str, Rd.ln_tup, Rd.ln_fl, Rd.ln_ref, Rd.nt_int, Rd.nt_str, Rd.st_int, Rd.ab_int, Rd.od_str, Rd.mx_int, Rd.mn_int, Rd.dm_int, Rd.tp_seq, Rd.ls_seq, Rd.rp_any, Rd.bn_ii, Rd.bn_ss, Rd.bn_tt, Rd.bn_rr, Rd.bn_sub, Rd.bn_mul, Rd.bn_fdv, Rd.bn_mod, Rd.bn_pow, Rd.mt_app, Rd.mt_joi, Rd.mt_spl, Rd.mt_par, Rd.mt_rpa, Rd.my_split, Rd.my_partition, Rd.my_rpartition, Rd.my_count, Rd.my_find, Rd.my_rfind, Rd.my_join, Rd.my_app, Rd.ty_non_int, Rd.ty_non_str, Rd.ty_non_bool, Rd.ty_non_tuple, Rd.ty_non_list, Rd.ty_bl_int, Rd.ty_bl_str, Rd.ty_bl_bool, Rd.ty_bl_tuple, Rd.ty_bl_list, Rd.ty_int_int, Rd.ty_int_str, Rd.ty_int_bool, Rd.ty_int_tuple, Rd.ty_int_list, Rd.ty_str_int, Rd.ty_str_str, Rd.ty_str_bool, Rd.ty_str_tuple, Rd.ty_str_list, Rd.ty_tup_int, Rd.ty_tup_str, Rd.ty_tup_bool, Rd.ty_tup_tuple, Rd.ty_tup_list, Rd.ty_fl_int, Rd.ty_fl_str, Rd.ty_fl_bool, Rd.ty_fl_tuple, Rd.ty_fl_list, Rd.fm_str, Rd.fm_int, Rd.it_t, Rd.it_f, Rd.it_s, Rd.it_r]
  refine walk_by (fun ds σ M' => M' = M ∧ (∀ d ∈ ds, ∃ (i : Nat) (r : JR), d = .tup [.int i, rowD r] ∧ okRow r) ∧ ∃ x y z, σ = [x, y, z]) (fun σ M' ⟨e, _, _⟩ => ?_) (fun d ds σ M' ⟨e, e2, x, y, z, e3⟩ => ?_) _ _ _ ⟨rfl, fun d hd => ?_, _, _, _, rfl⟩
  · subst e
    exact ⟨trivial, drop_here q⟩
  · subst e e3
    obtain ⟨i, r, rfl, okr⟩ := e2 d List.mem_cons_self
    refine ⟨trivial, fun next hn => ?_⟩
    simp only [rB, rS, rE, rT, rO, rC, rX, rEs, rOX, rL, rWk, rG, rGs, rF, byT, lenT, endK, oflD, wipeD, List.getElem?_cons_zero, List.getElem?_cons_succ, List.set_cons_zero, List.set_cons_succ, Bool.not_true, Bool.not_false, Bool.false_eq_true, if_true, if_false, decide_true, decide_false, Bool.true_and, Bool.and_true, Bool.false_and, List.length_nil, List.length_cons, Nat.zero_add, Nat.reduceAdd, Rd.tr_bl, Rd.tr_non, Rd.tr_int, Rd.tr_str, Rd.tr_tup, Rd.tr_fl, Rd.tr_ref, Rd.eq_int, Rd.eq_str, Rd.eq_bl, Rd.sq_tup, Rd.sq_fl, Rd.sq_ref, Rd.cm_eq, Rd.cm_ne, Rd.cm_in, Rd.cm_ni, Rd.is_non, Rd.isn_non, Rd.is_bl, Rd.isn_bl, Rd.is_int, Rd.isn_int, Rd.is_str, Rd.isn_str, Rd.is_tup, Rd.isn_tup, Rd.is_fl, Rd.isn_fl, Rd.is_ref, Rd.isn_ref, Rd.cm_lt, Rd.cm_le, Rd.cm_gt, Rd.cm_ge, Rd.ix_tup, Rd.ix_fl, Rd.ix_str, Rd.ix_ref, Rd.sl_tup, Rd.sl_str, Rd.sl_fl, Rd.sl_ref, Rd.ln_str, Rd.ln_tup, Rd.ln_fl, Rd.ln_ref, Rd.nt_int, Rd.nt_str, Rd.st_int, Rd.ab_int, Rd.od_str, Rd.mx_int, Rd.mn_int, Rd.dm_int, Rd.tp_seq, Rd.ls_seq, Rd.rp_any, Rd.bn_ii, Rd.bn_ss, Rd.bn_tt, Rd.bn_rr, Rd.bn_sub, Rd.bn_mul, Rd.bn_fdv, Rd.bn_mod, Rd.bn_pow, Rd.mt_app, Rd.mt_joi, Rd.mt_spl, Rd.mt_par, Rd.mt_rpa, Rd.my_split, Rd.my_partition, Rd.my_rpartition, Rd.my_count, Rd.my_find, Rd.my_rfind, Rd.my_join, Rd.my_app, Rd.ty_non_int, Rd.ty_non_str, Rd.ty_non_bool, Rd.ty_non_tuple, Rd.ty_non_list, Rd.ty_bl_int, Rd.ty_bl_str, Rd.ty_bl_bool, Rd.ty_bl_tuple, Rd.ty_bl_list, Rd.ty_int_int, Rd.ty_int_str, Rd.ty_int_bool, Rd.ty_int_tuple, Rd.ty_int_list, Rd.ty_str_int, Rd.ty_str_str, Rd.ty_str_bool, Rd.ty_str_tuple, Rd.ty_str_list, Rd.ty_tup_int, Rd.ty_tup_str, Rd.ty_tup_bool, Rd.ty_tup_tuple, Rd.ty_tup_list, Rd.ty_fl_int, Rd.ty_fl_str, Rd.ty_fl_bool, Rd.ty_fl_tuple, Rd.ty_fl_list, Rd.fm_str, Rd.fm_int, Rd.it_t, Rd.it_f, Rd.it_s, Rd.it_r, show ([D.int (i : Int), rowD r]).length = 2 from rfl, true_and]
    refine ⟨r, rfl, okr, ?_⟩
    simp only [rB, rS, rE, rT, rO, rC, rX, rEs, rOX, rL, rWk, rG, rGs, rF, byT, lenT, endK, oflD, wipeD, List.getElem?_cons_zero, List.getElem?_cons_succ, List.set_cons_zero, List.set_cons_succ, Bool.not_true, Bool.not_false, Bool.false_eq_true, if_true, if_false, decide_true, decide_false, Bool.true_and, Bool.and_true, Bool.false_and, List.length_nil, List.length_cons, Nat.zero_add, Nat.reduceAdd, Rd.tr_bl, Rd.tr_non, Rd.tr_int, Rd.tr_str, Rd.tr_tup, Rd.tr_fl, Rd.tr_ref, Rd.eq_int, Rd.eq_str, Rd.eq_bl, Rd.sq_tup, Rd.sq_fl, Rd.sq_ref, Rd.cm_eq, Rd.cm_ne, Rd.cm_in, Rd.cm_ni, Rd.is_non, Rd.isn_non, Rd.is_bl, Rd.isn_bl, Rd.is_int, Rd.isn_int, Rd.is_str, Rd.isn_str, Rd.is_tup, Rd.isn_tup, Rd.is_fl, Rd.isn_fl, Rd.is_ref, Rd.isn_ref, Rd.cm_lt, Rd.cm_le, Rd.cm_gt, Rd.cm_ge, Rd.ix_tup, Rd.ix_fl, Rd.ix_str, Rd.ix_ref, Rd.sl_tup, Rd.sl_str, Rd.sl_fl, Rd.sl_ref, Rd.ln_str, Rd.ln_tup, Rd.ln_fl, Rd.ln_ref, Rd.nt_int, Rd.nt_str, Rd.st_int, Rd.ab_int, Rd.od_str, Rd.mx_int, Rd.mn_int, Rd.dm_int, Rd.tp_seq, Rd.ls_seq, Rd.rp_any, Rd.bn_ii, Rd.bn_ss, Rd.bn_tt, Rd.bn_rr, Rd.bn_sub, Rd.bn_mul, Rd.bn_fdv, Rd.bn_mod, Rd.bn_pow, Rd.mt_app, Rd.mt_joi, Rd.mt_spl, Rd.mt_par, Rd.mt_rpa, Rd.my_split, Rd.my_partition, Rd.my_rpartition, Rd.my_count, Rd.my_find, Rd.my_rfind, Rd.my_join, Rd.my_app, Rd.ty_non_int, Rd.ty_non_str, Rd.ty_non_bool, Rd.ty_non_tuple, Rd.ty_non_list, Rd.ty_bl_int, Rd.ty_bl_str, Rd.ty_bl_bool, Rd.ty_bl_tuple, Rd.ty_bl_list, Rd.ty_int_int, Rd.ty_int_str, Rd.ty_int_bool, Rd.ty_int_tuple, Rd.ty_int_list, Rd.ty_str_int, Rd.ty_str_str, Rd.ty_str_bool, Rd.ty_str_tuple, Rd.ty_str_list, Rd.ty_tup_int, Rd.ty_tup_str, Rd.ty_tup_bool, Rd.ty_tup_tuple, Rd.ty_tup_list, Rd.ty_fl_int, Rd.ty_fl_str, Rd.ty_fl_bool, Rd.ty_fl_tuple, Rd.ty_fl_list, Rd.fm_str, Rd.fm_int, Rd.it_t, Rd.it_f, Rd.it_s, Rd.it_r]
    exact hn _ _ ⟨rfl, fun d hd => e2 d (List.mem_cons_of_mem _ hd), _, _, _, rfl⟩
  · obtain ⟨i, hi⟩ := List.getElem?_of_mem hd
    obtain ⟨e, he, rfl⟩ := enum_get hi
    rw [List.getElem?_map] at he
    cases hr : rs[i]? with
    | none => rw [hr] at he; cases he
    | some r =>
      rw [hr] at he
      cases he
      exact ⟨i, r, rfl, ok r (List.mem_of_getElem? hr)⟩
end Jn
namespace Jn
open PySem PySem.Spec PyProof.Rows L2 Mx TL
theorem tl_blank : tl (Str.ofString " ") = [32] := by decide +kernel
theorem tl_feed : tl (Str.ofString "\n") = [10] := by decide +kernel
theorem pre1_iff {L : List Nat} {c : Nat} : pre [c] L = true ↔ L.head? = some c := by
  cases L with
  | nil => simp [pre]
  | cons a l => simp [pre]
theorem rpartition_app {y : Str} {s : Nat} (ey : tl y = [s]) {a b : Str} (h : s ∉ tl b) : Txt.rpartition (a ++ y ++ b) y = (a, y, b) := by
  have hy : tl y ≠ [] := by rw [ey]; simp
  have ex : tl (a ++ y ++ b) = tl a ++ s :: tl b := by rw [tl_append, tl_append, ey, List.append_assoc]; rfl
  have at_la : PySem.StrLaws.At (a ++ y ++ b) y (a ++ y ++ b).length (tl a).length := by
    rw [at_iff hy, ey, ex, List.drop_left]
    exact pre1_iff.mpr rfl
  have past : ∀ k, (tl a).length < k → ¬ PySem.StrLaws.At (a ++ y ++ b) y (a ++ y ++ b).length k := by
    intro k hk z
    rw [at_iff hy, ey, ex, pre1_iff] at z
    have e : (tl a ++ s :: tl b).drop k = (tl b).drop (k - (tl a).length - 1) := by
      have e2 : k = (tl a).length + ((k - (tl a).length - 1) + 1) := by omega
      have e3 : (tl a ++ s :: tl b).drop ((tl a).length + ((k - (tl a).length - 1) + 1)) = (tl b).drop (k - (tl a).length - 1) := by
        rw [← List.drop_drop, List.drop_left]
        rfl
      rw [← e2] at e3
      exact e3
    rw [e] at z
    have : s ∈ (tl b).drop (k - (tl a).length - 1) := List.mem_of_mem_head? z
    exact h (List.mem_of_mem_drop this)
  unfold Txt.rpartition
  rcases PySem.StrLaws.last_spec (a ++ y ++ b) y with ⟨h0, hn⟩ | ⟨i, h0, hi, hn⟩
  · exact absurd at_la (hn _)
  · have ei : i = (tl a).length := by
      rcases Nat.lt_trichotomy i (tl a).length with q | q | q
      · exact absurd at_la (hn _ q)
      · exact q
      · exact absurd hi (past _ q)
    subst ei
    rw [h0]
    have e1 : Builtin.Str.strSub (a ++ y ++ b) 0 (tl a).length = a := by
      refine ext_tl ?_
      rw [tl_strSub, ex]
      simp
    have e2 : Builtin.Str.strSub (a ++ y ++ b) ((tl a).length + y.length) (a ++ y ++ b).length = b := by
      refine ext_tl ?_
      have : y.length = 1 := by rw [len_tl, ey]; rfl
      rw [tl_strSub_end, ex, this, ← List.drop_drop, List.drop_left]
      rfl
    simp only [e1, e2]
theorem tl_letters : tl (Str.ofString "abcdefghijklmnopqrstuvwxyz") = [97, 98, 99, 100, 101, 102, 103, 104, 105, 106, 107, 108, 109, 110, 111, 112, 113, 114, 115, 116, 117, 118, 119, 120, 121, 122] := by decide +kernel
theorem tl_signs : tl (Str.ofString "-./0123456789_abcdefghijklmnopqrstuvwxyz") = [45, 46, 47, 48, 49, 50, 51, 52, 53, 54, 55, 56, 57, 95, 97, 98, 99, 100, 101, 102, 103, 104, 105, 106, 107, 108, 109, 110, 111, 112, 113, 114, 115, 116, 117, 118, 119, 120, 121, 122] := by decide +kernel
theorem letter_bd {c : Nat} (h : c ∈ tl (Str.ofString "abcdefghijklmnopqrstuvwxyz")) : 97 ≤ c ∧ c ≤ 122 := by
  rw [tl_letters] at h
  simp at h
  omega
theorem sign_bd {c : Nat} (h : c ∈ tl (Str.ofString "-./0123456789_abcdefghijklmnopqrstuvwxyz")) : 45 ≤ c ∧ c ≤ 122 := by
  rw [tl_signs] at h
  simp at h
  omega
def inW (w : Str) : Prop := ∀ c ∈ tl w, 33 ≤ c ∧ c ≤ 122
theorem inW_ad {a : Ad} (h : okAd a) : inW (adT a) := by
  intro c hc
  have e : tl (adT a) = tl a.1 ++ tl a.2 := tl_append _ _
  rw [e] at hc
  rcases List.mem_append.mp hc with hc | hc
  · have := letter_bd (h.1.2.2 c hc); omega
  · have := sign_bd (h.2.2.2 c hc); omega
theorem inW_num (n : Nat) : inW (numT n) := by
  intro c hc
  rw [tl_numT] at hc
  have := numL_digits n c hc
  omega
theorem inW_kind (e : JE) : inW (kindT e) ∧ (kindT e).length ≤ 5 := by
  have h : ∀ s : Str, (∀ c ∈ tl s, 33 ≤ c ∧ c ≤ 122) ∧ s.length ≤ 5 → inW s ∧ s.length ≤ 5 := fun s h => h
  cases e with
  | ask => exact h (Str.ofString "ask") (by decide +kernel)
  | lost => exact h (Str.ofString "lost") (by decide +kernel)
  | cut => exact h (Str.ofString "cut") (by decide +kernel)
  | gone => exact h (Str.ofString "gone") (by decide +kernel)
  | moved a => exact h (Str.ofString "moved") (by decide +kernel)
  | same a => exact h (Str.ofString "same") (by decide +kernel)
  | page n ls => exact h (Str.ofString "page") (by decide +kernel)
theorem words_ok {r : JR} (h : okRow r) : (∀ w ∈ wordsT r, inW w ∧ w.length ≤ 52) ∧ (wordsT r).length ≤ 10 := by
  obtain ⟨h1, h2, h3⟩ := h
  have hb : (∀ w ∈ wordsB r.e, inW w ∧ w.length ≤ 52) ∧ (wordsB r.e).length ≤ 7 := by
    cases he : r.e with
    | ask => exact ⟨fun w hw => (by cases hw), by decide⟩
    | lost => exact ⟨fun w hw => (by cases hw), by decide⟩
    | cut => exact ⟨fun w hw => (by cases hw), by decide⟩
    | gone => exact ⟨fun w hw => (by cases hw), by decide⟩
    | moved a =>
      rw [he] at h3
      refine ⟨fun w hw => ?_, by show 1 ≤ 7; decide⟩
      obtain rfl := List.mem_singleton.mp hw
      exact ⟨inW_ad h3, ad_len h3⟩
    | same a =>
      rw [he] at h3
      refine ⟨fun w hw => ?_, by show 1 ≤ 7; decide⟩
      obtain rfl := List.mem_singleton.mp hw
      exact ⟨inW_ad h3, ad_len h3⟩
    | page n ls =>
      rw [he] at h3
      obtain ⟨a1, a2, a3⟩ := h3
      refine ⟨fun w hw => ?_, by show (ls.map adT).length + 1 ≤ 7; rw [List.length_map]; omega⟩
      rcases List.mem_cons.mp hw with rfl | hw
      · exact ⟨inW_num n, by have := (num_len (n := n) (by omega)).2; omega⟩
      · obtain ⟨a, ha, rfl⟩ := List.mem_map.mp hw
        exact ⟨inW_ad (a3 a ha), ad_len (a3 a ha)⟩
  refine ⟨fun w hw => ?_, by show (wordsB r.e).length + 1 + 1 + 1 ≤ 10; omega⟩
  have hw' : w = numT r.m ∨ w = kindT r.e ∨ w = adT r.a ∨ w ∈ wordsB r.e := by
    unfold wordsT at hw
    simpa using hw
  rcases hw' with rfl | rfl | rfl | hw
  · exact ⟨inW_num _, by have := (num_len h1).2; omega⟩
  · exact ⟨(inW_kind r.e).1, by have := (inW_kind r.e).2; omega⟩
  · exact ⟨inW_ad h2, ad_len h2⟩
  · exact hb.1 w hw
theorem sum_le {l : List Str} {B : Nat} (h : ∀ w ∈ l, w.length ≤ B) : (l.map (·.length)).sum ≤ l.length * B := by
  induction l with
  | nil => simp
  | cons a l ih =>
    have h1 := h a List.mem_cons_self
    have h2 := ih fun w hw => h w (List.mem_cons_of_mem _ hw)
    simp only [List.map_cons, List.sum_cons, List.length_cons]
    rw [Nat.add_mul]
    omega
theorem join_fits {sep : Str} {l : List Str} {B n m : Nat} (h : ∀ w ∈ l, w.length ≤ B) (hl : l.length ≤ n) (hm : n * B + n * sep.length ≤ m) : (l.map (·.length)).sum + l.length * sep.length ≤ m := by
  have h1 := sum_le h
  have h2 : l.length * B ≤ n * B := Nat.mul_le_mul_right _ hl
  have h3 : l.length * sep.length ≤ n * sep.length := Nat.mul_le_mul_right _ hl
  omega
theorem mem_joinL {S : List Nat} {c : Nat} : ∀ {l : List (List Nat)}, c ∈ joinL S l → (∃ w ∈ l, c ∈ w) ∨ c ∈ S
  | [], h => by cases h
  | [p], h => .inl ⟨p, List.mem_singleton.mpr rfl, h⟩
  | p :: q :: r, h => by
    have h' : c ∈ p ++ (S ++ joinL S (q :: r)) := h
    rcases List.mem_append.mp h' with h | h
    · exact .inl ⟨p, List.mem_cons_self, h⟩
    · rcases List.mem_append.mp h with h | h
      · exact .inr h
      · rcases mem_joinL h with ⟨w, hw, hc⟩ | h
        · exact .inl ⟨w, List.mem_cons_of_mem _ hw, hc⟩
        · exact .inr h
theorem len_joinL {S : List Nat} : ∀ {l : List (List Nat)}, (joinL S l).length ≤ (l.map (·.length)).sum + l.length * S.length
  | [] => by simp [joinL]
  | [p] => by simp [joinL]
  | p :: q :: r => by
    have ih := len_joinL (S := S) (l := q :: r)
    show (p ++ (S ++ joinL S (q :: r))).length ≤ _
    simp only [List.length_append, List.map_cons, List.sum_cons, List.length_cons] at ih ⊢
    rw [Nat.add_mul, Nat.add_mul] at *
    omega
theorem tl_joinT (y : Str) (l : List Str) : tl (Txt.join y l) = joinL (tl y) (l.map tl) := by rw [join_eq, tl_join]
theorem line_ok {r : JR} (h : okRow r) : (∀ c ∈ tl (lineT r), 32 ≤ c ∧ c ≤ 122) ∧ (lineT r).length ≤ 530 := by
  obtain ⟨h1, h2⟩ := words_ok h
  refine ⟨fun c hc => ?_, ?_⟩
  · unfold lineT at hc
    rw [tl_joinT, tl_blank] at hc
    rcases mem_joinL hc with ⟨w, hw, hc⟩ | hc
    · obtain ⟨v, hv, rfl⟩ := List.mem_map.mp hw
      have := (h1 v hv).1 c hc
      omega
    · have : c = 32 := by simpa using hc
      omega
  · rw [len_tl]
    unfold lineT
    rw [tl_joinT, tl_blank]
    have a := len_joinL (S := [32]) (l := (wordsT r).map tl)
    have b := sum_le (fun w hw => (h1 w hw).2)
    rw [List.map_map] at a
    have e : (List.map (List.length ∘ tl) (wordsT r)) = (wordsT r).map (·.length) := List.map_congr_left fun w _ => (len_tl w).symm
    rw [e, List.length_map] at a
    simp only [List.length_cons, List.length_nil] at a
    omega
theorem split_line {r : JR} (h : okRow r) : Txt.split (lineT r) (Str.ofString " ") = wordsT r := by
  refine split_join tl_blank (by decide +kernel) (by unfold wordsT; simp) fun w hw z => ?_
  have := (words_ok h).1 w hw |>.1 32 z
  omega
end Jn
namespace Jn
open PySem PySem.Spec PyProof.Rows L2 Mx TL
theorem one_new {M : MH} {a b : Addr} {o u v : MO} (ha : M.get a = none) (hb : MH.get ((a, o) :: M) b = none) : M.get b = none ∧ SubM ((b, v) :: M) ((b, v) :: (a, o) :: M) := ⟨(get_none hb).1, .cons (.new ha)⟩
theorem pl_line_of (ds : List D) (M : MH) (Q : KE) (h : sp_line_of ds M Q fun _ _ => False) : rB E0 c_line_of (endK Q) (startD n_line_of.length ds) M := by
  obtain ⟨r, rfl, ok, q⟩ := h
  change rB E0 c_line_of (endK Q) [some (.tup [.int r.m, adD r.a, evD r.e]), none, none, none] M
  obtain ⟨ws, hw⟩ := ev0 r.e
  obtain ⟨w1, w2⟩ := words_ok ok
  simp only [c_line_of, rB, rS, rE, rT, rO, rC, rX, rEs, rOX, rL, rWk, rG, rGs, rF, byT, lenT, endK, oflD, wipeD, List.getElem?_cons_zero, List.getElem?_cons_succ, List.set_cons_zero, List.set_cons_succ, Bool.not_true, Bool.not_false, Bool.false_eq_true, if_true, if_false, decide_true, decide_false, Bool.true_and, Bool.and_true, Bool.false_and, List.length_nil, List.length_cons, Nat.zero_add, Nat.reduceAdd, Rd.tr_bl, Rd.tr_non, Rd.tr_int, Rd.tr_str, Rd.tr_tup, Rd.tr_fl, Rd.tr_ref, Rd.eq_int, Rd.eq_str, Rd.eq_bl, Rd.sq_tup, Rd.sq_fl, Rd.sq_ref, Rd.cm_eq, Rd.cm_ne, Rd.cm_in, Rd.cm_ni, Rd.is_non, Rd.isn_non, Rd.is_bl, Rd.isn_bl, Rd.is_int, Rd.isn_int, Rd.is_str, Rd.isn_str, Rd.is_tup, Rd.isn_tup, Rd.is_fl, Rd.isn_fl, Rd.is_ref, Rd.isn_ref, Rd.cm_lt, Rd.cm_le, Rd.cm_gt, Rd.cm_ge, Rd.ix_tup, Rd.ix_fl, Rd.ix_str, Rd.ix_ref, Rd.sl_tup, Rd.sl_str, Rd.sl_fl, Rd.sl_ref, Rd.ln_str, Rd.ln_tup, Rd.ln_fl, Rd.ln_ref, Rd.nt_int, Rd.nt_str, Rd.st_int, Rd.ab_int, Rd.od_str, Rd.mx_int, Rd.mn_int, Rd.dm_int, Rd.tp_seq, Rd.ls_seq, Rd.rp_any, Rd.bn_ii, Rd.bn_ss, Rd.bn_tt, Rd.bn_rr, Rd.bn_sub, Rd.bn_mul, Rd.bn_fdv, Rd.bn_mod, Rd.bn_pow, Rd.mt_app, Rd.mt_joi, Rd.mt_spl, Rd.mt_par, Rd.mt_rpa, Rd.my_split, Rd.my_partition, Rd.my_rpartition, Rd.my_count, Rd.my_find, Rd.my_rfind, Rd.my_join, Rd.my_app, Rd.ty_non_int, Rd.ty_non_str, Rd.ty_non_bool, Rd.ty_non_tuple, Rd.ty_non_list, Rd.ty_bl_int, Rd.ty_bl_str, Rd.ty_bl_bool, Rd.ty_bl_tuple, Rd.ty_bl_list, Rd.ty_int_int, Rd.ty_int_str, Rd.ty_int_bool, Rd.ty_int_tuple, Rd.ty_int_list, Rd.ty_str_int, Rd.ty_str_str, Rd.ty_str_bool, Rd.ty_str_tuple, Rd.ty_str_list, Rd.ty_tup_int, Rd.ty_tup_str, Rd.ty_tup_bool, Rd.ty_tup_tuple, Rd.ty_tup_list, Rd.ty_fl_int, Rd.ty_fl_str, Rd.ty_fl_bool, Rd.ty_fl_tuple, Rd.ty_fl_list, Rd.fm_str, Rd.fm_int, Rd.it_t, Rd.it_f, Rd.it_s, Rd.it_r, sl0, sl1, sl2, sl3, sl4, sl5, sl6, true_and, at0, at1, at2, in2, in3, ofS_inj]
  refine ⟨log_small ok.1, ?_⟩
  rw [hw]
  simp only [rB, rS, rE, rT, rO, rC, rX, rEs, rOX, rL, rWk, rG, rGs, rF, byT, lenT, endK, oflD, wipeD, List.getElem?_cons_zero, List.getElem?_cons_succ, List.set_cons_zero, List.set_cons_succ, Bool.not_true, Bool.not_false, Bool.false_eq_true, if_true, if_false, decide_true, decide_false, Bool.true_and, Bool.and_true, Bool.false_and, List.length_nil, List.length_cons, Nat.zero_add, Nat.reduceAdd, Rd.tr_bl, Rd.tr_non, Rd.tr_int, Rd.tr_str, Rd.tr_tup, Rd.tr_fl, Rd.tr_ref, Rd.eq_int, Rd.eq_str, Rd.eq_bl, Rd.sq_tup, Rd.sq_fl, Rd.sq_ref, Rd.cm_eq, Rd.cm_ne, Rd.cm_in, Rd.cm_ni, Rd.is_non, Rd.isn_non, Rd.is_bl, Rd.isn_bl, Rd.is_int, Rd.isn_int, Rd.is_str, Rd.isn_str, Rd.is_tup, Rd.isn_tup, Rd.is_fl, Rd.isn_fl, Rd.is_ref, Rd.isn_ref, Rd.cm_lt, Rd.cm_le, Rd.cm_gt, Rd.cm_ge, Rd.ix_tup, Rd.ix_fl, Rd.ix_str, Rd.ix_ref, Rd.sl_tup, Rd.sl_str, Rd.sl_fl, Rd.sl_ref, Rd.ln_str, Rd.ln_tup, Rd.ln_fl, Rd.ln_ref, Rd.nt_int, Rd.nt_str, Rd.st_int, Rd.ab_int, Rd.od_str, Rd.mx_int, Rd.mn_int, Rd.dm_int, Rd.tp_seq, Rd.ls_seq, Rd.rp_any, Rd.bn_ii, Rd.bn_ss, Rd.bn_tt, Rd.bn_rr, Rd.bn_sub, Rd.bn_mul, Rd.bn_fdv, Rd.bn_mod, Rd.bn_pow, Rd.mt_app, Rd.mt_joi, Rd.mt_spl, Rd.mt_par, Rd.mt_rpa, Rd.my_split, Rd.my_partition, Rd.my_rpartition, Rd.my_count, Rd.my_find, Rd.my_rfind, Rd.my_join, Rd.my_app, Rd.ty_non_int, Rd.ty_non_str, Rd.ty_non_bool, Rd.ty_non_tuple, Rd.ty_non_list, Rd.ty_bl_int, Rd.ty_bl_str, Rd.ty_bl_bool, Rd.ty_bl_tuple, Rd.ty_bl_list, Rd.ty_int_int, Rd.ty_int_str, Rd.ty_int_bool, Rd.ty_int_tuple, Rd.ty_int_list, Rd.ty_str_int, Rd.ty_str_str, Rd.ty_str_bool, Rd.ty_str_tuple, Rd.ty_str_list, Rd.ty_tup_int, Rd.ty_tup_str, Rd.ty_tup_bool, Rd.ty_tup_tuple, Rd.ty_tup_list, Rd.ty_fl_int, Rd.ty_fl_str, Rd.ty_fl_bool, Rd.ty_fl_tuple, Rd.ty_fl_list, Rd.fm_str, Rd.fm_int, Rd.it_t, Rd.it_f, Rd.it_s, Rd.it_r, sl0, sl1, sl2, sl3, sl4, sl5, sl6, true_and, at0, at1, at2, in2, in3, ofS_inj, Option.some.injEq, exists_eq_left']
  refine ⟨r.a, rfl, ok.2.1, fun p hp _ => ⟨r.e, by rw [hw], ok.2.2, fun p2 hp2 => ?_⟩⟩
  refine ⟨_, _, get_old MH.get_same hp2, by rw [MH.get_same]; rfl, ?_, fun p3 hp3 => ?_⟩
  · have e : ((wordsB r.e).map D.str).length + 3 ≤ 10 := by
      rw [List.length_map]
      have : (wordsT r).length = (wordsB r.e).length + 3 := rfl
      omega
    refine sz _ ?_
    show 3 + ((wordsB r.e).map D.str).length ≤ _
    omega
  · have e5 : MO.lst ([D.str (Str.ofString (toString (r.m : Int))), D.str (kindT r.e), D.str (adT r.a)] ++ (wordsB r.e).map D.str) = .lst ((wordsT r).map .str) := rfl
    rw [e5]
    refine ⟨wordsT r, ?_, ?_, ?_⟩
    · simp only [Rd.sq_ref, MH.get_same]
    · exact join_fits (fun w hw => (w1 w hw).2) w2 (by decide)
    · obtain ⟨n3, sub⟩ := two_new (v := .lst ((wordsT r).map .str)) hp hp2 hp3
      exact drop_by ((SubM.new n3).trans sub) q
theorem pl_row_in (ds : List D) (M : MH) (Q : KE) (h : sp_row_in ds M Q fun _ _ => False) : rB E0 c_row_in (endK Q) (startD n_row_in.length ds) M := by
  obtain ⟨r, rfl, ok, q⟩ := h
  change rB E0 c_row_in (endK Q) [some (.str (lineT r)), none, none, none] M
  have hz := (line_ok ok).2
  simp only [c_row_in, rB, rS, rE, rT, rO, rC, rX, rEs, rOX, rL, rWk, rG, rGs, rF, byT, lenT, endK, oflD, wipeD, List.getElem?_cons_zero, List.getElem?_cons_succ, List.set_cons_zero, List.set_cons_succ, Bool.not_true, Bool.not_false, Bool.false_eq_true, if_true, if_false, decide_true, decide_false, Bool.true_and, Bool.and_true, Bool.false_and, List.length_nil, List.length_cons, Nat.zero_add, Nat.reduceAdd, Rd.tr_bl, Rd.tr_non, Rd.tr_int, Rd.tr_str, Rd.tr_tup, Rd.tr_fl, Rd.tr_ref, Rd.eq_int, Rd.eq_str, Rd.eq_bl, Rd.sq_tup, Rd.sq_fl, Rd.sq_ref, Rd.cm_eq, Rd.cm_ne, Rd.cm_in, Rd.cm_ni, Rd.is_non, Rd.isn_non, Rd.is_bl, Rd.isn_bl, Rd.is_int, Rd.isn_int, Rd.is_str, Rd.isn_str, Rd.is_tup, Rd.isn_tup, Rd.is_fl, Rd.isn_fl, Rd.is_ref, Rd.isn_ref, Rd.cm_lt, Rd.cm_le, Rd.cm_gt, Rd.cm_ge, Rd.ix_tup, Rd.ix_fl, Rd.ix_str, Rd.ix_ref, Rd.sl_tup, Rd.sl_str, Rd.sl_fl, Rd.sl_ref, Rd.ln_str, Rd.ln_tup, Rd.ln_fl, Rd.ln_ref, Rd.nt_int, Rd.nt_str, Rd.st_int, Rd.ab_int, Rd.od_str, Rd.mx_int, Rd.mn_int, Rd.dm_int, Rd.tp_seq, Rd.ls_seq, Rd.rp_any, Rd.bn_ii, Rd.bn_ss, Rd.bn_tt, Rd.bn_rr, Rd.bn_sub, Rd.bn_mul, Rd.bn_fdv, Rd.bn_mod, Rd.bn_pow, Rd.mt_app, Rd.mt_joi, Rd.mt_spl, Rd.mt_par, Rd.mt_rpa, Rd.my_split, Rd.my_partition, Rd.my_rpartition, Rd.my_count, Rd.my_find, Rd.my_rfind, Rd.my_join, Rd.my_app, Rd.ty_non_int, Rd.ty_non_str, Rd.ty_non_bool, Rd.ty_non_tuple, Rd.ty_non_list, Rd.ty_bl_int, Rd.ty_bl_str, Rd.ty_bl_bool, Rd.ty_bl_tuple, Rd.ty_bl_list, Rd.ty_int_int, Rd.ty_int_str, Rd.ty_int_bool, Rd.ty_int_tuple, Rd.ty_int_list, Rd.ty_str_int, Rd.ty_str_str, Rd.ty_str_bool, Rd.ty_str_tuple, Rd.ty_str_list, Rd.ty_tup_int, Rd.ty_tup_str, Rd.ty_tup_bool, Rd.ty_tup_tuple, Rd.ty_tup_list, Rd.ty_fl_int, Rd.ty_fl_str, Rd.ty_fl_bool, Rd.ty_fl_tuple, Rd.ty_fl_list, Rd.fm_str, Rd.fm_int, Rd.it_t, Rd.it_f, Rd.it_s, Rd.it_r, sl0, sl1, sl2, sl3, sl4, sl5, sl6, true_and, at0, at1, at2, in2, in3, ofS_inj]
  refine ⟨by decide +kernel, sz _ (by omega), fun p hp => ?_⟩
  rw [split_line ok]
  have e1 : (wordsT r).map D.str = .str (numT r.m) :: .str (kindT r.e) :: .str (adT r.a) :: (wordsB r.e).map D.str := rfl
  rw [e1]
  have e2 : decide (((((wordsB r.e).map D.str).length + 1 + 1 + 1 : Nat) : Int) < 3) = false := decide_eq_false (by omega)
  have hg : MH.get ((p, MO.lst (.str (numT r.m) :: .str (kindT r.e) :: .str (adT r.a) :: (wordsB r.e).map D.str)) :: M) p = some (.lst (.str (numT r.m) :: .str (kindT r.e) :: .str (adT r.a) :: (wordsB r.e).map D.str)) := MH.get_same
  have sub : SubM M ((p, MO.lst (.str (numT r.m) :: .str (kindT r.e) :: .str (adT r.a) :: (wordsB r.e).map D.str)) :: M) := .new hp
  generalize ((p, MO.lst (.str (numT r.m) :: .str (kindT r.e) :: .str (adT r.a) :: (wordsB r.e).map D.str)) :: M) = M1 at hg sub
  simp only [rB, rS, rE, rT, rO, rC, rX, rEs, rOX, rL, rWk, rG, rGs, rF, byT, lenT, endK, oflD, wipeD, List.getElem?_cons_zero, List.getElem?_cons_succ, List.set_cons_zero, List.set_cons_succ, Bool.not_true, Bool.not_false, Bool.false_eq_true, if_true, if_false, decide_true, decide_false, Bool.true_and, Bool.and_true, Bool.false_and, List.length_nil, List.length_cons, Nat.zero_add, Nat.reduceAdd, Rd.tr_bl, Rd.tr_non, Rd.tr_int, Rd.tr_str, Rd.tr_tup, Rd.tr_fl, Rd.tr_ref, Rd.eq_int, Rd.eq_str, Rd.eq_bl, Rd.sq_tup, Rd.sq_fl, Rd.sq_ref, Rd.cm_eq, Rd.cm_ne, Rd.cm_in, Rd.cm_ni, Rd.is_non, Rd.isn_non, Rd.is_bl, Rd.isn_bl, Rd.is_int, Rd.isn_int, Rd.is_str, Rd.isn_str, Rd.is_tup, Rd.isn_tup, Rd.is_fl, Rd.isn_fl, Rd.is_ref, Rd.isn_ref, Rd.cm_lt, Rd.cm_le, Rd.cm_gt, Rd.cm_ge, Rd.ix_tup, Rd.ix_fl, Rd.ix_str, Rd.ix_ref, Rd.sl_tup, Rd.sl_str, Rd.sl_fl, Rd.sl_ref, Rd.ln_str, Rd.ln_tup, Rd.ln_fl, Rd.ln_ref, Rd.nt_int, Rd.nt_str, Rd.st_int, Rd.ab_int, Rd.od_str, Rd.mx_int, Rd.mn_int, Rd.dm_int, Rd.tp_seq, Rd.ls_seq, Rd.rp_any, Rd.bn_ii, Rd.bn_ss, Rd.bn_tt, Rd.bn_rr, Rd.bn_sub, Rd.bn_mul, Rd.bn_fdv, Rd.bn_mod, Rd.bn_pow, Rd.mt_app, Rd.mt_joi, Rd.mt_spl, Rd.mt_par, Rd.mt_rpa, Rd.my_split, Rd.my_partition, Rd.my_rpartition, Rd.my_count, Rd.my_find, Rd.my_rfind, Rd.my_join, Rd.my_app, Rd.ty_non_int, Rd.ty_non_str, Rd.ty_non_bool, Rd.ty_non_tuple, Rd.ty_non_list, Rd.ty_bl_int, Rd.ty_bl_str, Rd.ty_bl_bool, Rd.ty_bl_tuple, Rd.ty_bl_list, Rd.ty_int_int, Rd.ty_int_str, Rd.ty_int_bool, Rd.ty_int_tuple, Rd.ty_int_list, Rd.ty_str_int, Rd.ty_str_str, Rd.ty_str_bool, Rd.ty_str_tuple, Rd.ty_str_list, Rd.ty_tup_int, Rd.ty_tup_str, Rd.ty_tup_bool, Rd.ty_tup_tuple, Rd.ty_tup_list, Rd.ty_fl_int, Rd.ty_fl_str, Rd.ty_fl_bool, Rd.ty_fl_tuple, Rd.ty_fl_list, Rd.fm_str, Rd.fm_int, Rd.it_t, Rd.it_f, Rd.it_s, Rd.it_r, hg, e2, sl0, sl1, sl2, sl3, sl4, sl5, sl6, true_and, at0, at1, at2, in2, in3, ofS_inj, Option.some.injEq, exists_eq_left']
  refine ⟨r.m, rfl, ok.1, ?_⟩
  simp only [rB, rS, rE, rT, rO, rC, rX, rEs, rOX, rL, rWk, rG, rGs, rF, byT, lenT, endK, oflD, wipeD, List.getElem?_cons_zero, List.getElem?_cons_succ, List.set_cons_zero, List.set_cons_succ, Bool.not_true, Bool.not_false, Bool.false_eq_true, if_true, if_false, decide_true, decide_false, Bool.true_and, Bool.and_true, Bool.false_and, List.length_nil, List.length_cons, Nat.zero_add, Nat.reduceAdd, Rd.tr_bl, Rd.tr_non, Rd.tr_int, Rd.tr_str, Rd.tr_tup, Rd.tr_fl, Rd.tr_ref, Rd.eq_int, Rd.eq_str, Rd.eq_bl, Rd.sq_tup, Rd.sq_fl, Rd.sq_ref, Rd.cm_eq, Rd.cm_ne, Rd.cm_in, Rd.cm_ni, Rd.is_non, Rd.isn_non, Rd.is_bl, Rd.isn_bl, Rd.is_int, Rd.isn_int, Rd.is_str, Rd.isn_str, Rd.is_tup, Rd.isn_tup, Rd.is_fl, Rd.isn_fl, Rd.is_ref, Rd.isn_ref, Rd.cm_lt, Rd.cm_le, Rd.cm_gt, Rd.cm_ge, Rd.ix_tup, Rd.ix_fl, Rd.ix_str, Rd.ix_ref, Rd.sl_tup, Rd.sl_str, Rd.sl_fl, Rd.sl_ref, Rd.ln_str, Rd.ln_tup, Rd.ln_fl, Rd.ln_ref, Rd.nt_int, Rd.nt_str, Rd.st_int, Rd.ab_int, Rd.od_str, Rd.mx_int, Rd.mn_int, Rd.dm_int, Rd.tp_seq, Rd.ls_seq, Rd.rp_any, Rd.bn_ii, Rd.bn_ss, Rd.bn_tt, Rd.bn_rr, Rd.bn_sub, Rd.bn_mul, Rd.bn_fdv, Rd.bn_mod, Rd.bn_pow, Rd.mt_app, Rd.mt_joi, Rd.mt_spl, Rd.mt_par, Rd.mt_rpa, Rd.my_split, Rd.my_partition, Rd.my_rpartition, Rd.my_count, Rd.my_find, Rd.my_rfind, Rd.my_join, Rd.my_app, Rd.ty_non_int, Rd.ty_non_str, Rd.ty_non_bool, Rd.ty_non_tuple, Rd.ty_non_list, Rd.ty_bl_int, Rd.ty_bl_str, Rd.ty_bl_bool, Rd.ty_bl_tuple, Rd.ty_bl_list, Rd.ty_int_int, Rd.ty_int_str, Rd.ty_int_bool, Rd.ty_int_tuple, Rd.ty_int_list, Rd.ty_str_int, Rd.ty_str_str, Rd.ty_str_bool, Rd.ty_str_tuple, Rd.ty_str_list, Rd.ty_tup_int, Rd.ty_tup_str, Rd.ty_tup_bool, Rd.ty_tup_tuple, Rd.ty_tup_list, Rd.ty_fl_int, Rd.ty_fl_str, Rd.ty_fl_bool, Rd.ty_fl_tuple, Rd.ty_fl_list, Rd.fm_str, Rd.fm_int, Rd.it_t, Rd.it_f, Rd.it_s, Rd.it_r, hg, sl0, sl1, sl2, sl3, sl4, sl5, sl6, true_and, at0, at1, at2, in2, in3, ofS_inj, Option.some.injEq, exists_eq_left']
  refine ⟨r.a, rfl, ok.2.1, ?_⟩
  simp only [rB, rS, rE, rT, rO, rC, rX, rEs, rOX, rL, rWk, rG, rGs, rF, byT, lenT, endK, oflD, wipeD, List.getElem?_cons_zero, List.getElem?_cons_succ, List.set_cons_zero, List.set_cons_succ, Bool.not_true, Bool.not_false, Bool.false_eq_true, if_true, if_false, decide_true, decide_false, Bool.true_and, Bool.and_true, Bool.false_and, List.length_nil, List.length_cons, Nat.zero_add, Nat.reduceAdd, Rd.tr_bl, Rd.tr_non, Rd.tr_int, Rd.tr_str, Rd.tr_tup, Rd.tr_fl, Rd.tr_ref, Rd.eq_int, Rd.eq_str, Rd.eq_bl, Rd.sq_tup, Rd.sq_fl, Rd.sq_ref, Rd.cm_eq, Rd.cm_ne, Rd.cm_in, Rd.cm_ni, Rd.is_non, Rd.isn_non, Rd.is_bl, Rd.isn_bl, Rd.is_int, Rd.isn_int, Rd.is_str, Rd.isn_str, Rd.is_tup, Rd.isn_tup, Rd.is_fl, Rd.isn_fl, Rd.is_ref, Rd.isn_ref, Rd.cm_lt, Rd.cm_le, Rd.cm_gt, Rd.cm_ge, Rd.ix_tup, Rd.ix_fl, Rd.ix_str, Rd.ix_ref, Rd.sl_tup, Rd.sl_str, Rd.sl_fl, Rd.sl_ref, Rd.ln_str, Rd.ln_tup, Rd.ln_fl, Rd.ln_ref, Rd.nt_int, Rd.nt_str, Rd.st_int, Rd.ab_int, Rd.od_str, Rd.mx_int, Rd.mn_int, Rd.dm_int, Rd.tp_seq, Rd.ls_seq, Rd.rp_any, Rd.bn_ii, Rd.bn_ss, Rd.bn_tt, Rd.bn_rr, Rd.bn_sub, Rd.bn_mul, Rd.bn_fdv, Rd.bn_mod, Rd.bn_pow, Rd.mt_app, Rd.mt_joi, Rd.mt_spl, Rd.mt_par, Rd.mt_rpa, Rd.my_split, Rd.my_partition, Rd.my_rpartition, Rd.my_count, Rd.my_find, Rd.my_rfind, Rd.my_join, Rd.my_app, Rd.ty_non_int, Rd.ty_non_str, Rd.ty_non_bool, Rd.ty_non_tuple, Rd.ty_non_list, Rd.ty_bl_int, Rd.ty_bl_str, Rd.ty_bl_bool, Rd.ty_bl_tuple, Rd.ty_bl_list, Rd.ty_int_int, Rd.ty_int_str, Rd.ty_int_bool, Rd.ty_int_tuple, Rd.ty_int_list, Rd.ty_str_int, Rd.ty_str_str, Rd.ty_str_bool, Rd.ty_str_tuple, Rd.ty_str_list, Rd.ty_tup_int, Rd.ty_tup_str, Rd.ty_tup_bool, Rd.ty_tup_tuple, Rd.ty_tup_list, Rd.ty_fl_int, Rd.ty_fl_str, Rd.ty_fl_bool, Rd.ty_fl_tuple, Rd.ty_fl_list, Rd.fm_str, Rd.fm_int, Rd.it_t, Rd.it_f, Rd.it_s, Rd.it_r, hg, sl0, sl1, sl2, sl3, sl4, sl5, sl6, true_and, at0, at1, at2, in2, in3, ofS_inj, Option.some.injEq, exists_eq_left']
  intro p2 hp2 _
  have hg2 : MH.get ((p2, MO.lst [.str (kindT r.e)]) :: M1) p = some (.lst (.str (numT r.m) :: .str (kindT r.e) :: .str (adT r.a) :: (wordsB r.e).map D.str)) := get_old hg hp2
  simp only [hg2, cut3, List.drop_succ_cons, List.drop_zero]
  intro p3 hp3
  refine ⟨_, _, get_old MH.get_same hp3, MH.get_same, ?_, fun p4 hp4 => ?_⟩
  · refine sz _ ?_
    show 1 + ((wordsB r.e).map D.str).length ≤ _
    have := (words_ok ok).2
    have e : (wordsT r).length = (wordsB r.e).length + 3 := rfl
    rw [List.length_map]
    omega
  · refine ⟨p4, r.e, rfl, by rw [MH.get_same]; rfl, ok.2.2, ?_⟩
    have hg3 : MH.get ((p4, MO.lst ([D.str (kindT r.e)] ++ (wordsB r.e).map D.str)) :: (p3, MO.lst ((wordsB r.e).map D.str)) :: (p2, MO.lst [.str (kindT r.e)]) :: M1) p = some (.lst (.str (numT r.m) :: .str (kindT r.e) :: .str (adT r.a) :: (wordsB r.e).map D.str)) := get_old (get_old hg2 hp3) hp4
    obtain ⟨ws, hw⟩ := ev0 r.e
    have ea : adD r.a = .tup [.str r.a.1, .str r.a.2] := rfl
    have hv : intText? (numT r.m) = some (r.m : Int) := int_num (by rw [← len_numT]; have := (num_len ok.1).2; omega)
    rw [hw, ea]
    simp only [rB, rS, rE, rT, rO, rC, rX, rEs, rOX, rL, rWk, rG, rGs, rF, byT, lenT, endK, oflD, wipeD, List.getElem?_cons_zero, List.getElem?_cons_succ, List.set_cons_zero, List.set_cons_succ, Bool.not_true, Bool.not_false, Bool.false_eq_true, if_true, if_false, decide_true, decide_false, Bool.true_and, Bool.and_true, Bool.false_and, List.length_nil, List.length_cons, Nat.zero_add, Nat.reduceAdd, Rd.tr_bl, Rd.tr_non, Rd.tr_int, Rd.tr_str, Rd.tr_tup, Rd.tr_fl, Rd.tr_ref, Rd.eq_int, Rd.eq_str, Rd.eq_bl, Rd.sq_tup, Rd.sq_fl, Rd.sq_ref, Rd.cm_eq, Rd.cm_ne, Rd.cm_in, Rd.cm_ni, Rd.is_non, Rd.isn_non, Rd.is_bl, Rd.isn_bl, Rd.is_int, Rd.isn_int, Rd.is_str, Rd.isn_str, Rd.is_tup, Rd.isn_tup, Rd.is_fl, Rd.isn_fl, Rd.is_ref, Rd.isn_ref, Rd.cm_lt, Rd.cm_le, Rd.cm_gt, Rd.cm_ge, Rd.ix_tup, Rd.ix_fl, Rd.ix_str, Rd.ix_ref, Rd.sl_tup, Rd.sl_str, Rd.sl_fl, Rd.sl_ref, Rd.ln_str, Rd.ln_tup, Rd.ln_fl, Rd.ln_ref, Rd.nt_int, Rd.nt_str, Rd.st_int, Rd.ab_int, Rd.od_str, Rd.mx_int, Rd.mn_int, Rd.dm_int, Rd.tp_seq, Rd.ls_seq, Rd.rp_any, Rd.bn_ii, Rd.bn_ss, Rd.bn_tt, Rd.bn_rr, Rd.bn_sub, Rd.bn_mul, Rd.bn_fdv, Rd.bn_mod, Rd.bn_pow, Rd.mt_app, Rd.mt_joi, Rd.mt_spl, Rd.mt_par, Rd.mt_rpa, Rd.my_split, Rd.my_partition, Rd.my_rpartition, Rd.my_count, Rd.my_find, Rd.my_rfind, Rd.my_join, Rd.my_app, Rd.ty_non_int, Rd.ty_non_str, Rd.ty_non_bool, Rd.ty_non_tuple, Rd.ty_non_list, Rd.ty_bl_int, Rd.ty_bl_str, Rd.ty_bl_bool, Rd.ty_bl_tuple, Rd.ty_bl_list, Rd.ty_int_int, Rd.ty_int_str, Rd.ty_int_bool, Rd.ty_int_tuple, Rd.ty_int_list, Rd.ty_str_int, Rd.ty_str_str, Rd.ty_str_bool, Rd.ty_str_tuple, Rd.ty_str_list, Rd.ty_tup_int, Rd.ty_tup_str, Rd.ty_tup_bool, Rd.ty_tup_tuple, Rd.ty_tup_list, Rd.ty_fl_int, Rd.ty_fl_str, Rd.ty_fl_bool, Rd.ty_fl_tuple, Rd.ty_fl_list, Rd.fm_str, Rd.fm_int, Rd.it_t, Rd.it_f, Rd.it_s, Rd.it_r, hg3, sl0, sl1, sl2, sl3, sl4, sl5, sl6, true_and, at0, at1, at2, in2, in3, ofS_inj, Option.some.injEq, exists_eq_left']
    refine ⟨r.m, hv, by have := (num_len ok.1).2; omega, ?_⟩
    rw [← hw, ← ea]
    exact drop_by (((sub.trans (.new hp2)).trans (.new hp3)).trans (.new hp4)) q
theorem zip_enum {α : Type} (f : α → D) (l : List α) : enumD (l.map f) = l.zipIdx.map fun p => .tup [.int (p.2 : Nat), f p.1] := by
  refine List.ext_getElem? fun i => ?_
  unfold enumD
  rw [List.getElem?_zipWith, List.getElem?_map, List.getElem?_map, List.getElem?_zipIdx, List.length_map]
  cases h : l[i]? with
  | none =>
    have : l.length ≤ i := List.getElem?_eq_none_iff.mp h
    rw [List.getElem?_eq_none (by rw [List.length_range]; exact this)]
    rfl
  | some a =>
    have : i < l.length := (List.getElem?_eq_some_iff.mp h).1
    rw [List.getElem?_range this]
    simp
theorem sum_zip : ∀ (l : List Nat) (k : Nat), ((l.zipIdx k).map fun p => ((p.2 : Int) + 1) * (p.1 : Int)).sum = sumS k l
  | [], _ => rfl
  | c :: l, k => by
    rw [List.zipIdx_cons, List.map_cons, List.sum_cons, sum_zip l (k + 1)]
    rfl
theorem pl_seal_in (ds : List D) (M : MH) (Q : KE) (h : sp_seal_in ds M Q fun _ _ => False) : rB E0 c_seal_in (endK Q) (startD n_seal_in.length ds) M := by
  obtain ⟨t, rfl, hl, hb, q⟩ := h
  change rB E0 c_seal_in (endK Q) [some (.str t), none, none] M
  simp only [c_seal_in, rB, rS, rE, rT, rO, rC, rX, rEs, rOX, rL, rWk, rG, rGs, rF, byT, lenT, endK, oflD, wipeD, List.getElem?_cons_zero, List.getElem?_cons_succ, List.set_cons_zero, List.set_cons_succ, Bool.not_true, Bool.not_false, Bool.false_eq_true, if_true, if_false, decide_true, decide_false, Bool.true_and, Bool.and_true, Bool.false_and, List.length_nil, List.length_cons, Nat.zero_add, Nat.reduceAdd, Rd.tr_bl, Rd.tr_non, Rd.tr_int, Rd.tr_str, Rd.tr_tup, Rd.tr_fl, Rd.tr_ref, Rd.eq_int, Rd.eq_str, Rd.eq_bl, Rd.sq_tup, Rd.sq_fl, Rd.sq_ref, Rd.cm_eq, Rd.cm_ne, Rd.cm_in, Rd.cm_ni, Rd.is_non, Rd.isn_non, Rd.is_bl, Rd.isn_bl, Rd.is_int, Rd.isn_int, Rd.is_str, Rd.isn_str, Rd.is_tup, Rd.isn_tup, Rd.is_fl, Rd.isn_fl, Rd.is_ref, Rd.isn_ref, Rd.cm_lt, Rd.cm_le, Rd.cm_gt, Rd.cm_ge, Rd.ix_tup, Rd.ix_fl, Rd.ix_str, Rd.ix_ref, Rd.sl_tup, Rd.sl_str, Rd.sl_fl, Rd.sl_ref, Rd.ln_str, Rd.ln_tup, Rd.ln_fl, Rd.ln_ref, Rd.nt_int, Rd.nt_str, Rd.st_int, Rd.ab_int, Rd.od_str, Rd.mx_int, Rd.mn_int, Rd.dm_int, Rd.tp_seq, Rd.ls_seq, Rd.rp_any, Rd.bn_ii, Rd.bn_ss, Rd.bn_tt, Rd.bn_rr, Rd.bn_sub, Rd.bn_mul, Rd.bn_fdv, Rd.bn_mod, Rd.bn_pow, Rd.mt_app, Rd.mt_joi, Rd.mt_spl, Rd.mt_par, Rd.mt_rpa, Rd.my_split, Rd.my_partition, Rd.my_rpartition, Rd.my_count, Rd.my_find, Rd.my_rfind, Rd.my_join, Rd.my_app, Rd.ty_non_int, Rd.ty_non_str, Rd.ty_non_bool, Rd.ty_non_tuple, Rd.ty_non_list, Rd.ty_bl_int, Rd.ty_bl_str, Rd.ty_bl_bool, Rd.ty_bl_tuple, Rd.ty_bl_list, Rd.ty_int_int, Rd.ty_int_str, Rd.ty_int_bool, Rd.ty_int_tuple, Rd.ty_int_list, Rd.ty_str_int, Rd.ty_str_str, Rd.ty_str_bool, Rd.ty_str_tuple, Rd.ty_str_list, Rd.ty_tup_int, Rd.ty_tup_str, Rd.ty_tup_bool, Rd.ty_tup_tuple, Rd.ty_tup_list, Rd.ty_fl_int, Rd.ty_fl_str, Rd.ty_fl_bool, Rd.ty_fl_tuple, Rd.ty_fl_list, Rd.fm_str, Rd.fm_int, Rd.it_t, Rd.it_f, Rd.it_s, Rd.it_r, sl0, sl1, sl2, sl3, sl4, sl5, sl6, true_and, at0, at1, at2, in2, in3, ofS_inj, zip_enum]
  refine gather_over _ _ (fun p => D.int (((p.2 : Int) + 1) * (p.1 : Int))) trivial ?_ (fun p hp k hk => ?_) ?_
  · rw [List.length_zipIdx]
    refine sz _ ?_
    rw [len_tl] at hl
    exact Nat.le_trans hl (by decide)
  · obtain ⟨c, i⟩ := p
    have hi : i < (tl t).length := by
      have := List.mem_zipIdx hp
      show i < t.cps.toList.length
      omega
    have hc : c ∈ tl t := by
      have := List.mem_zipIdx hp
      rw [this.2.2]
      exact List.getElem_mem _
    have hcb := hb c hc
    rw [len_tl] at hl
    simp only [rB, rS, rE, rT, rO, rC, rX, rEs, rOX, rL, rWk, rG, rGs, rF, byT, lenT, endK, oflD, wipeD, List.getElem?_cons_zero, List.getElem?_cons_succ, List.set_cons_zero, List.set_cons_succ, Bool.not_true, Bool.not_false, Bool.false_eq_true, if_true, if_false, decide_true, decide_false, Bool.true_and, Bool.and_true, Bool.false_and, List.length_nil, List.length_cons, Nat.zero_add, Nat.reduceAdd, Rd.tr_bl, Rd.tr_non, Rd.tr_int, Rd.tr_str, Rd.tr_tup, Rd.tr_fl, Rd.tr_ref, Rd.eq_int, Rd.eq_str, Rd.eq_bl, Rd.sq_tup, Rd.sq_fl, Rd.sq_ref, Rd.cm_eq, Rd.cm_ne, Rd.cm_in, Rd.cm_ni, Rd.is_non, Rd.isn_non, Rd.is_bl, Rd.isn_bl, Rd.is_int, Rd.isn_int, Rd.is_str, Rd.isn_str, Rd.is_tup, Rd.isn_tup, Rd.is_fl, Rd.isn_fl, Rd.is_ref, Rd.isn_ref, Rd.cm_lt, Rd.cm_le, Rd.cm_gt, Rd.cm_ge, Rd.ix_tup, Rd.ix_fl, Rd.ix_str, Rd.ix_ref, Rd.sl_tup, Rd.sl_str, Rd.sl_fl, Rd.sl_ref, Rd.ln_str, Rd.ln_tup, Rd.ln_fl, Rd.ln_ref, Rd.nt_int, Rd.nt_str, Rd.st_int, Rd.ab_int, Rd.od_str, Rd.mx_int, Rd.mn_int, Rd.dm_int, Rd.tp_seq, Rd.ls_seq, Rd.rp_any, Rd.bn_ii, Rd.bn_ss, Rd.bn_tt, Rd.bn_rr, Rd.bn_sub, Rd.bn_mul, Rd.bn_fdv, Rd.bn_mod, Rd.bn_pow, Rd.mt_app, Rd.mt_joi, Rd.mt_spl, Rd.mt_par, Rd.mt_rpa, Rd.my_split, Rd.my_partition, Rd.my_rpartition, Rd.my_count, Rd.my_find, Rd.my_rfind, Rd.my_join, Rd.my_app, Rd.ty_non_int, Rd.ty_non_str, Rd.ty_non_bool, Rd.ty_non_tuple, Rd.ty_non_list, Rd.ty_bl_int, Rd.ty_bl_str, Rd.ty_bl_bool, Rd.ty_bl_tuple, Rd.ty_bl_list, Rd.ty_int_int, Rd.ty_int_str, Rd.ty_int_bool, Rd.ty_int_tuple, Rd.ty_int_list, Rd.ty_str_int, Rd.ty_str_str, Rd.ty_str_bool, Rd.ty_str_tuple, Rd.ty_str_list, Rd.ty_tup_int, Rd.ty_tup_str, Rd.ty_tup_bool, Rd.ty_tup_tuple, Rd.ty_tup_list, Rd.ty_fl_int, Rd.ty_fl_str, Rd.ty_fl_bool, Rd.ty_fl_tuple, Rd.ty_fl_list, Rd.fm_str, Rd.fm_int, Rd.it_t, Rd.it_f, Rd.it_s, Rd.it_r, sl0, sl1, sl2, sl3, sl4, sl5, sl6, true_and, at0, at1, at2, in2, in3, ofS_inj, show ([D.int (i : Int), D.str ⟨#[c]⟩]).length = 2 from rfl]
    refine ⟨rfl, ?_⟩
    refine ⟨mulx_ok (a := 20) (b := 21) (by omega) (by show (c : Int).natAbs < 2 ^ 21; rw [Int.natAbs_natCast]; exact hcb) (by decide), ?_⟩
    exact hk
  · refine ⟨t.cps.toList.zipIdx.map fun p => ((p.2 : Int) + 1) * (p.1 : Int), by rw [List.map_map]; rfl, ?_⟩
    rw [sum_zip]
    exact ⟨by decide, drop_here q⟩
theorem pl_seal_of (ds : List D) (M : MH) (Q : KE) (h : sp_seal_of ds M Q fun _ _ => False) : rB E0 c_seal_of (endK Q) (startD n_seal_of.length ds) M := by
  obtain ⟨t, rfl, hl, hb, q⟩ := h
  change rB E0 c_seal_of (endK Q) [some (.str t)] M
  simp only [c_seal_of, rB, rS, rE, rT, rO, rC, rX, rEs, rOX, rL, rWk, rG, rGs, rF, byT, lenT, endK, oflD, wipeD, List.getElem?_cons_zero, List.getElem?_cons_succ, List.set_cons_zero, List.set_cons_succ, Bool.not_true, Bool.not_false, Bool.false_eq_true, if_true, if_false, decide_true, decide_false, Bool.true_and, Bool.and_true, Bool.false_and, List.length_nil, List.length_cons, Nat.zero_add, Nat.reduceAdd, Rd.tr_bl, Rd.tr_non, Rd.tr_int, Rd.tr_str, Rd.tr_tup, Rd.tr_fl, Rd.tr_ref, Rd.eq_int, Rd.eq_str, Rd.eq_bl, Rd.sq_tup, Rd.sq_fl, Rd.sq_ref, Rd.cm_eq, Rd.cm_ne, Rd.cm_in, Rd.cm_ni, Rd.is_non, Rd.isn_non, Rd.is_bl, Rd.isn_bl, Rd.is_int, Rd.isn_int, Rd.is_str, Rd.isn_str, Rd.is_tup, Rd.isn_tup, Rd.is_fl, Rd.isn_fl, Rd.is_ref, Rd.isn_ref, Rd.cm_lt, Rd.cm_le, Rd.cm_gt, Rd.cm_ge, Rd.ix_tup, Rd.ix_fl, Rd.ix_str, Rd.ix_ref, Rd.sl_tup, Rd.sl_str, Rd.sl_fl, Rd.sl_ref, Rd.ln_str, Rd.ln_tup, Rd.ln_fl, Rd.ln_ref, Rd.nt_int, Rd.nt_str, Rd.st_int, Rd.ab_int, Rd.od_str, Rd.mx_int, Rd.mn_int, Rd.dm_int, Rd.tp_seq, Rd.ls_seq, Rd.rp_any, Rd.bn_ii, Rd.bn_ss, Rd.bn_tt, Rd.bn_rr, Rd.bn_sub, Rd.bn_mul, Rd.bn_fdv, Rd.bn_mod, Rd.bn_pow, Rd.mt_app, Rd.mt_joi, Rd.mt_spl, Rd.mt_par, Rd.mt_rpa, Rd.my_split, Rd.my_partition, Rd.my_rpartition, Rd.my_count, Rd.my_find, Rd.my_rfind, Rd.my_join, Rd.my_app, Rd.ty_non_int, Rd.ty_non_str, Rd.ty_non_bool, Rd.ty_non_tuple, Rd.ty_non_list, Rd.ty_bl_int, Rd.ty_bl_str, Rd.ty_bl_bool, Rd.ty_bl_tuple, Rd.ty_bl_list, Rd.ty_int_int, Rd.ty_int_str, Rd.ty_int_bool, Rd.ty_int_tuple, Rd.ty_int_list, Rd.ty_str_int, Rd.ty_str_str, Rd.ty_str_bool, Rd.ty_str_tuple, Rd.ty_str_list, Rd.ty_tup_int, Rd.ty_tup_str, Rd.ty_tup_bool, Rd.ty_tup_tuple, Rd.ty_tup_list, Rd.ty_fl_int, Rd.ty_fl_str, Rd.ty_fl_bool, Rd.ty_fl_tuple, Rd.ty_fl_list, Rd.fm_str, Rd.fm_int, Rd.it_t, Rd.it_f, Rd.it_s, Rd.it_r]
  exact ⟨t, rfl, hl, hb, drop_here q⟩
end Jn
namespace Jn
open PySem PySem.Spec PyProof.Rows L2 Mx TL
theorem empty_app (x : Str) : Str.empty ++ x = x := ext_tl (by rw [tl_append]; rfl)
theorem len_app (x y : Str) : (x ++ y).length = x.length + y.length := strLen_append x y
theorem empty_len : Str.empty.length = 0 := rfl
theorem blank_len : (Str.ofString " ").length = 1 := by decide +kernel
theorem feed_len : (Str.ofString "\n").length = 1 := by decide +kernel
theorem seal_nat (t : Str) : ∃ n : Nat, sealN t = n ∧ n ≤ 999982 := by
  have h : sealN t = (sumS 0 (tl t)) % 999983 := Int.fmod_eq_emod_of_nonneg _ (by decide)
  have h1 := Int.emod_nonneg (sumS 0 (tl t)) (show (999983 : Int) ≠ 0 by decide)
  have h2 := Int.emod_lt_of_pos (sumS 0 (tl t)) (show (0 : Int) < 999983 by decide)
  exact ⟨(sealN t).toNat, by omega, by omega⟩
theorem head_ok {i : Nat} {r : JR} (hi : i ≤ 1000) (ok : okRow r) : (∀ c ∈ tl (headT i r), 32 ≤ c ∧ c ≤ 122) ∧ (headT i r).length ≤ 543 := by
  obtain ⟨l1, l2⟩ := line_ok ok
  have h1 := (num_len (n := i) (by omega)).2
  refine ⟨fun c hc => ?_, ?_⟩
  · unfold headT at hc
    rw [tl_append, tl_append, tl_blank] at hc
    rcases List.mem_append.mp hc with hc | hc
    · rcases List.mem_append.mp hc with hc | hc
      · have := inW_num i c hc; omega
      · have : c = 32 := by simpa using hc
        omega
    · exact l1 c hc
  · unfold headT
    rw [len_app, len_app, blank_len]
    omega
theorem sealed_ok {i : Nat} {r : JR} (hi : i ≤ 1000) (ok : okRow r) : (∀ c ∈ tl (sealedT i r), 32 ≤ c ∧ c ≤ 122) ∧ (sealedT i r).length ≤ 556 := by
  obtain ⟨l1, l2⟩ := head_ok hi ok
  obtain ⟨n, hn, hn2⟩ := seal_nat (headT i r)
  have h1 := (num_len (n := n) (by omega)).2
  unfold sealedT
  rw [hn]
  refine ⟨fun c hc => ?_, ?_⟩
  · rw [tl_append, tl_append, tl_blank] at hc
    rcases List.mem_append.mp hc with hc | hc
    · rcases List.mem_append.mp hc with hc | hc
      · exact l1 c hc
      · have : c = 32 := by simpa using hc
        omega
    · have := inW_num n c hc; omega
  · rw [len_app, len_app, blank_len]
    have : (Str.ofString (toString (n : Int))).length ≤ 12 := h1
    omega
theorem pl_journal_line (ds : List D) (M : MH) (Q : KE) (h : sp_journal_line ds M Q fun _ _ => False) : rB E0 c_journal_line (endK Q) (startD n_journal_line.length ds) M := by
  obtain ⟨i, r, rfl, hi, ok, q⟩ := h
  change rB E0 c_journal_line (endK Q) [some (.int i), some (rowD r), none] M
  obtain ⟨l1, l2⟩ := line_ok ok
  obtain ⟨h1, h2⟩ := head_ok hi ok
  have hn : (Str.ofString (toString (i : Int))).length ≤ 12 := (num_len (n := i) (by omega)).2
  obtain ⟨n, en, hn2⟩ := seal_nat (headT i r)
  have hm : (Str.ofString (toString (n : Int))).length ≤ 12 := (num_len (n := n) (by omega)).2
  simp only [c_journal_line, rB, rS, rE, rT, rO, rC, rX, rEs, rOX, rL, rWk, rG, rGs, rF, byT, lenT, endK, oflD, wipeD, List.getElem?_cons_zero, List.getElem?_cons_succ, List.set_cons_zero, List.set_cons_succ, Bool.not_true, Bool.not_false, Bool.false_eq_true, if_true, if_false, decide_true, decide_false, Bool.true_and, Bool.and_true, Bool.false_and, List.length_nil, List.length_cons, Nat.zero_add, Nat.reduceAdd, Rd.tr_bl, Rd.tr_non, Rd.tr_int, Rd.tr_str, Rd.tr_tup, Rd.tr_fl, Rd.tr_ref, Rd.eq_int, Rd.eq_str, Rd.eq_bl, Rd.sq_tup, Rd.sq_fl, Rd.sq_ref, Rd.cm_eq, Rd.cm_ne, Rd.cm_in, Rd.cm_ni, Rd.is_non, Rd.isn_non, Rd.is_bl, Rd.isn_bl, Rd.is_int, Rd.isn_int, Rd.is_str, Rd.isn_str, Rd.is_tup, Rd.isn_tup, Rd.is_fl, Rd.isn_fl, Rd.is_ref, Rd.isn_ref, Rd.cm_lt, Rd.cm_le, Rd.cm_gt, Rd.cm_ge, Rd.ix_tup, Rd.ix_fl, Rd.ix_str, Rd.ix_ref, Rd.sl_tup, Rd.sl_str, Rd.sl_fl, Rd.sl_ref, Rd.ln_str, Rd.ln_tup, Rd.ln_fl, Rd.ln_ref, Rd.nt_int, Rd.nt_str, Rd.st_int, Rd.ab_int, Rd.od_str, Rd.mx_int, Rd.mn_int, Rd.dm_int, Rd.tp_seq, Rd.ls_seq, Rd.rp_any, Rd.bn_ii, Rd.bn_ss, Rd.bn_tt, Rd.bn_rr, Rd.bn_sub, Rd.bn_mul, Rd.bn_fdv, Rd.bn_mod, Rd.bn_pow, Rd.mt_app, Rd.mt_joi, Rd.mt_spl, Rd.mt_par, Rd.mt_rpa, Rd.my_split, Rd.my_partition, Rd.my_rpartition, Rd.my_count, Rd.my_find, Rd.my_rfind, Rd.my_join, Rd.my_app, Rd.ty_non_int, Rd.ty_non_str, Rd.ty_non_bool, Rd.ty_non_tuple, Rd.ty_non_list, Rd.ty_bl_int, Rd.ty_bl_str, Rd.ty_bl_bool, Rd.ty_bl_tuple, Rd.ty_bl_list, Rd.ty_int_int, Rd.ty_int_str, Rd.ty_int_bool, Rd.ty_int_tuple, Rd.ty_int_list, Rd.ty_str_int, Rd.ty_str_str, Rd.ty_str_bool, Rd.ty_str_tuple, Rd.ty_str_list, Rd.ty_tup_int, Rd.ty_tup_str, Rd.ty_tup_bool, Rd.ty_tup_tuple, Rd.ty_tup_list, Rd.ty_fl_int, Rd.ty_fl_str, Rd.ty_fl_bool, Rd.ty_fl_tuple, Rd.ty_fl_list, Rd.fm_str, Rd.fm_int, Rd.it_t, Rd.it_f, Rd.it_s, Rd.it_r, sl0, sl1, sl2, sl3, sl4, sl5, sl6, true_and, at0, at1, at2, in2, in3, ofS_inj, empty_app, empty_len, len_app, blank_len, feed_len]
  refine ⟨log_small (by omega), sz _ (by omega), sz _ (by omega), r, rfl, ok, ?_⟩
  simp only [Rd.fm_str]
  refine ⟨sz _ (by omega), sz _ (by omega), sz _ (by omega), headT i r, rfl, by omega, fun c hc => by have := h1 c hc; omega, ?_⟩
  rw [en]
  simp only [Rd.fm_int]
  refine ⟨log_small (by omega), sz _ (by omega), sz _ (by omega), ?_⟩
  refine drop_here ?_
  have e : jline i r = numT i ++ Str.ofString " " ++ lineT r ++ Str.ofString " " ++ Str.ofString (toString (n : Int)) ++ Str.ofString "\n" := by
    unfold jline sealedT
    rw [en]
    rfl
  rw [e] at q
  exact q
theorem pl_lines_in (ds : List D) (M : MH) (Q : KE) (h : sp_lines_in ds M Q fun _ _ => False) : rB E0 c_lines_in (endK Q) (startD n_lines_in.length ds) M := by
  obtain ⟨rs, rfl, ok, hl, q⟩ := h
  change rB E0 c_lines_in (endK Q) [some (.tup (rs.map rowD)), none, none] M
  have e : ∀ (l : List JR) (k : Nat), (l.zipIdx k).map (fun p => D.str (jline p.2 p.1)) = (jlines k l).map D.str := by
    intro l
    induction l with
    | nil => intro k; rfl
    | cons r l ih =>
      intro k
      rw [List.zipIdx_cons, List.map_cons, ih (k + 1)]
      rfl
  simp only [c_lines_in, rB, rS, rE, rT, rO, rC, rX, rEs, rOX, rL, rWk, rG, rGs, rF, byT, lenT, endK, oflD, wipeD, List.getElem?_cons_zero, List.getElem?_cons_succ, List.set_cons_zero, List.set_cons_succ, Bool.not_true, Bool.not_false, Bool.false_eq_true, if_true, if_false, decide_true, decide_false, Bool.true_and, Bool.and_true, Bool.false_and, List.length_nil, List.length_cons, Nat.zero_add, Nat.reduceAdd, Rd.tr_bl, Rd.tr_non, Rd.tr_int, Rd.tr_str, Rd.tr_tup, Rd.tr_fl, Rd.tr_ref, Rd.eq_int, Rd.eq_str, Rd.eq_bl, Rd.sq_tup, Rd.sq_fl, Rd.sq_ref, Rd.cm_eq, Rd.cm_ne, Rd.cm_in, Rd.cm_ni, Rd.is_non, Rd.isn_non, Rd.is_bl, Rd.isn_bl, Rd.is_int, Rd.isn_int, Rd.is_str, Rd.isn_str, Rd.is_tup, Rd.isn_tup, Rd.is_fl, Rd.isn_fl, Rd.is_ref, Rd.isn_ref, Rd.cm_lt, Rd.cm_le, Rd.cm_gt, Rd.cm_ge, Rd.ix_tup, Rd.ix_fl, Rd.ix_str, Rd.ix_ref, Rd.sl_tup, Rd.sl_str, Rd.sl_fl, Rd.sl_ref, Rd.ln_str, Rd.ln_tup, Rd.ln_fl, Rd.ln_ref, Rd.nt_int, Rd.nt_str, Rd.st_int, Rd.ab_int, Rd.od_str, Rd.mx_int, Rd.mn_int, Rd.dm_int, Rd.tp_seq, Rd.ls_seq, Rd.rp_any, Rd.bn_ii, Rd.bn_ss, Rd.bn_tt, Rd.bn_rr, Rd.bn_sub, Rd.bn_mul, Rd.bn_fdv, Rd.bn_mod, Rd.bn_pow, Rd.mt_app, Rd.mt_joi, Rd.mt_spl, Rd.mt_par, Rd.mt_rpa, Rd.my_split, Rd.my_partition, Rd.my_rpartition, Rd.my_count, Rd.my_find, Rd.my_rfind, Rd.my_join, Rd.my_app, Rd.ty_non_int, Rd.ty_non_str, Rd.ty_non_bool, Rd.ty_non_tuple, Rd.ty_non_list, Rd.ty_bl_int, Rd.ty_bl_str, Rd.ty_bl_bool, Rd.ty_bl_tuple, Rd.ty_bl_list, Rd.ty_int_int, Rd.ty_int_str, Rd.ty_int_bool, Rd.ty_int_tuple, Rd.ty_int_list, Rd.ty_str_int, Rd.ty_str_str, Rd.ty_str_bool, Rd.ty_str_tuple, Rd.ty_str_list, Rd.ty_tup_int, Rd.ty_tup_str, Rd.ty_tup_bool, Rd.ty_tup_tuple, Rd.ty_tup_list, Rd.ty_fl_int, Rd.ty_fl_str, Rd.ty_fl_bool, Rd.ty_fl_tuple, Rd.ty_fl_list, Rd.fm_str, Rd.fm_int, Rd.it_t, Rd.it_f, Rd.it_s, Rd.it_r, sl0, sl1, sl2, sl3, sl4, sl5, sl6, true_and, at0, at1, at2, in2, in3, ofS_inj, zip_enum]
  refine gather_over rs.zipIdx (fun p => .tup [.int (p.2 : Nat), rowD p.1]) (fun p => D.str (jline p.2 p.1)) trivial ?_ (fun p hp k hk => ?_) ?_
  · rw [List.length_zipIdx]
    exact sz _ (by omega)
  · obtain ⟨r, i⟩ := p
    have hm := List.mem_zipIdx hp
    have hr : r ∈ rs := by
      rw [hm.2.2]
      exact List.getElem_mem _
    simp only [rB, rS, rE, rT, rO, rC, rX, rEs, rOX, rL, rWk, rG, rGs, rF, byT, lenT, endK, oflD, wipeD, List.getElem?_cons_zero, List.getElem?_cons_succ, List.set_cons_zero, List.set_cons_succ, Bool.not_true, Bool.not_false, Bool.false_eq_true, if_true, if_false, decide_true, decide_false, Bool.true_and, Bool.and_true, Bool.false_and, List.length_nil, List.length_cons, Nat.zero_add, Nat.reduceAdd, Rd.tr_bl, Rd.tr_non, Rd.tr_int, Rd.tr_str, Rd.tr_tup, Rd.tr_fl, Rd.tr_ref, Rd.eq_int, Rd.eq_str, Rd.eq_bl, Rd.sq_tup, Rd.sq_fl, Rd.sq_ref, Rd.cm_eq, Rd.cm_ne, Rd.cm_in, Rd.cm_ni, Rd.is_non, Rd.isn_non, Rd.is_bl, Rd.isn_bl, Rd.is_int, Rd.isn_int, Rd.is_str, Rd.isn_str, Rd.is_tup, Rd.isn_tup, Rd.is_fl, Rd.isn_fl, Rd.is_ref, Rd.isn_ref, Rd.cm_lt, Rd.cm_le, Rd.cm_gt, Rd.cm_ge, Rd.ix_tup, Rd.ix_fl, Rd.ix_str, Rd.ix_ref, Rd.sl_tup, Rd.sl_str, Rd.sl_fl, Rd.sl_ref, Rd.ln_str, Rd.ln_tup, Rd.ln_fl, Rd.ln_ref, Rd.nt_int, Rd.nt_str, Rd.st_int, Rd.ab_int, Rd.od_str, Rd.mx_int, Rd.mn_int, Rd.dm_int, Rd.tp_seq, Rd.ls_seq, Rd.rp_any, Rd.bn_ii, Rd.bn_ss, Rd.bn_tt, Rd.bn_rr, Rd.bn_sub, Rd.bn_mul, Rd.bn_fdv, Rd.bn_mod, Rd.bn_pow, Rd.mt_app, Rd.mt_joi, Rd.mt_spl, Rd.mt_par, Rd.mt_rpa, Rd.my_split, Rd.my_partition, Rd.my_rpartition, Rd.my_count, Rd.my_find, Rd.my_rfind, Rd.my_join, Rd.my_app, Rd.ty_non_int, Rd.ty_non_str, Rd.ty_non_bool, Rd.ty_non_tuple, Rd.ty_non_list, Rd.ty_bl_int, Rd.ty_bl_str, Rd.ty_bl_bool, Rd.ty_bl_tuple, Rd.ty_bl_list, Rd.ty_int_int, Rd.ty_int_str, Rd.ty_int_bool, Rd.ty_int_tuple, Rd.ty_int_list, Rd.ty_str_int, Rd.ty_str_str, Rd.ty_str_bool, Rd.ty_str_tuple, Rd.ty_str_list, Rd.ty_tup_int, Rd.ty_tup_str, Rd.ty_tup_bool, Rd.ty_tup_tuple, Rd.ty_tup_list, Rd.ty_fl_int, Rd.ty_fl_str, Rd.ty_fl_bool, Rd.ty_fl_tuple, Rd.ty_fl_list, Rd.fm_str, Rd.fm_int, Rd.it_t, Rd.it_f, Rd.it_s, Rd.it_r, show ([D.int (i : Int), rowD r]).length = 2 from rfl, true_and]
    exact ⟨i, r, rfl, by omega, ok r hr, hk⟩
  · intro r hr _
    have q1 := q r hr
    rw [e rs 0]
    exact drop_here q1
theorem pl_row_at (ds : List D) (M : MH) (Q : KE) (h : sp_row_at ds M Q fun _ _ => False) : rB E0 c_row_at (endK Q) (startD n_row_at.length ds) M := by
  obtain ⟨i, r, rfl, hi, ok, q⟩ := h
  change rB E0 c_row_at (endK Q) [some (.str (sealedT i r)), some (.int i), none, none, none, none, none] M
  obtain ⟨h1, h2⟩ := head_ok hi ok
  obtain ⟨s1, s2⟩ := sealed_ok hi ok
  obtain ⟨n, en, hn2⟩ := seal_nat (headT i r)
  have e1 : Txt.rpartition (sealedT i r) (Str.ofString " ") = (headT i r, Str.ofString " ", numT n) := by
    unfold sealedT
    rw [en]
    refine rpartition_app tl_blank fun z => ?_
    have := inW_num n 32 z
    omega
  have e2 : Txt.partition (headT i r) (Str.ofString " ") = (numT i, Str.ofString " ", lineT r) := by
    unfold headT
    refine partition_app tl_blank fun z => ?_
    have := inW_num i 32 z
    omega
  have e3 : Str.ofString (toString (n : Int)) = numT n := rfl
  have e4 : Str.ofString (toString (i : Int)) = numT i := rfl
  simp only [c_row_at, rB, rS, rE, rT, rO, rC, rX, rEs, rOX, rL, rWk, rG, rGs, rF, byT, lenT, endK, oflD, wipeD, List.getElem?_cons_zero, List.getElem?_cons_succ, List.set_cons_zero, List.set_cons_succ, Bool.not_true, Bool.not_false, Bool.false_eq_true, if_true, if_false, decide_true, decide_false, Bool.true_and, Bool.and_true, Bool.false_and, List.length_nil, List.length_cons, Nat.zero_add, Nat.reduceAdd, Rd.tr_bl, Rd.tr_non, Rd.tr_int, Rd.tr_str, Rd.tr_tup, Rd.tr_fl, Rd.tr_ref, Rd.eq_int, Rd.eq_str, Rd.eq_bl, Rd.sq_tup, Rd.sq_fl, Rd.sq_ref, Rd.cm_eq, Rd.cm_ne, Rd.cm_in, Rd.cm_ni, Rd.is_non, Rd.isn_non, Rd.is_bl, Rd.isn_bl, Rd.is_int, Rd.isn_int, Rd.is_str, Rd.isn_str, Rd.is_tup, Rd.isn_tup, Rd.is_fl, Rd.isn_fl, Rd.is_ref, Rd.isn_ref, Rd.cm_lt, Rd.cm_le, Rd.cm_gt, Rd.cm_ge, Rd.ix_tup, Rd.ix_fl, Rd.ix_str, Rd.ix_ref, Rd.sl_tup, Rd.sl_str, Rd.sl_fl, Rd.sl_ref, Rd.ln_str, Rd.ln_tup, Rd.ln_fl, Rd.ln_ref, Rd.nt_int, Rd.nt_str, Rd.st_int, Rd.ab_int, Rd.od_str, Rd.mx_int, Rd.mn_int, Rd.dm_int, Rd.tp_seq, Rd.ls_seq, Rd.rp_any, Rd.bn_ii, Rd.bn_ss, Rd.bn_tt, Rd.bn_rr, Rd.bn_sub, Rd.bn_mul, Rd.bn_fdv, Rd.bn_mod, Rd.bn_pow, Rd.mt_app, Rd.mt_joi, Rd.mt_spl, Rd.mt_par, Rd.mt_rpa, Rd.my_split, Rd.my_partition, Rd.my_rpartition, Rd.my_count, Rd.my_find, Rd.my_rfind, Rd.my_join, Rd.my_app, Rd.ty_non_int, Rd.ty_non_str, Rd.ty_non_bool, Rd.ty_non_tuple, Rd.ty_non_list, Rd.ty_bl_int, Rd.ty_bl_str, Rd.ty_bl_bool, Rd.ty_bl_tuple, Rd.ty_bl_list, Rd.ty_int_int, Rd.ty_int_str, Rd.ty_int_bool, Rd.ty_int_tuple, Rd.ty_int_list, Rd.ty_str_int, Rd.ty_str_str, Rd.ty_str_bool, Rd.ty_str_tuple, Rd.ty_str_list, Rd.ty_tup_int, Rd.ty_tup_str, Rd.ty_tup_bool, Rd.ty_tup_tuple, Rd.ty_tup_list, Rd.ty_fl_int, Rd.ty_fl_str, Rd.ty_fl_bool, Rd.ty_fl_tuple, Rd.ty_fl_list, Rd.fm_str, Rd.fm_int, Rd.it_t, Rd.it_f, Rd.it_s, Rd.it_r, sl0, sl1, sl2, sl3, sl4, sl5, sl6, true_and, at0, at1, at2, in2, in3, ofS_inj, e1, e2, blank_len]
  refine ⟨rfl, sz _ (by omega), headT i r, rfl, by omega, fun c hc => by have := h1 c hc; omega, ?_⟩
  rw [en]
  simp only [rB, rS, rE, rT, rO, rC, rX, rEs, rOX, rL, rWk, rG, rGs, rF, byT, lenT, endK, oflD, wipeD, List.getElem?_cons_zero, List.getElem?_cons_succ, List.set_cons_zero, List.set_cons_succ, Bool.not_true, Bool.not_false, Bool.false_eq_true, if_true, if_false, decide_true, decide_false, Bool.true_and, Bool.and_true, Bool.false_and, List.length_nil, List.length_cons, Nat.zero_add, Nat.reduceAdd, Rd.tr_bl, Rd.tr_non, Rd.tr_int, Rd.tr_str, Rd.tr_tup, Rd.tr_fl, Rd.tr_ref, Rd.eq_int, Rd.eq_str, Rd.eq_bl, Rd.sq_tup, Rd.sq_fl, Rd.sq_ref, Rd.cm_eq, Rd.cm_ne, Rd.cm_in, Rd.cm_ni, Rd.is_non, Rd.isn_non, Rd.is_bl, Rd.isn_bl, Rd.is_int, Rd.isn_int, Rd.is_str, Rd.isn_str, Rd.is_tup, Rd.isn_tup, Rd.is_fl, Rd.isn_fl, Rd.is_ref, Rd.isn_ref, Rd.cm_lt, Rd.cm_le, Rd.cm_gt, Rd.cm_ge, Rd.ix_tup, Rd.ix_fl, Rd.ix_str, Rd.ix_ref, Rd.sl_tup, Rd.sl_str, Rd.sl_fl, Rd.sl_ref, Rd.ln_str, Rd.ln_tup, Rd.ln_fl, Rd.ln_ref, Rd.nt_int, Rd.nt_str, Rd.st_int, Rd.ab_int, Rd.od_str, Rd.mx_int, Rd.mn_int, Rd.dm_int, Rd.tp_seq, Rd.ls_seq, Rd.rp_any, Rd.bn_ii, Rd.bn_ss, Rd.bn_tt, Rd.bn_rr, Rd.bn_sub, Rd.bn_mul, Rd.bn_fdv, Rd.bn_mod, Rd.bn_pow, Rd.mt_app, Rd.mt_joi, Rd.mt_spl, Rd.mt_par, Rd.mt_rpa, Rd.my_split, Rd.my_partition, Rd.my_rpartition, Rd.my_count, Rd.my_find, Rd.my_rfind, Rd.my_join, Rd.my_app, Rd.ty_non_int, Rd.ty_non_str, Rd.ty_non_bool, Rd.ty_non_tuple, Rd.ty_non_list, Rd.ty_bl_int, Rd.ty_bl_str, Rd.ty_bl_bool, Rd.ty_bl_tuple, Rd.ty_bl_list, Rd.ty_int_int, Rd.ty_int_str, Rd.ty_int_bool, Rd.ty_int_tuple, Rd.ty_int_list, Rd.ty_str_int, Rd.ty_str_str, Rd.ty_str_bool, Rd.ty_str_tuple, Rd.ty_str_list, Rd.ty_tup_int, Rd.ty_tup_str, Rd.ty_tup_bool, Rd.ty_tup_tuple, Rd.ty_tup_list, Rd.ty_fl_int, Rd.ty_fl_str, Rd.ty_fl_bool, Rd.ty_fl_tuple, Rd.ty_fl_list, Rd.fm_str, Rd.fm_int, Rd.it_t, Rd.it_f, Rd.it_s, Rd.it_r, e3, e4, blank_len, decide_true]
  refine ⟨log_small (by omega), rfl, sz _ (by omega), log_small (by omega), ?_⟩
  exact ⟨r, rfl, ok, drop_here q⟩
end Jn
namespace Jn
open PySem PySem.Spec PyProof.Rows L2 Mx TL
def sealeds : Nat → List JR → List Str
  | _, [] => []
  | i, r :: rs => sealedT i r :: sealeds (i + 1) rs
theorem joinL_nil (a : List Nat) : ∀ l : List (List Nat), joinL [] (a :: l) = a ++ joinL [] l
  | [] => by simp [joinL]
  | b :: l => by simp [joinL]
theorem joinL_cons (S a : List Nat) {l : List (List Nat)} (h : l ≠ []) : joinL S (a :: l) = a ++ (S ++ joinL S l) := by
  cases l with
  | nil => exact absurd rfl h
  | cons b l => rfl
theorem cut_up (t : List Nat) : ∀ (rs : List JR) (k : Nat), joinL [] ((jlines k rs).map tl) ++ t = joinL [10] ((sealeds k rs).map tl ++ [t])
  | [], _ => rfl
  | r :: rs, k => by
    have e : tl (jline k r) = tl (sealedT k r) ++ [10] := by
      unfold jline
      rw [tl_append, tl_feed]
    show joinL [] (tl (jline k r) :: (jlines (k + 1) rs).map tl) ++ t = joinL [10] (tl (sealedT k r) :: ((sealeds (k + 1) rs).map tl ++ [t]))
    rw [joinL_nil, joinL_cons _ _ (by simp), ← cut_up t rs (k + 1), e]
    simp
theorem tl_none : tl (Str.ofString "") = [] := by decide +kernel
theorem none_len : (Str.ofString "").length = 0 := by decide +kernel
theorem journal_parts (rs : List JR) (torn : Str) : journalT rs ++ torn = Txt.join (Str.ofString "\n") (sealeds 0 rs ++ [torn]) := by
  refine ext_tl ?_
  unfold journalT
  rw [tl_append, tl_joinT, tl_joinT, tl_none, tl_feed, List.map_append]
  exact cut_up (tl torn) rs 0
theorem sealeds_ok : ∀ {rs : List JR} {k : Nat}, k + rs.length ≤ 1000 → (∀ r ∈ rs, okRow r) → (∀ w ∈ sealeds k rs, 10 ∉ tl w) ∧ (sealeds k rs).length = rs.length
  | [], _, _, _ => ⟨fun w hw => (by cases hw), rfl⟩
  | r :: rs, k, h, ok => by
    rw [List.length_cons] at h
    obtain ⟨a, b⟩ := sealeds_ok (rs := rs) (k := k + 1) (by omega) fun x hx => ok x (List.mem_cons_of_mem _ hx)
    refine ⟨fun w hw => ?_, by show (sealeds (k + 1) rs).length + 1 = rs.length + 1; rw [b]⟩
    rcases List.mem_cons.mp hw with rfl | hw
    · intro z
      have := (sealed_ok (by omega) (ok r List.mem_cons_self)).1 10 z
      omega
    · exact a w hw
theorem sealeds_get : ∀ {rs : List JR} {k i : Nat} {r : JR}, rs[i]? = some r → (sealeds k rs)[i]? = some (sealedT (k + i) r)
  | [], _, _, _, h => by simp at h
  | a :: rs, k, 0, r, h => by
    simp at h
    subst h
    rfl
  | a :: rs, k, i + 1, r, h => by
    have := sealeds_get (rs := rs) (k := k + 1) (i := i) (r := r) (by simpa using h)
    show (sealeds (k + 1) rs)[i]? = _
    rw [this]
    congr 2
    omega
theorem jlines_len : ∀ {rs : List JR} {k : Nat}, k + rs.length ≤ 1000 → (∀ r ∈ rs, okRow r) → (∀ w ∈ jlines k rs, w.length ≤ 557) ∧ (jlines k rs).length = rs.length
  | [], _, _, _ => ⟨fun w hw => (by cases hw), rfl⟩
  | r :: rs, k, h, ok => by
    rw [List.length_cons] at h
    obtain ⟨a, b⟩ := jlines_len (rs := rs) (k := k + 1) (by omega) fun x hx => ok x (List.mem_cons_of_mem _ hx)
    refine ⟨fun w hw => ?_, by show (jlines (k + 1) rs).length + 1 = rs.length + 1; rw [b]⟩
    rcases List.mem_cons.mp hw with rfl | hw
    · have := (sealed_ok (i := k) (by omega) (ok r List.mem_cons_self)).2
      unfold jline
      rw [len_app, feed_len]
      omega
    · exact a w hw
theorem journal_len {rs : List JR} (h : rs.length ≤ 100) (ok : ∀ r ∈ rs, okRow r) : (journalT rs).length ≤ 55700 := by
  obtain ⟨a, b⟩ := jlines_len (rs := rs) (k := 0) (by omega) ok
  rw [len_tl]
  unfold journalT
  rw [tl_joinT, tl_none]
  have c := len_joinL (S := []) (l := (jlines 0 rs).map tl)
  have d := sum_le a
  rw [List.map_map] at c
  have e : (List.map (List.length ∘ tl) (jlines 0 rs)) = (jlines 0 rs).map (·.length) := List.map_congr_left fun w _ => (len_tl w).symm
  rw [e] at c
  simp only [List.length_nil, Nat.mul_zero, Nat.add_zero] at c
  rw [b] at d
  have : rs.length * 557 ≤ 100 * 557 := Nat.mul_le_mul_right _ h
  omega
theorem pl_print_journal (ds : List D) (M : MH) (Q : KE) (h : sp_print_journal ds M Q fun _ _ => False) : rB E0 c_print_journal (endK Q) (startD n_print_journal.length ds) M := by
  obtain ⟨rs, rfl, ok, hl, q⟩ := h
  change rB E0 c_print_journal (endK Q) [some (.tup (rs.map rowD))] M
  simp only [c_print_journal, rB, rS, rE, rT, rO, rC, rX, rEs, rOX, rL, rWk, rG, rGs, rF, byT, lenT, endK, oflD, wipeD, List.getElem?_cons_zero, List.getElem?_cons_succ, List.set_cons_zero, List.set_cons_succ, Bool.not_true, Bool.not_false, Bool.false_eq_true, if_true, if_false, decide_true, decide_false, Bool.true_and, Bool.and_true, Bool.false_and, List.length_nil, List.length_cons, Nat.zero_add, Nat.reduceAdd, Rd.tr_bl, Rd.tr_non, Rd.tr_int, Rd.tr_str, Rd.tr_tup, Rd.tr_fl, Rd.tr_ref, Rd.eq_int, Rd.eq_str, Rd.eq_bl, Rd.sq_tup, Rd.sq_fl, Rd.sq_ref, Rd.cm_eq, Rd.cm_ne, Rd.cm_in, Rd.cm_ni, Rd.is_non, Rd.isn_non, Rd.is_bl, Rd.isn_bl, Rd.is_int, Rd.isn_int, Rd.is_str, Rd.isn_str, Rd.is_tup, Rd.isn_tup, Rd.is_fl, Rd.isn_fl, Rd.is_ref, Rd.isn_ref, Rd.cm_lt, Rd.cm_le, Rd.cm_gt, Rd.cm_ge, Rd.ix_tup, Rd.ix_fl, Rd.ix_str, Rd.ix_ref, Rd.sl_tup, Rd.sl_str, Rd.sl_fl, Rd.sl_ref, Rd.ln_str, Rd.ln_tup, Rd.ln_fl, Rd.ln_ref, Rd.nt_int, Rd.nt_str, Rd.st_int, Rd.ab_int, Rd.od_str, Rd.mx_int, Rd.mn_int, Rd.dm_int, Rd.tp_seq, Rd.ls_seq, Rd.rp_any, Rd.bn_ii, Rd.bn_ss, Rd.bn_tt, Rd.bn_rr, Rd.bn_sub, Rd.bn_mul, Rd.bn_fdv, Rd.bn_mod, Rd.bn_pow, Rd.mt_app, Rd.mt_joi, Rd.mt_spl, Rd.mt_par, Rd.mt_rpa, Rd.my_split, Rd.my_partition, Rd.my_rpartition, Rd.my_count, Rd.my_find, Rd.my_rfind, Rd.my_join, Rd.my_app, Rd.ty_non_int, Rd.ty_non_str, Rd.ty_non_bool, Rd.ty_non_tuple, Rd.ty_non_list, Rd.ty_bl_int, Rd.ty_bl_str, Rd.ty_bl_bool, Rd.ty_bl_tuple, Rd.ty_bl_list, Rd.ty_int_int, Rd.ty_int_str, Rd.ty_int_bool, Rd.ty_int_tuple, Rd.ty_int_list, Rd.ty_str_int, Rd.ty_str_str, Rd.ty_str_bool, Rd.ty_str_tuple, Rd.ty_str_list, Rd.ty_tup_int, Rd.ty_tup_str, Rd.ty_tup_bool, Rd.ty_tup_tuple, Rd.ty_tup_list, Rd.ty_fl_int, Rd.ty_fl_str, Rd.ty_fl_bool, Rd.ty_fl_tuple, Rd.ty_fl_list, Rd.fm_str, Rd.fm_int, Rd.it_t, Rd.it_f, Rd.it_s, Rd.it_r]
  refine ⟨rs, rfl, ok, ?_⟩
  refine ⟨trivial, rs, rfl, ok, hl, fun r hr => ?_⟩
  obtain ⟨a, b⟩ := jlines_len (rs := rs) (k := 0) (by omega) ok
  refine ⟨jlines 0 rs, ?_, ?_, drop_by (.new hr) q⟩
  · simp only [Rd.sq_ref, MH.get_same, strsM]
  · exact join_fits a (by omega : _ ≤ 100) (by rw [none_len]; decide)
theorem pl_journal_of (ds : List D) (M : MH) (Q : KE) (h : sp_journal_of ds M Q fun _ _ => False) : rB E0 c_journal_of (endK Q) (startD n_journal_of.length ds) M := by
  obtain ⟨rs, x, y, z, rfl, ok, hl, q⟩ := h
  change rB E0 c_journal_of (endK Q) [some (.tup [x, y, .tup (rs.map rowD), z])] M
  simp only [c_journal_of, rB, rS, rE, rT, rO, rC, rX, rEs, rOX, rL, rWk, rG, rGs, rF, byT, lenT, endK, oflD, wipeD, List.getElem?_cons_zero, List.getElem?_cons_succ, List.set_cons_zero, List.set_cons_succ, Bool.not_true, Bool.not_false, Bool.false_eq_true, if_true, if_false, decide_true, decide_false, Bool.true_and, Bool.and_true, Bool.false_and, List.length_nil, List.length_cons, Nat.zero_add, Nat.reduceAdd, Rd.tr_bl, Rd.tr_non, Rd.tr_int, Rd.tr_str, Rd.tr_tup, Rd.tr_fl, Rd.tr_ref, Rd.eq_int, Rd.eq_str, Rd.eq_bl, Rd.sq_tup, Rd.sq_fl, Rd.sq_ref, Rd.cm_eq, Rd.cm_ne, Rd.cm_in, Rd.cm_ni, Rd.is_non, Rd.isn_non, Rd.is_bl, Rd.isn_bl, Rd.is_int, Rd.isn_int, Rd.is_str, Rd.isn_str, Rd.is_tup, Rd.isn_tup, Rd.is_fl, Rd.isn_fl, Rd.is_ref, Rd.isn_ref, Rd.cm_lt, Rd.cm_le, Rd.cm_gt, Rd.cm_ge, Rd.ix_tup, Rd.ix_fl, Rd.ix_str, Rd.ix_ref, Rd.sl_tup, Rd.sl_str, Rd.sl_fl, Rd.sl_ref, Rd.ln_str, Rd.ln_tup, Rd.ln_fl, Rd.ln_ref, Rd.nt_int, Rd.nt_str, Rd.st_int, Rd.ab_int, Rd.od_str, Rd.mx_int, Rd.mn_int, Rd.dm_int, Rd.tp_seq, Rd.ls_seq, Rd.rp_any, Rd.bn_ii, Rd.bn_ss, Rd.bn_tt, Rd.bn_rr, Rd.bn_sub, Rd.bn_mul, Rd.bn_fdv, Rd.bn_mod, Rd.bn_pow, Rd.mt_app, Rd.mt_joi, Rd.mt_spl, Rd.mt_par, Rd.mt_rpa, Rd.my_split, Rd.my_partition, Rd.my_rpartition, Rd.my_count, Rd.my_find, Rd.my_rfind, Rd.my_join, Rd.my_app, Rd.ty_non_int, Rd.ty_non_str, Rd.ty_non_bool, Rd.ty_non_tuple, Rd.ty_non_list, Rd.ty_bl_int, Rd.ty_bl_str, Rd.ty_bl_bool, Rd.ty_bl_tuple, Rd.ty_bl_list, Rd.ty_int_int, Rd.ty_int_str, Rd.ty_int_bool, Rd.ty_int_tuple, Rd.ty_int_list, Rd.ty_str_int, Rd.ty_str_str, Rd.ty_str_bool, Rd.ty_str_tuple, Rd.ty_str_list, Rd.ty_tup_int, Rd.ty_tup_str, Rd.ty_tup_bool, Rd.ty_tup_tuple, Rd.ty_tup_list, Rd.ty_fl_int, Rd.ty_fl_str, Rd.ty_fl_bool, Rd.ty_fl_tuple, Rd.ty_fl_list, Rd.fm_str, Rd.fm_int, Rd.it_t, Rd.it_f, Rd.it_s, Rd.it_r, sl0, sl1, sl2, sl3, sl4, sl5, sl6, true_and, at0, at1, at2, in2, in3, ofS_inj, Option.some.injEq, exists_eq_left']
  refine ⟨rs, rfl, ok, hl, fun r hr => ?_⟩
  obtain ⟨a, b⟩ := jlines_len (rs := rs) (k := 0) (by omega) ok
  refine ⟨jlines 0 rs, ?_, ?_, drop_by (.new hr) q⟩
  · simp only [Rd.sq_ref, MH.get_same, strsM]
  · exact join_fits a (by omega : _ ≤ 100) (by rw [none_len]; decide)
theorem range_drop {n i : Nat} {d : D} {ds : List D} (h : d :: ds = (rangeD 0 n).drop i) : i < n ∧ d = .int i ∧ ds = (rangeD 0 n).drop (i + 1) := by
  have e : (rangeD 0 n)[i]? = some d := by
    have := congrArg (·[0]?) h
    simp only [List.getElem?_cons_zero, List.getElem?_drop, Nat.add_zero] at this
    exact this.symm
  obtain ⟨hi, hd⟩ := range_get e
  refine ⟨hi, by rw [hd]; simp, ?_⟩
  have := congrArg List.tail h
  rw [List.tail_drop] at this
  exact this
theorem pl_read_journal (ds : List D) (M : MH) (Q : KE) (h : sp_read_journal ds M Q fun _ _ => False) : rB E0 c_read_journal (endK Q) (startD n_read_journal.length ds) M := by
  obtain ⟨rs, torn, rfl, ok, hl, ht, htl, q⟩ := h
  change rB E0 c_read_journal (endK Q) [some (.str (journalT rs ++ torn)), none, none, none, none] M
  have jl := journal_len hl ok
  obtain ⟨sk, sl⟩ := sealeds_ok (rs := rs) (k := 0) (by omega) ok
  have hsp : Txt.split (journalT rs ++ torn) (Str.ofString "\n") = sealeds 0 rs ++ [torn] := by
    rw [journal_parts]
    refine split_join tl_feed (by decide +kernel) (by simp) fun w hw => ?_
    rcases List.mem_append.mp hw with hw | hw
    · exact sk w hw
    · obtain rfl := List.mem_singleton.mp hw
      exact ht
  simp only [c_read_journal, rB, rS, rE, rT, rO, rC, rX, rEs, rOX, rL, rWk, rG, rGs, rF, byT, lenT, endK, oflD, wipeD, List.getElem?_cons_zero, List.getElem?_cons_succ, List.set_cons_zero, List.set_cons_succ, Bool.not_true, Bool.not_false, Bool.false_eq_true, if_true, if_false, decide_true, decide_false, Bool.true_and, Bool.and_true, Bool.false_and, List.length_nil, List.length_cons, Nat.zero_add, Nat.reduceAdd, Rd.tr_bl, Rd.tr_non, Rd.tr_int, Rd.tr_str, Rd.tr_tup, Rd.tr_fl, Rd.tr_ref, Rd.eq_int, Rd.eq_str, Rd.eq_bl, Rd.sq_tup, Rd.sq_fl, Rd.sq_ref, Rd.cm_eq, Rd.cm_ne, Rd.cm_in, Rd.cm_ni, Rd.is_non, Rd.isn_non, Rd.is_bl, Rd.isn_bl, Rd.is_int, Rd.isn_int, Rd.is_str, Rd.isn_str, Rd.is_tup, Rd.isn_tup, Rd.is_fl, Rd.isn_fl, Rd.is_ref, Rd.isn_ref, Rd.cm_lt, Rd.cm_le, Rd.cm_gt, Rd.cm_ge, Rd.ix_tup, Rd.ix_fl, Rd.ix_str, Rd.ix_ref, Rd.sl_tup, Rd.sl_str, Rd.sl_fl, Rd.sl_ref, Rd.ln_str, Rd.ln_tup, Rd.ln_fl, Rd.ln_ref, Rd.nt_int, Rd.nt_str, Rd.st_int, Rd.ab_int, Rd.od_str, Rd.mx_int, Rd.mn_int, Rd.dm_int, Rd.tp_seq, Rd.ls_seq, Rd.rp_any, Rd.bn_ii, Rd.bn_ss, Rd.bn_tt, Rd.bn_rr, Rd.bn_sub, Rd.bn_mul, Rd.bn_fdv, Rd.bn_mod, Rd.bn_pow, Rd.mt_app, Rd.mt_joi, Rd.mt_spl, Rd.mt_par, Rd.mt_rpa, Rd.my_split, Rd.my_partition, Rd.my_rpartition, Rd.my_count, Rd.my_find, Rd.my_rfind, Rd.my_join, Rd.my_app, Rd.ty_non_int, Rd.ty_non_str, Rd.ty_non_bool, Rd.ty_non_tuple, Rd.ty_non_list, Rd.ty_bl_int, Rd.ty_bl_str, Rd.ty_bl_bool, Rd.ty_bl_tuple, Rd.ty_bl_list, Rd.ty_int_int, Rd.ty_int_str, Rd.ty_int_bool, Rd.ty_int_tuple, Rd.ty_int_list, Rd.ty_str_int, Rd.ty_str_str, Rd.ty_str_bool, Rd.ty_str_tuple, Rd.ty_str_list, Rd.ty_tup_int, Rd.ty_tup_str, Rd.ty_tup_bool, Rd.ty_tup_tuple, Rd.ty_tup_list, Rd.ty_fl_int, Rd.ty_fl_str, Rd.ty_fl_bool, Rd.ty_fl_tuple, Rd.ty_fl_list, Rd.fm_str, Rd.fm_int, Rd.it_t, Rd.it_f, Rd.it_s, Rd.it_r, sl0, sl1, sl2, sl3, sl4, sl5, sl6, true_and, at0, at1, at2, in2, in3, ofS_inj, feed_len, len_app, hsp]
  refine ⟨rfl, sz _ (by omega), fun p1 hp1 p2 hp2 _ => ?_⟩
  have hlen : ((sealeds 0 rs ++ [torn]).map D.str).length = rs.length + 1 := by simp [sl]
  have g0 : MH.get ((p1, MO.lst ((sealeds 0 rs ++ [torn]).map D.str)) :: M) p1 = some (.lst ((sealeds 0 rs ++ [torn]).map D.str)) := MH.get_same
  have g1 : MH.get ((p2, MO.lst []) :: (p1, MO.lst ((sealeds 0 rs ++ [torn]).map D.str)) :: M) p1 = some (.lst ((sealeds 0 rs ++ [torn]).map D.str)) := get_old g0 hp2
  have hne : p1 ≠ p2 := fun e => (get_none hp2).2 e.symm
  simp only [g1]
  rw [hlen]
  refine ⟨⟨by omega, by omega⟩, ?_⟩
  have e1 : (((rs.length + 1 : Nat) : Int) - 1).toNat = rs.length := by omega
  rw [e1]
  refine walk_by (fun ds σ M' => ∃ i, ds = (rangeD 0 rs.length).drop i ∧ i ≤ rs.length ∧ M' = (p2, MO.lst ((rs.take i).map rowD)) :: (p1, MO.lst ((sealeds 0 rs ++ [torn]).map D.str)) :: M ∧ ∃ x y z, σ = [z, some (.ref p1), some (.ref p2), x, y])
    (fun σ M' ⟨i, e, hi, eM, x, y, z, eσ⟩ => ?_) (fun d ds σ M' ⟨i, e, hi, eM, x, y, z, eσ⟩ => ?_) _ _ _ ⟨0, rfl, Nat.zero_le _, rfl, none, none, _, rfl⟩
  · subst eM eσ
    have hi2 : rs.length ≤ i := by
      have := congrArg List.length e
      rw [List.length_drop] at this
      unfold rangeD at this
      simp at this
      omega
    refine ⟨trivial, ?_⟩
    simp only [rB, rS, rE, rT, rO, rC, rX, rEs, rOX, rL, rWk, rG, rGs, rF, byT, lenT, endK, oflD, wipeD, List.getElem?_cons_zero, List.getElem?_cons_succ, List.set_cons_zero, List.set_cons_succ, Bool.not_true, Bool.not_false, Bool.false_eq_true, if_true, if_false, decide_true, decide_false, Bool.true_and, Bool.and_true, Bool.false_and, List.length_nil, List.length_cons, Nat.zero_add, Nat.reduceAdd, Rd.tr_bl, Rd.tr_non, Rd.tr_int, Rd.tr_str, Rd.tr_tup, Rd.tr_fl, Rd.tr_ref, Rd.eq_int, Rd.eq_str, Rd.eq_bl, Rd.sq_tup, Rd.sq_fl, Rd.sq_ref, Rd.cm_eq, Rd.cm_ne, Rd.cm_in, Rd.cm_ni, Rd.is_non, Rd.isn_non, Rd.is_bl, Rd.isn_bl, Rd.is_int, Rd.isn_int, Rd.is_str, Rd.isn_str, Rd.is_tup, Rd.isn_tup, Rd.is_fl, Rd.isn_fl, Rd.is_ref, Rd.isn_ref, Rd.cm_lt, Rd.cm_le, Rd.cm_gt, Rd.cm_ge, Rd.ix_tup, Rd.ix_fl, Rd.ix_str, Rd.ix_ref, Rd.sl_tup, Rd.sl_str, Rd.sl_fl, Rd.sl_ref, Rd.ln_str, Rd.ln_tup, Rd.ln_fl, Rd.ln_ref, Rd.nt_int, Rd.nt_str, Rd.st_int, Rd.ab_int, Rd.od_str, Rd.mx_int, Rd.mn_int, Rd.dm_int, Rd.tp_seq, Rd.ls_seq, Rd.rp_any, Rd.bn_ii, Rd.bn_ss, Rd.bn_tt, Rd.bn_rr, Rd.bn_sub, Rd.bn_mul, Rd.bn_fdv, Rd.bn_mod, Rd.bn_pow, Rd.mt_app, Rd.mt_joi, Rd.mt_spl, Rd.mt_par, Rd.mt_rpa, Rd.my_split, Rd.my_partition, Rd.my_rpartition, Rd.my_count, Rd.my_find, Rd.my_rfind, Rd.my_join, Rd.my_app, Rd.ty_non_int, Rd.ty_non_str, Rd.ty_non_bool, Rd.ty_non_tuple, Rd.ty_non_list, Rd.ty_bl_int, Rd.ty_bl_str, Rd.ty_bl_bool, Rd.ty_bl_tuple, Rd.ty_bl_list, Rd.ty_int_int, Rd.ty_int_str, Rd.ty_int_bool, Rd.ty_int_tuple, Rd.ty_int_list, Rd.ty_str_int, Rd.ty_str_str, Rd.ty_str_bool, Rd.ty_str_tuple, Rd.ty_str_list, Rd.ty_tup_int, Rd.ty_tup_str, Rd.ty_tup_bool, Rd.ty_tup_tuple, Rd.ty_tup_list, Rd.ty_fl_int, Rd.ty_fl_str, Rd.ty_fl_bool, Rd.ty_fl_tuple, Rd.ty_fl_list, Rd.fm_str, Rd.fm_int, Rd.it_t, Rd.it_f, Rd.it_s, Rd.it_r, MH.get_same]
    rw [List.take_of_length_le hi2]
    exact drop_by ((SubM.new hp1).trans (.new (get_none hp2 |> fun z => by rw [MH.get_ne z.2]; exact z.1))) q
  · subst eM eσ
    obtain ⟨hlt, rfl, rfl⟩ := range_drop e
    refine ⟨trivial, fun next hn => ?_⟩
    have gr : rs[i]? = some rs[i] := List.getElem?_eq_getElem hlt
    have g2 : MH.get ((p2, MO.lst ((rs.take i).map rowD)) :: (p1, MO.lst ((sealeds 0 rs ++ [torn]).map D.str)) :: M) p1 = some (.lst ((sealeds 0 rs ++ [torn]).map D.str)) := by rw [MH.get_ne hne]; exact g0
    have g3 : ((sealeds 0 rs ++ [torn]).map D.str)[i]? = some (.str (sealedT i rs[i])) := by
      rw [List.getElem?_map, List.getElem?_append_left (by rw [sl]; exact hlt), sealeds_get gr, Nat.zero_add]
      rfl
    simp only [rB, rS, rE, rT, rO, rC, rX, rEs, rOX, rL, rWk, rG, rGs, rF, byT, lenT, endK, oflD, wipeD, List.getElem?_cons_zero, List.getElem?_cons_succ, List.set_cons_zero, List.set_cons_succ, Bool.not_true, Bool.not_false, Bool.false_eq_true, if_true, if_false, decide_true, decide_false, Bool.true_and, Bool.and_true, Bool.false_and, List.length_nil, List.length_cons, Nat.zero_add, Nat.reduceAdd, Rd.tr_bl, Rd.tr_non, Rd.tr_int, Rd.tr_str, Rd.tr_tup, Rd.tr_fl, Rd.tr_ref, Rd.eq_int, Rd.eq_str, Rd.eq_bl, Rd.sq_tup, Rd.sq_fl, Rd.sq_ref, Rd.cm_eq, Rd.cm_ne, Rd.cm_in, Rd.cm_ni, Rd.is_non, Rd.isn_non, Rd.is_bl, Rd.isn_bl, Rd.is_int, Rd.isn_int, Rd.is_str, Rd.isn_str, Rd.is_tup, Rd.isn_tup, Rd.is_fl, Rd.isn_fl, Rd.is_ref, Rd.isn_ref, Rd.cm_lt, Rd.cm_le, Rd.cm_gt, Rd.cm_ge, Rd.ix_tup, Rd.ix_fl, Rd.ix_str, Rd.ix_ref, Rd.sl_tup, Rd.sl_str, Rd.sl_fl, Rd.sl_ref, Rd.ln_str, Rd.ln_tup, Rd.ln_fl, Rd.ln_ref, Rd.nt_int, Rd.nt_str, Rd.st_int, Rd.ab_int, Rd.od_str, Rd.mx_int, Rd.mn_int, Rd.dm_int, Rd.tp_seq, Rd.ls_seq, Rd.rp_any, Rd.bn_ii, Rd.bn_ss, Rd.bn_tt, Rd.bn_rr, Rd.bn_sub, Rd.bn_mul, Rd.bn_fdv, Rd.bn_mod, Rd.bn_pow, Rd.mt_app, Rd.mt_joi, Rd.mt_spl, Rd.mt_par, Rd.mt_rpa, Rd.my_split, Rd.my_partition, Rd.my_rpartition, Rd.my_count, Rd.my_find, Rd.my_rfind, Rd.my_join, Rd.my_app, Rd.ty_non_int, Rd.ty_non_str, Rd.ty_non_bool, Rd.ty_non_tuple, Rd.ty_non_list, Rd.ty_bl_int, Rd.ty_bl_str, Rd.ty_bl_bool, Rd.ty_bl_tuple, Rd.ty_bl_list, Rd.ty_int_int, Rd.ty_int_str, Rd.ty_int_bool, Rd.ty_int_tuple, Rd.ty_int_list, Rd.ty_str_int, Rd.ty_str_str, Rd.ty_str_bool, Rd.ty_str_tuple, Rd.ty_str_list, Rd.ty_tup_int, Rd.ty_tup_str, Rd.ty_tup_bool, Rd.ty_tup_tuple, Rd.ty_tup_list, Rd.ty_fl_int, Rd.ty_fl_str, Rd.ty_fl_bool, Rd.ty_fl_tuple, Rd.ty_fl_list, Rd.fm_str, Rd.fm_int, Rd.it_t, Rd.it_f, Rd.it_s, Rd.it_r, g2, atI_nat, g3, Option.some.injEq, exists_eq_left']
    refine ⟨i, rs[i], rfl, by omega, ok _ (List.getElem_mem _), ?_⟩
    have er : rowD rs[i] = .tup [.int rs[i].m, adD rs[i].a, evD rs[i].e] := rfl
    rw [er]
    simp only [rB, rS, rE, rT, rO, rC, rX, rEs, rOX, rL, rWk, rG, rGs, rF, byT, lenT, endK, oflD, wipeD, List.getElem?_cons_zero, List.getElem?_cons_succ, List.set_cons_zero, List.set_cons_succ, Bool.not_true, Bool.not_false, Bool.false_eq_true, if_true, if_false, decide_true, decide_false, Bool.true_and, Bool.and_true, Bool.false_and, List.length_nil, List.length_cons, Nat.zero_add, Nat.reduceAdd, Rd.tr_bl, Rd.tr_non, Rd.tr_int, Rd.tr_str, Rd.tr_tup, Rd.tr_fl, Rd.tr_ref, Rd.eq_int, Rd.eq_str, Rd.eq_bl, Rd.sq_tup, Rd.sq_fl, Rd.sq_ref, Rd.cm_eq, Rd.cm_ne, Rd.cm_in, Rd.cm_ni, Rd.is_non, Rd.isn_non, Rd.is_bl, Rd.isn_bl, Rd.is_int, Rd.isn_int, Rd.is_str, Rd.isn_str, Rd.is_tup, Rd.isn_tup, Rd.is_fl, Rd.isn_fl, Rd.is_ref, Rd.isn_ref, Rd.cm_lt, Rd.cm_le, Rd.cm_gt, Rd.cm_ge, Rd.ix_tup, Rd.ix_fl, Rd.ix_str, Rd.ix_ref, Rd.sl_tup, Rd.sl_str, Rd.sl_fl, Rd.sl_ref, Rd.ln_str, Rd.ln_tup, Rd.ln_fl, Rd.ln_ref, Rd.nt_int, Rd.nt_str, Rd.st_int, Rd.ab_int, Rd.od_str, Rd.mx_int, Rd.mn_int, Rd.dm_int, Rd.tp_seq, Rd.ls_seq, Rd.rp_any, Rd.bn_ii, Rd.bn_ss, Rd.bn_tt, Rd.bn_rr, Rd.bn_sub, Rd.bn_mul, Rd.bn_fdv, Rd.bn_mod, Rd.bn_pow, Rd.mt_app, Rd.mt_joi, Rd.mt_spl, Rd.mt_par, Rd.mt_rpa, Rd.my_split, Rd.my_partition, Rd.my_rpartition, Rd.my_count, Rd.my_find, Rd.my_rfind, Rd.my_join, Rd.my_app, Rd.ty_non_int, Rd.ty_non_str, Rd.ty_non_bool, Rd.ty_non_tuple, Rd.ty_non_list, Rd.ty_bl_int, Rd.ty_bl_str, Rd.ty_bl_bool, Rd.ty_bl_tuple, Rd.ty_bl_list, Rd.ty_int_int, Rd.ty_int_str, Rd.ty_int_bool, Rd.ty_int_tuple, Rd.ty_int_list, Rd.ty_str_int, Rd.ty_str_str, Rd.ty_str_bool, Rd.ty_str_tuple, Rd.ty_str_list, Rd.ty_tup_int, Rd.ty_tup_str, Rd.ty_tup_bool, Rd.ty_tup_tuple, Rd.ty_tup_list, Rd.ty_fl_int, Rd.ty_fl_str, Rd.ty_fl_bool, Rd.ty_fl_tuple, Rd.ty_fl_list, Rd.fm_str, Rd.fm_int, Rd.it_t, Rd.it_f, Rd.it_s, Rd.it_r]
    refine ⟨⟨_, MH.get_same⟩, _, MH.get_same, ?_, ?_⟩
    · rw [List.length_map, List.length_take]
      exact Nat.lt_of_le_of_lt (show _ ≤ 100 by omega) (by decide)
    · rw [MH.put_same]
      refine hn _ _ ⟨i + 1, rfl, hlt, ?_, _, _, _, rfl⟩
      have e9 : (rs.take (i + 1)).map rowD = (rs.take i).map rowD ++ [rowD rs[i]] := by
        rw [List.take_succ, gr]
        simp only [Option.toList_some, List.map_append, List.map_cons, List.map_nil]
      rw [e9, er]
end Jn
namespace Jn
open PySem PySem.Spec PyProof.Rows L2 Mx TL
abbrev Wl := Int × Int × Int
def wl (w : Wl) : MO := .lst [.int w.1, .int w.2.1, .int w.2.2]
def Wok (k : Nat) (w : Wl) : Prop := 0 ≤ w.2.1 ∧ w.2.1 < 4294967296 ∧ 0 ≤ w.2.2 ∧ w.2.2 + k ≤ 1073741824
def Items (M : MH) (x : D) (xs : List D) : Prop := match x with
  | .str s => s.length ≤ sizeLine ∧ xs = s.cps.toList.map fun c => .str ⟨#[c]⟩
  | .tup ds => xs = ds
  | .fl ds => xs = ds
  | .ref q => M.get q = some (.lst xs)
  | _ => False
def sp__law_take : FSp := fun ds M Q _ => ∃ p n w k, ds = [.ref p, .int n] ∧ M.get p = some (wl w) ∧ 1 ≤ n ∧ n < 18446744073709551616 ∧ Wok (k + 1) w ∧ ∀ r w', 0 ≤ r → r < n → Wok k w' → Q (.int r) (M.put p (wl w'))
def sp__law_one : FSp := fun ds M Q _ => ∃ p x w k xs, ds = [.ref p, x] ∧ M.get p = some (wl w) ∧ Items M x xs ∧ xs ≠ [] ∧ xs.length ≤ 1000 ∧ (∀ q, x = .ref q → q ≠ p) ∧ Wok (k + 1) w ∧ ∀ y ∈ xs, ∀ w', Wok k w' → Q y (M.put p (wl w'))
def sp__law_name : FSp := fun ds M Q _ => ∃ p w k, ds = [.ref p] ∧ M.get p = some (wl w) ∧ Wok (k + 13) w ∧ ∀ s w', okName s → Wok k w' → Q (.str s) (M.put p (wl w'))
def sp__law_path : FSp := fun ds M Q _ => ∃ p w k, ds = [.ref p] ∧ M.get p = some (wl w) ∧ Wok (k + 41) w ∧ ∀ s w', okPath s → Wok k w' → Q (.str s) (M.put p (wl w'))
def okAds (l : List Ad) : Prop := l ≠ [] ∧ l.length ≤ 7 ∧ ∀ a ∈ l, okAd a
def sp__law_spots : FSp := fun ds M Q _ => ∃ p q w k, ∃ homes : List Str, ds = [.ref p, .ref q] ∧ M.get p = some (wl w) ∧ M.get q = some (.lst (homes.map .str)) ∧ q ≠ p ∧ homes ≠ [] ∧ homes.length ≤ 10 ∧ (∀ s ∈ homes, okName s) ∧ Wok (k + 300) w ∧
  ∀ r ads w', M.get r = none → okAds ads → Wok k w' → Q (.ref r) ((r, .lst (ads.map adD)) :: M.put p (wl w'))
def sp__law_answer : FSp := fun ds M Q _ => ∃ p q w k, ∃ ads : List Ad, ds = [.ref p, .ref q] ∧ M.get p = some (wl w) ∧ M.get q = some (.lst (ads.map adD)) ∧ q ≠ p ∧ okAds ads ∧ Wok (k + 10) w ∧ ∀ e w', okEv e → isAns e → Wok k w' → Q (evD e) (M.put p (wl w'))
def sp__law_line : FSp := sp_line_of
def sp__law_seal : FSp := sp_seal_in
def sp__law_sealed : FSp := sp_journal_line
def sp__law_loose_rows : FSp := fun ds M Q _ => ∃ p q w k, ∃ (n : Nat) (ads : List Ad), ds = [.ref p, .ref q, .int n] ∧ n ≤ 12 ∧ M.get p = some (wl w) ∧ M.get q = some (.lst (ads.map adD)) ∧ q ≠ p ∧ okAds ads ∧ Wok (k + 300) w ∧
  ∀ (rs : List JR) w', rs.length = n → (∀ r ∈ rs, okRow r) → Wok k w' → Q (.tup (rs.map rowD)) (M.put p (wl w'))
def sp__law_signs : FSp := fun ds M Q _ => ∃ p w k, ∃ n : Nat, ds = [.ref p, .int n] ∧ n ≤ 60 ∧ M.get p = some (wl w) ∧ Wok (k + 60) w ∧ ∀ s w', (∀ c ∈ tl s, 32 ≤ c ∧ c ≤ 126) → s.length ≤ 60 → Wok k w' → Q (.str s) (M.put p (wl w'))
def sp__law_right : FSp := fun ds M Q _ => ∃ p w, ds = [.ref p] ∧ M.get p = some (wl w) ∧ Wok 5000 w ∧ ∀ w', Q (.bl true) (M.put p (wl w'))
def sp__law_well : FSp := fun ds M Q _ => ∃ (ns : List Int) (t : Nat), ds = [.fl (ns.map .int), .int t] ∧ t ≤ 3 ∧ ns.length ≤ 63 ∧ ∀ r w, M.get r = none → Wok 5000 w → Q (.ref r) ((r, wl w) :: M)
def sp_law : FSp := fun ds M Q _ => ∃ ns : List Int, ds = [.fl (ns.map .int)] ∧ ns.length ≤ 63 ∧ Q (.bl true) M
def kw_seal_of_text : FSp := sp_seal_of
def kw_print_journal_log : FSp := sp_print_journal
def kw_read_journal_text : FSp := sp_read_journal
def n__law_well : List Str := ["_law_script", "_law_turn", "_law_seed", "_law_cell", "_law_own"]
def p__law_well : List Str := ["_law_script", "_law_turn"]
def c__law_well : CB := (.cons (.asg (.nm 2) (.bin .Add (.int (70001)) (.bin .Mult (.int (613)) (.var 1))))
  (.cons (.forS (.nm 3) (.val (.slc (.var 0) .no (.yes (.int (10))))) (.cons (.asg (.nm 2) (.bin .Mod (.blt .int (.cons (.bin .Add (.bin .Add (.bin .Mult (.var 2) (.int (30011))) (.bin .Mult (.bin .Mod (.blt .int (.cons (.var 3) .nil)) (.int (1000000007))) (.int (50021)))) (.int (11))) .nil)) (.int (2147483629))))
  .nil))
  (.cons (.asg (.nm 4) (.ife (.cmp .Lt (.var 1) (.blt .len (.cons (.var 0) .nil))) (.blt .abs (.cons (.blt .int (.cons (.idx (.var 0) (.var 1)) .nil)) .nil)) (.int (0))))
  (.cons (.ret (.new (.dis (.cons (.ife (.cmp .GtE (.var 4) (.bin .Pow (.int (10)) (.int (18)))) (.var 4) (.int (0))) (.cons (.bin .Mod (.blt .int (.cons (.bin .Add (.bin .Add (.bin .Mult (.var 2) (.int (69069))) (.bin .Mult (.bin .Mod (.blt .int (.cons (.var 4) .nil)) (.int (1000000007))) (.int (40009)))) (.var 1)) .nil)) (.int (2147483587))) (.cons (.int (0)) .nil))))))
  .nil))))
def n__law_take : List Str := ["_law_well_here", "_law_size", "_law_figure"]
def p__law_take : List Str := ["_law_well_here", "_law_size"]
def c__law_take : CB := (.cons (.ife (.cmp .Gt (.idx (.var 0) (.int (0))) (.int (0))) (.cons (.asg (.tp (.cons (.ix (.var 0) (.int (0))) (.cons (.nm 2) .nil))) (.blt .divmod (.cons (.idx (.var 0) (.int (0))) (.cons (.var 1) .nil))))
  (.cons (.ret (.var 2))
  .nil)) .nil)
  (.cons (.asg (.ix (.var 0) (.int (2))) (.bin .Add (.idx (.var 0) (.int (2))) (.int (1))))
  (.cons (.asg (.ix (.var 0) (.int (1))) (.bin .Mod (.blt .int (.cons (.bin .Add (.bin .Add (.bin .Mult (.idx (.var 0) (.int (1))) (.bin .Add (.int (16807)) (.bin .Mult (.int (2)) (.idx (.var 0) (.int (2)))))) (.bin .Mult (.int (7919)) (.idx (.var 0) (.int (2))))) (.int (3))) .nil)) (.int (2147483629))))
  (.cons (.ret (.bin .Mod (.blt .int (.cons (.bin .FloorDiv (.idx (.var 0) (.int (1))) (.int (127))) .nil)) (.var 1)))
  .nil))))
def n__law_one : List Str := ["_law_well_here", "_law_some"]
def p__law_one : List Str := ["_law_well_here", "_law_some"]
def c__law_one : CB := (.cons (.ret (.idx (.var 1) (.call "_law_take" sp__law_take (.cons (.var 0) (.cons (.blt .len (.cons (.var 1) .nil)) .nil)))))
  .nil)
def n__law_name : List Str := ["_law_well_here", "_law_size", "_law_turn"]
def p__law_name : List Str := ["_law_well_here"]
def c__law_name : CB := (.cons (.asg (.nm 1) (.call "_law_one" sp__law_one (.cons (.var 0) (.cons (.tup (.cons (.int (1)) (.cons (.int (2)) (.cons (.int (3)) (.cons (.int (4)) (.cons (.int (4)) (.cons (.int (12)) .nil))))))) .nil))))
  (.cons (.ret (.ofl (.join "") (.comp (.range1 (.var 1)) (.nm 2) [2] .no (.call "_law_one" sp__law_one (.cons (.var 0) (.cons (.str "abcdefghijklmnopqrstuvwxyz") .nil))))))
  .nil))
def n__law_path : List Str := ["_law_well_here", "_law_size", "_law_turn"]
def p__law_path : List Str := ["_law_well_here"]
def c__law_path : CB := (.cons (.ife (.cmp .Gt (.call "_law_take" sp__law_take (.cons (.var 0) (.cons (.int (3)) .nil))) (.int (0))) (.cons (.ret (.call "_law_one" sp__law_one (.cons (.var 0) (.cons (.tup (.cons (.str "/") (.cons (.str "/a") (.cons (.str "/b") (.cons (.str "/a/b") (.cons (.str "/no") (.cons (.str "/no/a") (.cons (.str "/x.txt") (.cons (.str "/a-b_0") .nil))))))))) .nil))))
  .nil) .nil)
  (.cons (.asg (.nm 1) (.call "_law_one" sp__law_one (.cons (.var 0) (.cons (.tup (.cons (.int (0)) (.cons (.int (1)) (.cons (.int (1)) (.cons (.int (2)) (.cons (.int (3)) (.cons (.int (5)) (.cons (.int (8)) (.cons (.int (39)) .nil))))))))) .nil))))
  (.cons (.ret (.bin .Add (.str "/") (.ofl (.join "") (.comp (.range1 (.var 1)) (.nm 2) [2] .no (.call "_law_one" sp__law_one (.cons (.var 0) (.cons (.str "-./0123456789_abcdefghijklmnopqrstuvwxyz") .nil)))))))
  .nil)))
def n__law_spots : List Str := ["_law_well_here", "_law_homes", "_law_found", "_law_turn", "_law_spot"]
def p__law_spots : List Str := ["_law_well_here", "_law_homes"]
def c__law_spots : CB := (.cons (.asg (.nm 2) (.new (.dis .nil)))
  (.cons (.forS (.nm 3) (.range1 (.bin .Add (.int (2)) (.call "_law_take" sp__law_take (.cons (.var 0) (.cons (.int (6)) .nil))))) (.cons (.asg (.nm 4) (.tup (.cons (.call "_law_one" sp__law_one (.cons (.var 0) (.cons (.var 1) .nil))) (.cons (.call "_law_path" sp__law_path (.cons (.var 0) .nil)) .nil))))
  (.cons (.ife (.cmp .NotIn (.var 4) (.var 2)) (.cons (.expr (.met (.var 2) .append (.cons (.var 4) .nil)))
  .nil) .nil)
  .nil)))
  (.cons (.ret (.var 2))
  .nil)))
def n__law_answer : List Str := ["_law_well_here", "_law_spots_here", "_law_pick", "_law_links", "_law_turn"]
def p__law_answer : List Str := ["_law_well_here", "_law_spots_here"]
def c__law_answer : CB := (.cons (.asg (.nm 2) (.call "_law_take" sp__law_take (.cons (.var 0) (.cons (.int (6)) .nil))))
  (.cons (.ife (.cmp .Lt (.var 2) (.int (3))) (.cons (.asg (.nm 3) (.new (.comp (.range1 (.call "_law_one" sp__law_one (.cons (.var 0) (.cons (.tup (.cons (.int (0)) (.cons (.int (1)) (.cons (.int (2)) (.cons (.int (3)) (.cons (.int (6)) .nil)))))) .nil)))) (.nm 4) [4] .no (.call "_law_one" sp__law_one (.cons (.var 0) (.cons (.var 1) .nil))))))
  (.cons (.ret (.tup (.cons (.str "page") (.cons (.call "_law_one" sp__law_one (.cons (.var 0) (.cons (.tup (.cons (.int (0)) (.cons (.int (7)) (.cons (.int (8)) (.cons (.int (999999)) (.cons (.call "_law_take" sp__law_take (.cons (.var 0) (.cons (.int (1000000)) .nil))) .nil)))))) .nil))) (.cons (.blt .tuple (.cons (.var 3) .nil)) .nil)))))
  .nil)) .nil)
  (.cons (.ife (.cmp .Eq (.var 2) (.int (5))) (.cons (.ret (.tup (.cons (.str "gone") .nil)))
  .nil) .nil)
  (.cons (.ret (.tup (.cons (.call "_law_one" sp__law_one (.cons (.var 0) (.cons (.tup (.cons (.str "moved") (.cons (.str "same") .nil))) .nil))) (.cons (.call "_law_one" sp__law_one (.cons (.var 0) (.cons (.var 1) .nil))) .nil))))
  .nil))))
def n__law_line : List Str := ["_law_line_here", "_law_words", "_law_when", "_law_spot", "_law_fact", "_law_goal"]
def p__law_line : List Str := ["_law_line_here"]
def c__law_line : CB := (.cons (.asg (.tp (.cons (.nm 2) (.cons (.nm 3) (.cons (.nm 4) .nil)))) (.var 0))
  (.cons (.asg (.nm 1) (.new (.dis (.cons (.blt .str (.cons (.var 2) .nil)) (.cons (.idx (.var 4) (.int (0))) (.cons (.bin .Add (.idx (.var 3) (.int (0))) (.idx (.var 3) (.int (1)))) .nil))))))
  (.cons (.ife (.cmp .Eq (.idx (.var 4) (.int (0))) (.str "page")) (.cons (.asg (.nm 1) (.bin .Add (.bin .Add (.var 1) (.new (.dis (.cons (.blt .str (.cons (.idx (.var 4) (.int (1))) .nil)) .nil)))) (.new (.comp (.val (.idx (.var 4) (.int (2)))) (.nm 5) [5] .no (.bin .Add (.idx (.var 5) (.int (0))) (.idx (.var 5) (.int (1))))))))
  .nil) (.cons (.ife (.cmp .Eq (.blt .len (.cons (.var 4) .nil)) (.int (2))) (.cons (.expr (.met (.var 1) .append (.cons (.bin .Add (.idx (.idx (.var 4) (.int (1))) (.int (0))) (.idx (.idx (.var 4) (.int (1))) (.int (1)))) .nil)))
  .nil) .nil)
  .nil))
  (.cons (.ret (.met (.str " ") .join (.cons (.var 1) .nil)))
  .nil))))
def n__law_seal : List Str := ["_law_said", "_law_total", "_law_k"]
def p__law_seal : List Str := ["_law_said"]
def c__law_seal : CB := (.cons (.asg (.nm 1) (.int (0)))
  (.cons (.forS (.nm 2) (.range1 (.blt .len (.cons (.var 0) .nil))) (.cons (.asg (.nm 1) (.bin .Add (.var 1) (.bin .Mult (.bin .Add (.var 2) (.int (1))) (.blt .ord (.cons (.idx (.var 0) (.var 2)) .nil)))))
  .nil))
  (.cons (.ret (.bin .Mod (.blt .int (.cons (.var 1) .nil)) (.int (999983))))
  .nil)))
def n__law_sealed : List Str := ["_law_k", "_law_line_here", "_law_said"]
def p__law_sealed : List Str := ["_law_k", "_law_line_here"]
def c__law_sealed : CB := (.cons (.asg (.nm 2) (.bin .Add (.bin .Add (.blt .str (.cons (.var 0) .nil)) (.str " ")) (.call "_law_line" sp__law_line (.cons (.var 1) .nil))))
  (.cons (.ret (.bin .Add (.bin .Add (.bin .Add (.var 2) (.str " ")) (.blt .str (.cons (.call "_law_seal" sp__law_seal (.cons (.var 2) .nil)) .nil))) (.str "\n")))
  .nil))
def n__law_loose_rows : List Str := ["_law_well_here", "_law_spots_here", "_law_size", "_law_found", "_law_turn", "_law_when", "_law_fact"]
def p__law_loose_rows : List Str := ["_law_well_here", "_law_spots_here", "_law_size"]
def c__law_loose_rows : CB := (.cons (.asg (.nm 3) (.new (.dis .nil)))
  (.cons (.forS (.nm 4) (.range1 (.var 2)) (.cons (.asg (.nm 5) (.call "_law_one" sp__law_one (.cons (.var 0) (.cons (.tup (.cons (.int (0)) (.cons (.var 4) (.cons (.int (7)) (.cons (.int (999999999999)) (.cons (.call "_law_take" sp__law_take (.cons (.var 0) (.cons (.bin .Pow (.int (10)) (.int (12))) .nil))) .nil)))))) .nil))))
  (.cons (.asg (.nm 6) (.call "_law_one" sp__law_one (.cons (.var 0) (.cons (.tup (.cons (.tup (.cons (.str "ask") .nil)) (.cons (.tup (.cons (.str "lost") .nil)) (.cons (.tup (.cons (.str "cut") .nil)) (.cons (.call "_law_answer" sp__law_answer (.cons (.var 0) (.cons (.var 1) .nil))) (.cons (.call "_law_answer" sp__law_answer (.cons (.var 0) (.cons (.var 1) .nil))) .nil)))))) .nil))))
  (.cons (.expr (.met (.var 3) .append (.cons (.tup (.cons (.var 5) (.cons (.call "_law_one" sp__law_one (.cons (.var 0) (.cons (.var 1) .nil))) (.cons (.var 6) .nil)))) .nil)))
  .nil))))
  (.cons (.ret (.blt .tuple (.cons (.var 3) .nil)))
  .nil)))
def n__law_signs : List Str := ["_law_well_here", "_law_size", "_law_marks", "_law_turn"]
def p__law_signs : List Str := ["_law_well_here", "_law_size"]
def c__law_signs : CB := (.cons (.asg (.nm 2) (.str " !#$&'()*+,-./0123456789:;<=>?@ABCDEFGHIJKLMNOPQRSTUVWXYZ[]^_abcdefghijklmnopqrstuvwxyz{|}~"))
  (.cons (.ret (.ofl (.join "") (.comp (.range1 (.var 1)) (.nm 3) [3] .no (.call "_law_one" sp__law_one (.cons (.var 0) (.cons (.var 2) .nil))))))
  .nil))
def n__law_right : List Str := ["_law_well_here", "_law_spots_here", "_law_said", "_law_book", "_law_due", "_law_follow", "_law_torn_here", "_law_small", "_law_trek", "_law_when", "_law_name_here", "_law_k"]
def p__law_right : List Str := ["_law_well_here"]
def c__law_right : CB := (.cons (.asg (.nm 1) (.call "_law_spots" sp__law_spots (.cons (.var 0) (.cons (.new (.dis (.cons (.call "_law_name" sp__law_name (.cons (.var 0) .nil)) (.cons (.call "_law_name" sp__law_name (.cons (.var 0) .nil)) .nil)))) .nil))))
  (.cons (.asg (.nm 2) (.call "_law_signs" sp__law_signs (.cons (.var 0) (.cons (.call "_law_one" sp__law_one (.cons (.var 0) (.cons (.tup (.cons (.int (0)) (.cons (.int (1)) (.cons (.int (2)) (.cons (.int (9)) (.cons (.int (30)) (.cons (.int (60)) .nil))))))) .nil))) .nil))))
  (.cons (.ife (.cmp .NotEq (.blt .repr (.cons (.new (.dis (.cons (.call "seal_of" sp_seal_of (.cons (.var 2) .nil)) (.cons (.callk "seal_of" ["text"] kw_seal_of_text .nil (.cons (.bin .Add (.var 2) (.str "\n")) .nil)) .nil)))) .nil)) (.blt .repr (.cons (.new (.dis (.cons (.call "_law_seal" sp__law_seal (.cons (.var 2) .nil)) (.cons (.call "_law_seal" sp__law_seal (.cons (.bin .Add (.var 2) (.str "\n")) .nil)) .nil)))) .nil))) (.cons (.ret (.bl false))
  .nil) .nil)
  (.cons (.asg (.nm 3) (.call "_law_loose_rows" sp__law_loose_rows (.cons (.var 0) (.cons (.var 1) (.cons (.call "_law_one" sp__law_one (.cons (.var 0) (.cons (.tup (.cons (.int (0)) (.cons (.int (1)) (.cons (.int (2)) (.cons (.int (5)) (.cons (.int (12)) .nil)))))) .nil))) .nil)))))
  (.cons (.asg (.nm 4) (.ofl (.join "") (.comp (.range1 (.blt .len (.cons (.var 3) .nil))) (.nm 11) [11] .no (.call "_law_sealed" sp__law_sealed (.cons (.var 11) (.cons (.idx (.var 3) (.var 11)) .nil))))))
  (.cons (.ife (.cmp .NotEq (.blt .repr (.cons (.new (.dis (.cons (.call "print_journal" sp_print_journal (.cons (.var 3) .nil)) (.cons (.callk "print_journal" ["log"] kw_print_journal_log .nil (.cons (.var 3) .nil)) .nil)))) .nil)) (.blt .repr (.cons (.new (.dis (.cons (.var 4) (.cons (.var 4) .nil)))) .nil))) (.cons (.ret (.bl false))
  .nil) .nil)
  (.cons (.asg (.nm 5) (.call "_law_sealed" sp__law_sealed (.cons (.blt .len (.cons (.var 3) .nil)) (.cons (.idx (.call "_law_loose_rows" sp__law_loose_rows (.cons (.var 0) (.cons (.var 1) (.cons (.int (1)) .nil)))) (.int (0))) .nil))))
  (.cons (.asg (.nm 6) (.call "_law_one" sp__law_one (.cons (.var 0) (.cons (.tup (.cons (.str "") (.cons (.var 2) (.cons (.slc (.var 5) .no (.yes (.call "_law_take" sp__law_take (.cons (.var 0) (.cons (.blt .len (.cons (.var 5) .nil)) .nil))))) (.cons (.slc (.var 5) .no (.yes (.neg (.int (1))))) .nil))))) .nil))))
  (.cons (.ife (.cmp .NotEq (.blt .repr (.cons (.new (.dis (.cons (.call "read_journal" sp_read_journal (.cons (.var 4) .nil)) (.cons (.callk "read_journal" ["text"] kw_read_journal_text .nil (.cons (.bin .Add (.var 4) (.var 6)) .nil)) .nil)))) .nil)) (.blt .repr (.cons (.new (.dis (.cons (.var 3) (.cons (.var 3) .nil)))) .nil))) (.cons (.ret (.bl false))
  .nil) .nil)
  (.cons (.ife (.cmp .NotEq (.blt .repr (.cons (.new (.dis (.cons (.call "read_journal" sp_read_journal (.cons (.var 2) .nil)) (.cons (.call "seal_of" sp_seal_of (.cons (.var 4) .nil)) .nil)))) .nil)) (.blt .repr (.cons (.new (.dis (.cons (.tup .nil) (.cons (.call "_law_seal" sp__law_seal (.cons (.var 4) .nil)) .nil)))) .nil))) (.cons (.ret (.bl false))
  .nil) .nil)
  (.cons (.par 9 10 (.bin .Add (.int (5)) (.call "_law_take" sp__law_take (.cons (.var 0) (.cons (.int (9)) .nil)))) (.idx (.idx (.var 1) (.int (0))) (.int (0))))
  (.cons (.asg (.nm 7) (.tup (.cons (.tup (.cons (.var 9) (.cons (.idx (.var 1) (.int (0))) (.cons (.tup (.cons (.str "ask") .nil)) .nil)))) (.cons (.tup (.cons (.bin .Add (.var 9) (.int (1))) (.cons (.idx (.var 1) (.int (0))) (.cons (.tup (.cons (.str "cut") .nil)) .nil)))) .nil))))
  (.cons (.asg (.nm 8) (.tup (.cons (.tup (.cons (.tup (.cons (.var 10) (.cons (.tup .nil) (.cons (.int (3)) (.cons (.tup .nil) (.cons (.tup .nil) .nil)))))) .nil)) (.cons (.tup (.cons (.var 10) (.cons (.tup (.cons (.idx (.var 1) (.int (0))) .nil)) (.cons (.int (1)) (.cons (.int (0)) (.cons (.tup .nil) .nil)))))) (.cons (.var 7) (.cons (.bin .Add (.var 9) (.int (1))) .nil))))))
  (.cons (.ret (.cmp .Eq (.blt .repr (.cons (.call "journal_of" sp_journal_of (.cons (.var 8) .nil)) .nil)) (.blt .repr (.cons (.bin .Add (.call "_law_sealed" sp__law_sealed (.cons (.int (0)) (.cons (.idx (.var 7) (.int (0))) .nil))) (.call "_law_sealed" sp__law_sealed (.cons (.int (1)) (.cons (.idx (.var 7) (.int (1))) .nil)))) .nil))))
  .nil))))))))))))))
def n_law : List Str := ["_law_script", "_law_turn"]
def p_law : List Str := ["_law_script"]
def c_law : CB := (.cons (.ret (.ofl .all (.comp (.range1 (.blt .max (.cons (.int (1)) (.cons (.blt .min (.cons (.blt .len (.cons (.var 0) .nil)) (.cons (.int (4)) .nil))) .nil)))) (.nm 1) [1] .no (.call "_law_right" sp__law_right (.cons (.call "_law_well" sp__law_well (.cons (.var 0) (.cons (.var 1) .nil))) .nil)))))
  .nil)

end Jn
namespace Jn
open PySem PySem.Spec PyProof.Rows L2 Mx TL
theorem get_put {M : MH} {p : Addr} {o u : MO} (h : M.get p = some u) : MH.get (M.put p o) p = some o := MH.get_put h
theorem no_long {i j : Int} (h : j.natAbs < 2 ^ 64) : Builtin.divisionGoesByPylong i j = false := by
  unfold Builtin.divisionGoesByPylong
  have e : (if j == 0 then 0 else j.natAbs.log2 / 30 + 1) ≤ 300 := by
    split
    · omega
    · rename_i hj
      have h0 : j.natAbs ≠ 0 := fun z => hj (by simp; omega)
      have : j.natAbs.log2 < 64 := (Nat.log2_lt h0).mpr h
      omega
  simp only [Bool.and_eq_false_iff, decide_eq_false_iff_not]
  left
  omega
theorem small_mul {i j : Int} (hi : i.natAbs < 2 ^ 1000) (hj : j.natAbs < 2 ^ 1000) : CMulX i j := mulx_ok hi hj (by decide)
theorem pl__law_take (ds : List D) (M : MH) (Q : KE) (h : sp__law_take ds M Q fun _ _ => False) : rB E0 c__law_take (endK Q) (startD n__law_take.length ds) M := by
  obtain ⟨p, n, ⟨a, b, c⟩, k, rfl, hp, n1, n2, ⟨b1, b2, c1, c2⟩, q⟩ := h
  change rB E0 c__law_take (endK Q) [some (.ref p), some (.int n), none] M
  have hp' : MH.get M p = some (.lst [.int a, .int b, .int c]) := hp
  simp only at b1 b2 c1 c2
  simp only [c__law_take, rB, rS, rE, rT, rO, rC, rX, rEs, rOX, rL, rWk, rG, rGs, rF, byT, lenT, endK, oflD, wipeD, List.getElem?_cons_zero, List.getElem?_cons_succ, List.set_cons_zero, List.set_cons_succ, Bool.not_true, Bool.not_false, Bool.false_eq_true, if_true, if_false, decide_true, decide_false, Bool.true_and, Bool.and_true, Bool.false_and, List.length_nil, List.length_cons, Nat.zero_add, Nat.reduceAdd, Rd.tr_bl, Rd.tr_non, Rd.tr_int, Rd.tr_str, Rd.tr_tup, Rd.tr_fl, Rd.tr_ref, Rd.eq_int, Rd.eq_str, Rd.eq_bl, Rd.sq_tup, Rd.sq_fl, Rd.sq_ref, Rd.cm_eq, Rd.cm_ne, Rd.cm_in, Rd.cm_ni, Rd.is_non, Rd.isn_non, Rd.is_bl, Rd.isn_bl, Rd.is_int, Rd.isn_int, Rd.is_str, Rd.isn_str, Rd.is_tup, Rd.isn_tup, Rd.is_fl, Rd.isn_fl, Rd.is_ref, Rd.isn_ref, Rd.cm_lt, Rd.cm_le, Rd.cm_gt, Rd.cm_ge, Rd.ix_tup, Rd.ix_fl, Rd.ix_str, Rd.ix_ref, Rd.sl_tup, Rd.sl_str, Rd.sl_fl, Rd.sl_ref, Rd.ln_str, Rd.ln_tup, Rd.ln_fl, Rd.ln_ref, Rd.nt_int, Rd.nt_str, Rd.st_int, Rd.ab_int, Rd.od_str, Rd.mx_int, Rd.mn_int, Rd.dm_int, Rd.tp_seq, Rd.ls_seq, Rd.rp_any, Rd.bn_ii, Rd.bn_ss, Rd.bn_tt, Rd.bn_rr, Rd.bn_sub, Rd.bn_mul, Rd.bn_fdv, Rd.bn_mod, Rd.bn_pow, Rd.mt_app, Rd.mt_joi, Rd.mt_spl, Rd.mt_par, Rd.mt_rpa, Rd.my_split, Rd.my_partition, Rd.my_rpartition, Rd.my_count, Rd.my_find, Rd.my_rfind, Rd.my_join, Rd.my_app, Rd.ty_non_int, Rd.ty_non_str, Rd.ty_non_bool, Rd.ty_non_tuple, Rd.ty_non_list, Rd.ty_bl_int, Rd.ty_bl_str, Rd.ty_bl_bool, Rd.ty_bl_tuple, Rd.ty_bl_list, Rd.ty_int_int, Rd.ty_int_str, Rd.ty_int_bool, Rd.ty_int_tuple, Rd.ty_int_list, Rd.ty_str_int, Rd.ty_str_str, Rd.ty_str_bool, Rd.ty_str_tuple, Rd.ty_str_list, Rd.ty_tup_int, Rd.ty_tup_str, Rd.ty_tup_bool, Rd.ty_tup_tuple, Rd.ty_tup_list, Rd.ty_fl_int, Rd.ty_fl_str, Rd.ty_fl_bool, Rd.ty_fl_tuple, Rd.ty_fl_list, Rd.fm_str, Rd.fm_int, Rd.it_t, Rd.it_f, Rd.it_s, Rd.it_r, hp', sl0, sl1, sl2, sl3, sl4, sl5, sl6, true_and, at0, at1, at2, in2, in3, ofS_inj, Option.some.injEq, exists_eq_left']
  by_cases ha : 0 < a
  · rw [if_pos (decide_eq_true ha)]
    refine ⟨⟨by omega, no_long (by omega)⟩, _, 0, rfl, rfl, drop_here ?_⟩
    exact q (a % n) (a / n, b, c) (Int.emod_nonneg _ (by omega)) (Int.emod_lt_of_pos _ (by omega)) ⟨b1, b2, c1, by show c + (k : Int) ≤ _; omega⟩
  · rw [if_neg (by simp [ha])]
    refine ⟨_, 2, rfl, rfl, ?_⟩
    have g2 : MH.get (M.put p (MO.lst [.int a, .int b, .int (c + 1)])) p = some (.lst [.int a, .int b, .int (c + 1)]) := get_put hp
    simp only [List.set_cons_succ, List.set_cons_zero, g2, rB, rS, rE, rT, rO, rC, rX, rEs, rOX, rL, rWk, rG, rGs, rF, byT, lenT, endK, oflD, wipeD, List.getElem?_cons_zero, List.getElem?_cons_succ, List.set_cons_zero, List.set_cons_succ, Bool.not_true, Bool.not_false, Bool.false_eq_true, if_true, if_false, decide_true, decide_false, Bool.true_and, Bool.and_true, Bool.false_and, List.length_nil, List.length_cons, Nat.zero_add, Nat.reduceAdd, Rd.tr_bl, Rd.tr_non, Rd.tr_int, Rd.tr_str, Rd.tr_tup, Rd.tr_fl, Rd.tr_ref, Rd.eq_int, Rd.eq_str, Rd.eq_bl, Rd.sq_tup, Rd.sq_fl, Rd.sq_ref, Rd.cm_eq, Rd.cm_ne, Rd.cm_in, Rd.cm_ni, Rd.is_non, Rd.isn_non, Rd.is_bl, Rd.isn_bl, Rd.is_int, Rd.isn_int, Rd.is_str, Rd.isn_str, Rd.is_tup, Rd.isn_tup, Rd.is_fl, Rd.isn_fl, Rd.is_ref, Rd.isn_ref, Rd.cm_lt, Rd.cm_le, Rd.cm_gt, Rd.cm_ge, Rd.ix_tup, Rd.ix_fl, Rd.ix_str, Rd.ix_ref, Rd.sl_tup, Rd.sl_str, Rd.sl_fl, Rd.sl_ref, Rd.ln_str, Rd.ln_tup, Rd.ln_fl, Rd.ln_ref, Rd.nt_int, Rd.nt_str, Rd.st_int, Rd.ab_int, Rd.od_str, Rd.mx_int, Rd.mn_int, Rd.dm_int, Rd.tp_seq, Rd.ls_seq, Rd.rp_any, Rd.bn_ii, Rd.bn_ss, Rd.bn_tt, Rd.bn_rr, Rd.bn_sub, Rd.bn_mul, Rd.bn_fdv, Rd.bn_mod, Rd.bn_pow, Rd.mt_app, Rd.mt_joi, Rd.mt_spl, Rd.mt_par, Rd.mt_rpa, Rd.my_split, Rd.my_partition, Rd.my_rpartition, Rd.my_count, Rd.my_find, Rd.my_rfind, Rd.my_join, Rd.my_app, Rd.ty_non_int, Rd.ty_non_str, Rd.ty_non_bool, Rd.ty_non_tuple, Rd.ty_non_list, Rd.ty_bl_int, Rd.ty_bl_str, Rd.ty_bl_bool, Rd.ty_bl_tuple, Rd.ty_bl_list, Rd.ty_int_int, Rd.ty_int_str, Rd.ty_int_bool, Rd.ty_int_tuple, Rd.ty_int_list, Rd.ty_str_int, Rd.ty_str_str, Rd.ty_str_bool, Rd.ty_str_tuple, Rd.ty_str_list, Rd.ty_tup_int, Rd.ty_tup_str, Rd.ty_tup_bool, Rd.ty_tup_tuple, Rd.ty_tup_list, Rd.ty_fl_int, Rd.ty_fl_str, Rd.ty_fl_bool, Rd.ty_fl_tuple, Rd.ty_fl_list, Rd.fm_str, Rd.fm_int, Rd.it_t, Rd.it_f, Rd.it_s, Rd.it_r, sl0, sl1, sl2, sl3, sl4, sl5, sl6, true_and, at0, at1, at2, in2, in3, ofS_inj, Option.some.injEq, exists_eq_left']
    refine ⟨small_mul (by omega) (by omega), ?_⟩
    refine ⟨small_mul (by omega) (by omega), ?_⟩
    refine ⟨small_mul (by omega) (by omega), by decide, ?_⟩
    refine ⟨_, 1, rfl, rfl, ?_⟩
    simp only [List.set_cons_succ, List.set_cons_zero, MH.put_put]
    rw [get_put hp]
    simp only [List.getElem?_cons_succ, List.getElem?_cons_zero, Option.some.injEq, exists_eq_left']
    have hm : ∀ x : Int, 0 ≤ x.fmod 2147483629 ∧ x.fmod 2147483629 < 2147483629 := fun x => ⟨Int.fmod_nonneg_of_pos _ (by decide), Int.fmod_lt_of_pos _ (by decide)⟩
    refine ⟨⟨by decide, no_long (by decide)⟩, by omega, drop_here ?_⟩
    refine q _ (a, _, c + 1) (Int.fmod_nonneg_of_pos _ (by omega)) (Int.fmod_lt_of_pos _ (by omega)) ⟨(hm _).1, Int.lt_trans (hm _).2 (by decide), by show 0 ≤ c + 1; omega, by show c + 1 + (k : Int) ≤ _; omega⟩
end Jn
namespace Jn
open PySem PySem.Spec PyProof.Rows L2 Mx TL
theorem items_len {M : MH} {x : D} {xs : List D} {K : KE} (h : Items M x xs) (q : K (.int xs.length) M) : bltD .len [x] M K := by
  cases x with
  | str s =>
    obtain ⟨a, rfl⟩ := h
    rw [List.length_map] at q
    exact ⟨a, q⟩
  | tup ds => obtain rfl := (show xs = ds from h); exact q
  | fl ds => obtain rfl := (show xs = ds from h); exact q
  | ref p =>
    have h' : MH.get M p = some (.lst xs) := h
    simp only [Rd.ln_ref, h']
    exact q
  | non => exact h.elim
  | bl b => exact h.elim
  | int i => exact h.elim
theorem items_idx {M : MH} {x y : D} {xs : List D} {n : Nat} {K : KE} (h : Items M x xs) (e : xs[n]? = some y) (q : K y M) : idxD x (.int n) M K := by
  cases x with
  | str s =>
    obtain ⟨a, rfl⟩ := h
    rw [List.getElem?_map] at e
    cases hc : s.cps.toList[n]? with
    | none => rw [hc] at e; cases e
    | some c =>
      rw [hc] at e
      cases e
      exact ⟨a, c, by rw [atI_nat]; exact hc, q⟩
  | tup ds => obtain rfl := (show xs = ds from h); exact ⟨y, by rw [atI_nat]; exact e, q⟩
  | fl ds => obtain rfl := (show xs = ds from h); exact ⟨y, by rw [atI_nat]; exact e, q⟩
  | ref p =>
    have h' : MH.get M p = some (.lst xs) := h
    simp only [Rd.ix_ref, h']
    exact ⟨y, by rw [atI_nat]; exact e, q⟩
  | non => exact h.elim
  | bl b => exact h.elim
  | int i => exact h.elim
theorem items_put {M : MH} {x : D} {xs : List D} {p : Addr} {o : MO} (h : Items M x xs) (hn : ∀ q, x = .ref q → q ≠ p) : Items (M.put p o) x xs := by
  cases x with
  | ref q =>
    show MH.get (M.put p o) q = _
    rw [MH.get_put_ne (hn q rfl)]
    exact h
  | _ => exact h
theorem pl__law_one (ds : List D) (M : MH) (Q : KE) (h : sp__law_one ds M Q fun _ _ => False) : rB E0 c__law_one (endK Q) (startD n__law_one.length ds) M := by
  obtain ⟨p, x, w, k, xs, rfl, hp, hi, hne, hl, hx, hw, q⟩ := h
  change rB E0 c__law_one (endK Q) [some (.ref p), some x] M
  simp only [c__law_one, rB, rS, rE, rX, rEs, byT, endK, List.getElem?_cons_zero, List.getElem?_cons_succ]
  refine items_len hi ?_
  have h0 : 0 < xs.length := List.length_pos_iff.mpr hne
  refine ⟨p, _, w, k, rfl, hp, by omega, by omega, hw, fun r w' r0 r1 hw' => ?_⟩
  obtain ⟨n, rfl⟩ := Int.eq_ofNat_of_zero_le r0
  have hn : n < xs.length := by omega
  refine items_idx (items_put hi hx) (List.getElem?_eq_getElem hn) (drop_here ?_)
  exact q _ (List.getElem_mem _) w' hw'
theorem gather_draw {chk : MH → Prop} {turn : D → (Option D → MH → Prop) → MH → Prop} {fin : List D → MH → Prop} {M : MH} {p : Addr} (R : D → Prop) (c : Nat) (items : List D) (k : Nat) (w : Wl) (hc : ∀ w, chk (M.put p (wl w))) (hl : items.length ≤ sizeLine)
    (hw : Wok (k + items.length * c) w) (step : ∀ d ∈ items, ∀ k' w', Wok (k' + c) w' → ∀ kk : Option D → MH → Prop, (∀ x w'', R x → Wok k' w'' → kk (some x) (M.put p (wl w''))) → turn d kk (M.put p (wl w')))
    (done : ∀ acc w', acc.length = items.length → (∀ x ∈ acc, R x) → Wok k w' → fin acc (M.put p (wl w'))) : gatherD chk turn fin items [] (M.put p (wl w)) := by
  refine gather_by (fun ds acc M' => ∃ w', M' = M.put p (wl w') ∧ Wok (k + ds.length * c) w' ∧ acc.length + ds.length = items.length ∧ (∀ x ∈ acc, R x) ∧ ∀ d ∈ ds, d ∈ items) (fun acc M' ⟨w', e, h1, h2, h3, _⟩ => ?_) (fun d ds acc M' ⟨w', e, h1, h2, h3, h4⟩ => ?_) items [] _ ⟨w, rfl, hw, by simp, fun x hx => (by cases hx), fun d h => h⟩
  · subst e
    exact ⟨hc w', done acc w' (by simpa using h2) h3 (by simpa using h1)⟩
  · subst e
    rw [List.length_cons] at h1 h2
    refine ⟨hc w', by omega, fun kk k1 k2 => step d (h4 d List.mem_cons_self) (k + ds.length * c) w' (by rw [Nat.add_mul] at h1; simpa [Nat.add_assoc] using h1) kk fun x w'' hx hw'' => ?_⟩
    refine k1 x _ ⟨w'', rfl, hw'', by rw [List.length_append]; simp; omega, fun y hy => ?_, fun d hd => h4 d (List.mem_cons_of_mem _ hd)⟩
    rcases List.mem_append.mp hy with hy | hy
    · exact h3 y hy
    · obtain rfl := List.mem_singleton.mp hy
      exact hx
theorem signs_of {P : Nat → Prop} : ∀ {acc : List D}, (∀ x ∈ acc, ∃ c, P c ∧ x = .str ⟨#[c]⟩) → ∃ cs : List Nat, acc = (cs.map fun c => (⟨#[c]⟩ : Str)).map D.str ∧ (∀ c ∈ cs, P c) ∧ cs.length = acc.length
  | [], _ => ⟨[], rfl, fun c h => (by cases h), rfl⟩
  | x :: acc, h => by
    obtain ⟨cs, e, h1, h2⟩ := signs_of fun y hy => h y (List.mem_cons_of_mem _ hy)
    obtain ⟨c, hc, rfl⟩ := h x List.mem_cons_self
    refine ⟨c :: cs, by rw [e]; rfl, fun d hd => ?_, by simp [h2]⟩
    rcases List.mem_cons.mp hd with rfl | hd
    · exact hc
    · exact h1 d hd
theorem joinL_one : ∀ cs : List Nat, joinL [] ((cs.map fun c => (⟨#[c]⟩ : Str)).map tl) = cs
  | [] => rfl
  | c :: cs => by
    show joinL [] ([c] :: ((cs.map fun c => (⟨#[c]⟩ : Str)).map tl)) = _
    rw [joinL_nil, joinL_one cs]
    rfl
theorem join_signs (cs : List Nat) : tl (Txt.join (Str.ofString "") (cs.map fun c => (⟨#[c]⟩ : Str))) = cs := by
  rw [tl_joinT, tl_none, joinL_one]
theorem fits_signs {cs : List Nat} {n : Nat} (h : cs.length ≤ n) (hn : n ≤ 1000) : ((cs.map fun c => (⟨#[c]⟩ : Str)).map (·.length)).sum + (cs.map fun c => (⟨#[c]⟩ : Str)).length * (Str.ofString "").length ≤ 16777216 := by
  refine join_fits (B := 1) (n := 1000) (fun w hw => ?_) (by rw [List.length_map]; omega) (by rw [none_len]; decide)
  obtain ⟨c, _, rfl⟩ := List.mem_map.mp hw
  exact Nat.le_refl _
theorem pl__law_name (ds : List D) (M : MH) (Q : KE) (h : sp__law_name ds M Q fun _ _ => False) : rB E0 c__law_name (endK Q) (startD n__law_name.length ds) M := by
  obtain ⟨p, w, k, rfl, hp, hw, q⟩ := h
  change rB E0 c__law_name (endK Q) [some (.ref p), none, none] M
  simp only [c__law_name, rB, rS, rE, rT, rO, rC, rX, rEs, rOX, rL, rWk, rG, rGs, rF, byT, lenT, endK, oflD, wipeD, List.getElem?_cons_zero, List.getElem?_cons_succ, List.set_cons_zero, List.set_cons_succ, Bool.not_true, Bool.not_false, Bool.false_eq_true, if_true, if_false, decide_true, decide_false, Bool.true_and, Bool.and_true, Bool.false_and, List.length_nil, List.length_cons, Nat.zero_add, Nat.reduceAdd, Rd.tr_bl, Rd.tr_non, Rd.tr_int, Rd.tr_str, Rd.tr_tup, Rd.tr_fl, Rd.tr_ref, Rd.eq_int, Rd.eq_str, Rd.eq_bl, Rd.sq_tup, Rd.sq_fl, Rd.sq_ref, Rd.cm_eq, Rd.cm_ne, Rd.cm_in, Rd.cm_ni, Rd.is_non, Rd.isn_non, Rd.is_bl, Rd.isn_bl, Rd.is_int, Rd.isn_int, Rd.is_str, Rd.isn_str, Rd.is_tup, Rd.isn_tup, Rd.is_fl, Rd.isn_fl, Rd.is_ref, Rd.isn_ref, Rd.cm_lt, Rd.cm_le, Rd.cm_gt, Rd.cm_ge, Rd.ix_tup, Rd.ix_fl, Rd.ix_str, Rd.ix_ref, Rd.sl_tup, Rd.sl_str, Rd.sl_fl, Rd.sl_ref, Rd.ln_str, Rd.ln_tup, Rd.ln_fl, Rd.ln_ref, Rd.nt_int, Rd.nt_str, Rd.st_int, Rd.ab_int, Rd.od_str, Rd.mx_int, Rd.mn_int, Rd.dm_int, Rd.tp_seq, Rd.ls_seq, Rd.rp_any, Rd.bn_ii, Rd.bn_ss, Rd.bn_tt, Rd.bn_rr, Rd.bn_sub, Rd.bn_mul, Rd.bn_fdv, Rd.bn_mod, Rd.bn_pow, Rd.mt_app, Rd.mt_joi, Rd.mt_spl, Rd.mt_par, Rd.mt_rpa, Rd.my_split, Rd.my_partition, Rd.my_rpartition, Rd.my_count, Rd.my_find, Rd.my_rfind, Rd.my_join, Rd.my_app, Rd.ty_non_int, Rd.ty_non_str, Rd.ty_non_bool, Rd.ty_non_tuple, Rd.ty_non_list, Rd.ty_bl_int, Rd.ty_bl_str, Rd.ty_bl_bool, Rd.ty_bl_tuple, Rd.ty_bl_list, Rd.ty_int_int, Rd.ty_int_str, Rd.ty_int_bool, Rd.ty_int_tuple, Rd.ty_int_list, Rd.ty_str_int, Rd.ty_str_str, Rd.ty_str_bool, Rd.ty_str_tuple, Rd.ty_str_list, Rd.ty_tup_int, Rd.ty_tup_str, Rd.ty_tup_bool, Rd.ty_tup_tuple, Rd.ty_tup_list, Rd.ty_fl_int, Rd.ty_fl_str, Rd.ty_fl_bool, Rd.ty_fl_tuple, Rd.ty_fl_list, Rd.fm_str, Rd.fm_int, Rd.it_t, Rd.it_f, Rd.it_s, Rd.it_r, sl0, sl1, sl2, sl3, sl4, sl5, sl6, true_and, at0, at1, at2, in2, in3, ofS_inj]
  refine ⟨p, _, w, k + 12, _, rfl, hp, rfl, by simp, by simp, nofun, by simpa [Nat.add_assoc] using hw, fun y hy w1 hw1 => ?_⟩
  have hy' : ∃ n : Nat, y = .int n ∧ 1 ≤ n ∧ n ≤ 12 := by
    simp at hy
    rcases hy with rfl | rfl | rfl | rfl | rfl <;> exact ⟨_, rfl, by decide, by decide⟩
  obtain ⟨n, rfl, n1, n2⟩ := hy'
  simp only [rB, rS, rE, rT, rO, rC, rX, rEs, rOX, rL, rWk, rG, rGs, rF, byT, lenT, endK, oflD, wipeD, List.getElem?_cons_zero, List.getElem?_cons_succ, List.set_cons_zero, List.set_cons_succ, Bool.not_true, Bool.not_false, Bool.false_eq_true, if_true, if_false, decide_true, decide_false, Bool.true_and, Bool.and_true, Bool.false_and, List.length_nil, List.length_cons, Nat.zero_add, Nat.reduceAdd, Rd.tr_bl, Rd.tr_non, Rd.tr_int, Rd.tr_str, Rd.tr_tup, Rd.tr_fl, Rd.tr_ref, Rd.eq_int, Rd.eq_str, Rd.eq_bl, Rd.sq_tup, Rd.sq_fl, Rd.sq_ref, Rd.cm_eq, Rd.cm_ne, Rd.cm_in, Rd.cm_ni, Rd.is_non, Rd.isn_non, Rd.is_bl, Rd.isn_bl, Rd.is_int, Rd.isn_int, Rd.is_str, Rd.isn_str, Rd.is_tup, Rd.isn_tup, Rd.is_fl, Rd.isn_fl, Rd.is_ref, Rd.isn_ref, Rd.cm_lt, Rd.cm_le, Rd.cm_gt, Rd.cm_ge, Rd.ix_tup, Rd.ix_fl, Rd.ix_str, Rd.ix_ref, Rd.sl_tup, Rd.sl_str, Rd.sl_fl, Rd.sl_ref, Rd.ln_str, Rd.ln_tup, Rd.ln_fl, Rd.ln_ref, Rd.nt_int, Rd.nt_str, Rd.st_int, Rd.ab_int, Rd.od_str, Rd.mx_int, Rd.mn_int, Rd.dm_int, Rd.tp_seq, Rd.ls_seq, Rd.rp_any, Rd.bn_ii, Rd.bn_ss, Rd.bn_tt, Rd.bn_rr, Rd.bn_sub, Rd.bn_mul, Rd.bn_fdv, Rd.bn_mod, Rd.bn_pow, Rd.mt_app, Rd.mt_joi, Rd.mt_spl, Rd.mt_par, Rd.mt_rpa, Rd.my_split, Rd.my_partition, Rd.my_rpartition, Rd.my_count, Rd.my_find, Rd.my_rfind, Rd.my_join, Rd.my_app, Rd.ty_non_int, Rd.ty_non_str, Rd.ty_non_bool, Rd.ty_non_tuple, Rd.ty_non_list, Rd.ty_bl_int, Rd.ty_bl_str, Rd.ty_bl_bool, Rd.ty_bl_tuple, Rd.ty_bl_list, Rd.ty_int_int, Rd.ty_int_str, Rd.ty_int_bool, Rd.ty_int_tuple, Rd.ty_int_list, Rd.ty_str_int, Rd.ty_str_str, Rd.ty_str_bool, Rd.ty_str_tuple, Rd.ty_str_list, Rd.ty_tup_int, Rd.ty_tup_str, Rd.ty_tup_bool, Rd.ty_tup_tuple, Rd.ty_tup_list, Rd.ty_fl_int, Rd.ty_fl_str, Rd.ty_fl_bool, Rd.ty_fl_tuple, Rd.ty_fl_list, Rd.fm_str, Rd.fm_int, Rd.it_t, Rd.it_f, Rd.it_s, Rd.it_r]
  refine ⟨⟨by omega, by omega⟩, ?_⟩
  have hlen : (rangeD 0 (n : Int).toNat).length = n := by unfold rangeD; simp
  refine gather_draw (fun x => ∃ c, c ∈ tl (Str.ofString "abcdefghijklmnopqrstuvwxyz") ∧ x = .str ⟨#[c]⟩) 1 _ k w1 (fun _ => trivial) (by rw [hlen]; exact sz _ (by omega)) ?_ (fun d hd k' w' hw' kk hk => ?_) fun acc w' hl hR hw' => ?_
  · rw [hlen]
    exact ⟨hw1.1, hw1.2.1, hw1.2.2.1, by have := hw1.2.2.2; omega⟩
  · refine ⟨p, _, w', k', _, rfl, get_put hp, ⟨by decide +kernel, rfl⟩, ?_, ?_, nofun, hw', fun y hy w'' hw'' => ?_⟩
    · show List.map _ (tl (Str.ofString "abcdefghijklmnopqrstuvwxyz")) ≠ []
      rw [tl_letters]
      simp
    · show (List.map _ (tl (Str.ofString "abcdefghijklmnopqrstuvwxyz"))).length ≤ _
      rw [tl_letters]
      simp
    · obtain ⟨c, hc, rfl⟩ := List.mem_map.mp hy
      rw [MH.put_put]
      exact hk _ w'' ⟨c, hc, rfl⟩ hw''
  · rw [hlen] at hl
    obtain ⟨cs, rfl, h1, h2⟩ := signs_of hR
    refine ⟨_, rfl, fits_signs (n := 12) (by omega) (by omega), drop_here ?_⟩
    have ht := join_signs cs
    refine q _ w' ⟨?_, ?_, fun c hc => ?_⟩ hw'
    · rw [len_tl, ht]; omega
    · rw [len_tl, ht]; omega
    · rw [ht] at hc
      exact h1 c hc
end Jn
namespace Jn
open PySem PySem.Spec PyProof.Rows L2 Mx TL
theorem put_cons {M : MH} {p r : Addr} {o u v : MO} (hp : MH.get M p = some u) (hr : MH.get M r = none) : MH.put ((r, o) :: M) p v = (r, o) :: MH.put M p v := MH.put_ne (MH.ne_of hp hr)
def pathB (s : Str) : Bool := (match tl s with | 47 :: _ => true | _ => false) && decide (s.length ≤ 40) && (tl s).all fun c => decide (c ∈ tl (Str.ofString "-./0123456789_abcdefghijklmnopqrstuvwxyz"))
theorem path_of {s : Str} (h : pathB s = true) : okPath s := by
  unfold pathB at h
  simp only [Bool.and_eq_true, decide_eq_true_eq, List.all_eq_true] at h
  refine ⟨?_, h.1.2, h.2⟩
  have := h.1.1
  split at this
  · rename_i r e
    exact ⟨r, e⟩
  · cases this
theorem sl8 : (8 ≤ sizeLine) = True := eq_true (by decide)
theorem Wok.less {k j : Nat} {w : Wl} (h : Wok k w) (hj : j ≤ k) : Wok j w := ⟨h.1, h.2.1, h.2.2.1, by have := h.2.2.2; omega⟩
theorem pl__law_path (ds : List D) (M : MH) (Q : KE) (h : sp__law_path ds M Q fun _ _ => False) : rB E0 c__law_path (endK Q) (startD n__law_path.length ds) M := by
  obtain ⟨p, w, k, rfl, hp, hw, q⟩ := h
  change rB E0 c__law_path (endK Q) [some (.ref p), none, none] M
  simp only [c__law_path, rB, rS, rE, rT, rO, rC, rX, rEs, rOX, rL, rWk, rG, rGs, rF, byT, lenT, endK, oflD, wipeD, List.getElem?_cons_zero, List.getElem?_cons_succ, List.set_cons_zero, List.set_cons_succ, Bool.not_true, Bool.not_false, Bool.false_eq_true, if_true, if_false, decide_true, decide_false, Bool.true_and, Bool.and_true, Bool.false_and, List.length_nil, List.length_cons, Nat.zero_add, Nat.reduceAdd, Rd.tr_bl, Rd.tr_non, Rd.tr_int, Rd.tr_str, Rd.tr_tup, Rd.tr_fl, Rd.tr_ref, Rd.eq_int, Rd.eq_str, Rd.eq_bl, Rd.sq_tup, Rd.sq_fl, Rd.sq_ref, Rd.cm_eq, Rd.cm_ne, Rd.cm_in, Rd.cm_ni, Rd.is_non, Rd.isn_non, Rd.is_bl, Rd.isn_bl, Rd.is_int, Rd.isn_int, Rd.is_str, Rd.isn_str, Rd.is_tup, Rd.isn_tup, Rd.is_fl, Rd.isn_fl, Rd.is_ref, Rd.isn_ref, Rd.cm_lt, Rd.cm_le, Rd.cm_gt, Rd.cm_ge, Rd.ix_tup, Rd.ix_fl, Rd.ix_str, Rd.ix_ref, Rd.sl_tup, Rd.sl_str, Rd.sl_fl, Rd.sl_ref, Rd.ln_str, Rd.ln_tup, Rd.ln_fl, Rd.ln_ref, Rd.nt_int, Rd.nt_str, Rd.st_int, Rd.ab_int, Rd.od_str, Rd.mx_int, Rd.mn_int, Rd.dm_int, Rd.tp_seq, Rd.ls_seq, Rd.rp_any, Rd.bn_ii, Rd.bn_ss, Rd.bn_tt, Rd.bn_rr, Rd.bn_sub, Rd.bn_mul, Rd.bn_fdv, Rd.bn_mod, Rd.bn_pow, Rd.mt_app, Rd.mt_joi, Rd.mt_spl, Rd.mt_par, Rd.mt_rpa, Rd.my_split, Rd.my_partition, Rd.my_rpartition, Rd.my_count, Rd.my_find, Rd.my_rfind, Rd.my_join, Rd.my_app, Rd.ty_non_int, Rd.ty_non_str, Rd.ty_non_bool, Rd.ty_non_tuple, Rd.ty_non_list, Rd.ty_bl_int, Rd.ty_bl_str, Rd.ty_bl_bool, Rd.ty_bl_tuple, Rd.ty_bl_list, Rd.ty_int_int, Rd.ty_int_str, Rd.ty_int_bool, Rd.ty_int_tuple, Rd.ty_int_list, Rd.ty_str_int, Rd.ty_str_str, Rd.ty_str_bool, Rd.ty_str_tuple, Rd.ty_str_list, Rd.ty_tup_int, Rd.ty_tup_str, Rd.ty_tup_bool, Rd.ty_tup_tuple, Rd.ty_tup_list, Rd.ty_fl_int, Rd.ty_fl_str, Rd.ty_fl_bool, Rd.ty_fl_tuple, Rd.ty_fl_list, Rd.fm_str, Rd.fm_int, Rd.it_t, Rd.it_f, Rd.it_s, Rd.it_r, sl0, sl1, sl2, sl3, sl4, sl5, sl6, true_and, at0, at1, at2, in2, in3, ofS_inj, sl8]
  refine ⟨p, _, w, k + 40, rfl, hp, by decide, by decide, hw, fun r w1 _ _ hw1 => ?_⟩
  simp only [rB, rS, rE, rT, rO, rC, rX, rEs, rOX, rL, rWk, rG, rGs, rF, byT, lenT, endK, oflD, wipeD, List.getElem?_cons_zero, List.getElem?_cons_succ, List.set_cons_zero, List.set_cons_succ, Bool.not_true, Bool.not_false, Bool.false_eq_true, if_true, if_false, decide_true, decide_false, Bool.true_and, Bool.and_true, Bool.false_and, List.length_nil, List.length_cons, Nat.zero_add, Nat.reduceAdd, Rd.tr_bl, Rd.tr_non, Rd.tr_int, Rd.tr_str, Rd.tr_tup, Rd.tr_fl, Rd.tr_ref, Rd.eq_int, Rd.eq_str, Rd.eq_bl, Rd.sq_tup, Rd.sq_fl, Rd.sq_ref, Rd.cm_eq, Rd.cm_ne, Rd.cm_in, Rd.cm_ni, Rd.is_non, Rd.isn_non, Rd.is_bl, Rd.isn_bl, Rd.is_int, Rd.isn_int, Rd.is_str, Rd.isn_str, Rd.is_tup, Rd.isn_tup, Rd.is_fl, Rd.isn_fl, Rd.is_ref, Rd.isn_ref, Rd.cm_lt, Rd.cm_le, Rd.cm_gt, Rd.cm_ge, Rd.ix_tup, Rd.ix_fl, Rd.ix_str, Rd.ix_ref, Rd.sl_tup, Rd.sl_str, Rd.sl_fl, Rd.sl_ref, Rd.ln_str, Rd.ln_tup, Rd.ln_fl, Rd.ln_ref, Rd.nt_int, Rd.nt_str, Rd.st_int, Rd.ab_int, Rd.od_str, Rd.mx_int, Rd.mn_int, Rd.dm_int, Rd.tp_seq, Rd.ls_seq, Rd.rp_any, Rd.bn_ii, Rd.bn_ss, Rd.bn_tt, Rd.bn_rr, Rd.bn_sub, Rd.bn_mul, Rd.bn_fdv, Rd.bn_mod, Rd.bn_pow, Rd.mt_app, Rd.mt_joi, Rd.mt_spl, Rd.mt_par, Rd.mt_rpa, Rd.my_split, Rd.my_partition, Rd.my_rpartition, Rd.my_count, Rd.my_find, Rd.my_rfind, Rd.my_join, Rd.my_app, Rd.ty_non_int, Rd.ty_non_str, Rd.ty_non_bool, Rd.ty_non_tuple, Rd.ty_non_list, Rd.ty_bl_int, Rd.ty_bl_str, Rd.ty_bl_bool, Rd.ty_bl_tuple, Rd.ty_bl_list, Rd.ty_int_int, Rd.ty_int_str, Rd.ty_int_bool, Rd.ty_int_tuple, Rd.ty_int_list, Rd.ty_str_int, Rd.ty_str_str, Rd.ty_str_bool, Rd.ty_str_tuple, Rd.ty_str_list, Rd.ty_tup_int, Rd.ty_tup_str, Rd.ty_tup_bool, Rd.ty_tup_tuple, Rd.ty_tup_list, Rd.ty_fl_int, Rd.ty_fl_str, Rd.ty_fl_bool, Rd.ty_fl_tuple, Rd.ty_fl_list, Rd.fm_str, Rd.fm_int, Rd.it_t, Rd.it_f, Rd.it_s, Rd.it_r]
  split
  · refine ⟨p, _, w1, k, _, rfl, get_put hp, rfl, by simp, by simp, nofun, hw1.less (by omega), fun y hy w2 hw2 => ?_⟩
    rw [MH.put_put]
    have hy' : ∃ s : Str, y = .str s ∧ okPath s := by
      simp at hy
      rcases hy with rfl | rfl | rfl | rfl | rfl | rfl | rfl | rfl <;> exact ⟨_, rfl, path_of (by decide +kernel)⟩
    obtain ⟨s, rfl, hs⟩ := hy'
    exact drop_here (q s w2 hs hw2)
  · refine ⟨p, _, w1, k + 39, _, rfl, get_put hp, rfl, by simp, by simp, nofun, hw1, fun y hy w2 hw2 => ?_⟩
    rw [MH.put_put]
    have hy' : ∃ n : Nat, y = .int n ∧ n ≤ 39 := by
      simp at hy
      rcases hy with rfl | rfl | rfl | rfl | rfl | rfl | rfl <;> exact ⟨_, rfl, by decide⟩
    obtain ⟨n, rfl, n2⟩ := hy'
    simp only [rB, rS, rE, rT, rO, rC, rX, rEs, rOX, rL, rWk, rG, rGs, rF, byT, lenT, endK, oflD, wipeD, List.getElem?_cons_zero, List.getElem?_cons_succ, List.set_cons_zero, List.set_cons_succ, Bool.not_true, Bool.not_false, Bool.false_eq_true, if_true, if_false, decide_true, decide_false, Bool.true_and, Bool.and_true, Bool.false_and, List.length_nil, List.length_cons, Nat.zero_add, Nat.reduceAdd, Rd.tr_bl, Rd.tr_non, Rd.tr_int, Rd.tr_str, Rd.tr_tup, Rd.tr_fl, Rd.tr_ref, Rd.eq_int, Rd.eq_str, Rd.eq_bl, Rd.sq_tup, Rd.sq_fl, Rd.sq_ref, Rd.cm_eq, Rd.cm_ne, Rd.cm_in, Rd.cm_ni, Rd.is_non, Rd.isn_non, Rd.is_bl, Rd.isn_bl, Rd.is_int, Rd.isn_int, Rd.is_str, Rd.isn_str, Rd.is_tup, Rd.isn_tup, Rd.is_fl, Rd.isn_fl, Rd.is_ref, Rd.isn_ref, Rd.cm_lt, Rd.cm_le, Rd.cm_gt, Rd.cm_ge, Rd.ix_tup, Rd.ix_fl, Rd.ix_str, Rd.ix_ref, Rd.sl_tup, Rd.sl_str, Rd.sl_fl, Rd.sl_ref, Rd.ln_str, Rd.ln_tup, Rd.ln_fl, Rd.ln_ref, Rd.nt_int, Rd.nt_str, Rd.st_int, Rd.ab_int, Rd.od_str, Rd.mx_int, Rd.mn_int, Rd.dm_int, Rd.tp_seq, Rd.ls_seq, Rd.rp_any, Rd.bn_ii, Rd.bn_ss, Rd.bn_tt, Rd.bn_rr, Rd.bn_sub, Rd.bn_mul, Rd.bn_fdv, Rd.bn_mod, Rd.bn_pow, Rd.mt_app, Rd.mt_joi, Rd.mt_spl, Rd.mt_par, Rd.mt_rpa, Rd.my_split, Rd.my_partition, Rd.my_rpartition, Rd.my_count, Rd.my_find, Rd.my_rfind, Rd.my_join, Rd.my_app, Rd.ty_non_int, Rd.ty_non_str, Rd.ty_non_bool, Rd.ty_non_tuple, Rd.ty_non_list, Rd.ty_bl_int, Rd.ty_bl_str, Rd.ty_bl_bool, Rd.ty_bl_tuple, Rd.ty_bl_list, Rd.ty_int_int, Rd.ty_int_str, Rd.ty_int_bool, Rd.ty_int_tuple, Rd.ty_int_list, Rd.ty_str_int, Rd.ty_str_str, Rd.ty_str_bool, Rd.ty_str_tuple, Rd.ty_str_list, Rd.ty_tup_int, Rd.ty_tup_str, Rd.ty_tup_bool, Rd.ty_tup_tuple, Rd.ty_tup_list, Rd.ty_fl_int, Rd.ty_fl_str, Rd.ty_fl_bool, Rd.ty_fl_tuple, Rd.ty_fl_list, Rd.fm_str, Rd.fm_int, Rd.it_t, Rd.it_f, Rd.it_s, Rd.it_r]
    refine ⟨⟨by omega, by omega⟩, ?_⟩
    have hlen : (rangeD 0 (n : Int).toNat).length = n := by unfold rangeD; simp
    refine gather_draw (fun x => ∃ c, c ∈ tl (Str.ofString "-./0123456789_abcdefghijklmnopqrstuvwxyz") ∧ x = .str ⟨#[c]⟩) 1 _ k w2 (fun _ => trivial) (by rw [hlen]; exact sz _ (by omega)) ?_ (fun d hd k' w' hw' kk hk => ?_) fun acc w' hl hR hw' => ?_
    · rw [hlen]
      exact hw2.less (by omega)
    · refine ⟨p, _, w', k', _, rfl, get_put hp, ⟨by decide +kernel, rfl⟩, ?_, ?_, nofun, hw', fun y hy w'' hw'' => ?_⟩
      · show List.map _ (tl (Str.ofString "-./0123456789_abcdefghijklmnopqrstuvwxyz")) ≠ []
        rw [tl_signs]
        simp
      · show (List.map _ (tl (Str.ofString "-./0123456789_abcdefghijklmnopqrstuvwxyz"))).length ≤ _
        rw [tl_signs]
        simp
      · obtain ⟨c, hc, rfl⟩ := List.mem_map.mp hy
        rw [MH.put_put]
        exact hk _ w'' ⟨c, hc, rfl⟩ hw''
    · rw [hlen] at hl
      obtain ⟨cs, rfl, h1, h2⟩ := signs_of hR
      have ht := join_signs cs
      have e1 : tl (Str.ofString "/" ++ Txt.join (Str.ofString "") (cs.map fun c => (⟨#[c]⟩ : Str))) = 47 :: cs := by
        rw [tl_append, ht, str_slash]
        rfl
      have e2 : (Str.ofString "/" ++ Txt.join (Str.ofString "") (cs.map fun c => (⟨#[c]⟩ : Str))).length = cs.length + 1 := by
        rw [len_tl, e1]
        rfl
      refine ⟨_, rfl, fits_signs (n := 39) (by omega) (by omega), ?_, drop_here ?_⟩
      · rw [← len_app, e2]
        exact sz _ (by omega)
      · refine q _ w' ⟨⟨cs, e1⟩, by rw [e2]; omega, fun c hc => ?_⟩ hw'
        rw [e1] at hc
        rcases List.mem_cons.mp hc with rfl | hc
        · rw [tl_signs]
          decide
        · exact h1 c hc
theorem tl_marks : (tl (Str.ofString " !#$&'()*+,-./0123456789:;<=>?@ABCDEFGHIJKLMNOPQRSTUVWXYZ[]^_abcdefghijklmnopqrstuvwxyz{|}~")).all (fun c => decide (32 ≤ c) && decide (c ≤ 126)) = true ∧ (tl (Str.ofString " !#$&'()*+,-./0123456789:;<=>?@ABCDEFGHIJKLMNOPQRSTUVWXYZ[]^_abcdefghijklmnopqrstuvwxyz{|}~")).length = 91 := by decide +kernel
theorem pl__law_signs (ds : List D) (M : MH) (Q : KE) (h : sp__law_signs ds M Q fun _ _ => False) : rB E0 c__law_signs (endK Q) (startD n__law_signs.length ds) M := by
  obtain ⟨p, w, k, n, rfl, n2, hp, hw, q⟩ := h
  change rB E0 c__law_signs (endK Q) [some (.ref p), some (.int n), none, none] M
  simp only [c__law_signs, rB, rS, rE, rT, rO, rC, rX, rEs, rOX, rL, rWk, rG, rGs, rF, byT, lenT, endK, oflD, wipeD, List.getElem?_cons_zero, List.getElem?_cons_succ, List.set_cons_zero, List.set_cons_succ, Bool.not_true, Bool.not_false, Bool.false_eq_true, if_true, if_false, decide_true, decide_false, Bool.true_and, Bool.and_true, Bool.false_and, List.length_nil, List.length_cons, Nat.zero_add, Nat.reduceAdd, Rd.tr_bl, Rd.tr_non, Rd.tr_int, Rd.tr_str, Rd.tr_tup, Rd.tr_fl, Rd.tr_ref, Rd.eq_int, Rd.eq_str, Rd.eq_bl, Rd.sq_tup, Rd.sq_fl, Rd.sq_ref, Rd.cm_eq, Rd.cm_ne, Rd.cm_in, Rd.cm_ni, Rd.is_non, Rd.isn_non, Rd.is_bl, Rd.isn_bl, Rd.is_int, Rd.isn_int, Rd.is_str, Rd.isn_str, Rd.is_tup, Rd.isn_tup, Rd.is_fl, Rd.isn_fl, Rd.is_ref, Rd.isn_ref, Rd.cm_lt, Rd.cm_le, Rd.cm_gt, Rd.cm_ge, Rd.ix_tup, Rd.ix_fl, Rd.ix_str, Rd.ix_ref, Rd.sl_tup, Rd.sl_str, Rd.sl_fl, Rd.sl_ref, Rd.ln_str, Rd.ln_tup, Rd.ln_fl, Rd.ln_ref, Rd.nt_int, Rd.nt_str, Rd.st_int, Rd.ab_int, Rd.od_str, Rd.mx_int, Rd.mn_int, Rd.dm_int, Rd.tp_seq, Rd.ls_seq, Rd.rp_any, Rd.bn_ii, Rd.bn_ss, Rd.bn_tt, Rd.bn_rr, Rd.bn_sub, Rd.bn_mul, Rd.bn_fdv, Rd.bn_mod, Rd.bn_pow, Rd.mt_app, Rd.mt_joi, Rd.mt_spl, Rd.mt_par, Rd.mt_rpa, Rd.my_split, Rd.my_partition, Rd.my_rpartition, Rd.my_count, Rd.my_find, Rd.my_rfind, Rd.my_join, Rd.my_app, Rd.ty_non_int, Rd.ty_non_str, Rd.ty_non_bool, Rd.ty_non_tuple, Rd.ty_non_list, Rd.ty_bl_int, Rd.ty_bl_str, Rd.ty_bl_bool, Rd.ty_bl_tuple, Rd.ty_bl_list, Rd.ty_int_int, Rd.ty_int_str, Rd.ty_int_bool, Rd.ty_int_tuple, Rd.ty_int_list, Rd.ty_str_int, Rd.ty_str_str, Rd.ty_str_bool, Rd.ty_str_tuple, Rd.ty_str_list, Rd.ty_tup_int, Rd.ty_tup_str, Rd.ty_tup_bool, Rd.ty_tup_tuple, Rd.ty_tup_list, Rd.ty_fl_int, Rd.ty_fl_str, Rd.ty_fl_bool, Rd.ty_fl_tuple, Rd.ty_fl_list, Rd.fm_str, Rd.fm_int, Rd.it_t, Rd.it_f, Rd.it_s, Rd.it_r, sl0, sl1, sl2, sl3, sl4, sl5, sl6, true_and, at0, at1, at2, in2, in3, ofS_inj]
  refine ⟨⟨by omega, by omega⟩, ?_⟩
  have hlen : (rangeD 0 (n : Int).toNat).length = n := by unfold rangeD; simp
  have eM : M = M.put p (wl w) := (MH.put_id hp).symm
  rw [eM]
  obtain ⟨m1, m2⟩ := tl_marks
  refine gather_draw (fun x => ∃ c, (32 ≤ c ∧ c ≤ 126) ∧ x = .str ⟨#[c]⟩) 1 _ k w (fun _ => trivial) (by rw [hlen]; exact sz _ (by omega)) ?_ (fun d hd k' w' hw' kk hk => ?_) fun acc w' hl hR hw' => ?_
  · rw [hlen]
    exact hw.less (by omega)
  · refine ⟨p, _, w', k', _, rfl, get_put hp, ⟨by decide +kernel, rfl⟩, ?_, ?_, nofun, hw', fun y hy w'' hw'' => ?_⟩
    · intro z
      have := congrArg List.length z
      rw [List.length_map] at this
      have m2' := m2
      unfold tl at m2'
      rw [m2'] at this
      simp at this
    · rw [List.length_map]
      have m2' := m2
      unfold tl at m2'
      rw [m2']
      decide
    · obtain ⟨c, hc, rfl⟩ := List.mem_map.mp hy
      rw [MH.put_put]
      have := List.all_eq_true.mp m1 c hc
      simp only [Bool.and_eq_true, decide_eq_true_eq] at this
      exact hk _ w'' ⟨c, this, rfl⟩ hw''
  · rw [hlen] at hl
    obtain ⟨cs, rfl, h1, h2⟩ := signs_of hR
    have ht := join_signs cs
    refine ⟨_, rfl, fits_signs (n := 60) (by omega) (by omega), drop_here ?_⟩
    exact q _ w' (fun c hc => by rw [ht] at hc; exact h1 c hc) (by rw [len_tl, ht]; omega) hw'
theorem pl__law_line (ds : List D) (M : MH) (Q : KE) (h : sp__law_line ds M Q fun _ _ => False) : rB E0 c__law_line (endK Q) (startD n__law_line.length ds) M := by
  obtain ⟨⟨m, a, e⟩, rfl, ok, q⟩ := h
  change rB E0 c__law_line (endK Q) [some (.tup [.int m, adD a, evD e]), none, none, none, none, none] M
  obtain ⟨w1, w2⟩ := words_ok ok
  have lg := log_small ok.1
  have la : a.1.length + a.2.length ≤ sizeLine := by
    have := ad_len ok.2.1
    rw [show (adT a).length = a.1.length + a.2.length from len_app _ _] at this
    exact sz _ (by omega)
  have ea : adD a = .tup [.str a.1, .str a.2] := rfl
  simp only at lg
  rw [ea]
  have fits := join_fits (m := 16777216) (sep := Str.ofString " ") (fun w hw => (w1 w hw).2) w2 (by rw [blank_len]; decide)
  have single : ∀ (s : Str) (b : Ad), (s = "moved" ∨ s = "same") → okAd b → wordsT ⟨m, a, e⟩ = [numT m, s, adT a, adT b] → rB E0 c__law_line (endK Q) [some (.tup [.int m, .tup [.str a.1, .str a.2], .tup [.str s, .tup [.str b.1, .str b.2]]]), none, none, none, none, none] M := by
    intro s b hs hb hw
    have e1 : decide (s = Str.ofString "page") = false := by rcases hs with rfl | rfl <;> simp [ofS_inj]
    have lb : b.1.length + b.2.length ≤ sizeLine := by
      have := ad_len hb
      rw [show (adT b).length = b.1.length + b.2.length from len_app _ _] at this
      exact sz _ (by omega)
    simp only [c__law_line, rB, rS, rE, rT, rO, rC, rX, rEs, rOX, rL, rWk, rG, rGs, rF, byT, lenT, endK, oflD, wipeD, List.getElem?_cons_zero, List.getElem?_cons_succ, List.set_cons_zero, List.set_cons_succ, Bool.not_true, Bool.not_false, Bool.false_eq_true, if_true, if_false, decide_true, decide_false, Bool.true_and, Bool.and_true, Bool.false_and, List.length_nil, List.length_cons, Nat.zero_add, Nat.reduceAdd, Rd.tr_bl, Rd.tr_non, Rd.tr_int, Rd.tr_str, Rd.tr_tup, Rd.tr_fl, Rd.tr_ref, Rd.eq_int, Rd.eq_str, Rd.eq_bl, Rd.sq_tup, Rd.sq_fl, Rd.sq_ref, Rd.cm_eq, Rd.cm_ne, Rd.cm_in, Rd.cm_ni, Rd.is_non, Rd.isn_non, Rd.is_bl, Rd.isn_bl, Rd.is_int, Rd.isn_int, Rd.is_str, Rd.isn_str, Rd.is_tup, Rd.isn_tup, Rd.is_fl, Rd.isn_fl, Rd.is_ref, Rd.isn_ref, Rd.cm_lt, Rd.cm_le, Rd.cm_gt, Rd.cm_ge, Rd.ix_tup, Rd.ix_fl, Rd.ix_str, Rd.ix_ref, Rd.sl_tup, Rd.sl_str, Rd.sl_fl, Rd.sl_ref, Rd.ln_str, Rd.ln_tup, Rd.ln_fl, Rd.ln_ref, Rd.nt_int, Rd.nt_str, Rd.st_int, Rd.ab_int, Rd.od_str, Rd.mx_int, Rd.mn_int, Rd.dm_int, Rd.tp_seq, Rd.ls_seq, Rd.rp_any, Rd.bn_ii, Rd.bn_ss, Rd.bn_tt, Rd.bn_rr, Rd.bn_sub, Rd.bn_mul, Rd.bn_fdv, Rd.bn_mod, Rd.bn_pow, Rd.mt_app, Rd.mt_joi, Rd.mt_spl, Rd.mt_par, Rd.mt_rpa, Rd.my_split, Rd.my_partition, Rd.my_rpartition, Rd.my_count, Rd.my_find, Rd.my_rfind, Rd.my_join, Rd.my_app, Rd.ty_non_int, Rd.ty_non_str, Rd.ty_non_bool, Rd.ty_non_tuple, Rd.ty_non_list, Rd.ty_bl_int, Rd.ty_bl_str, Rd.ty_bl_bool, Rd.ty_bl_tuple, Rd.ty_bl_list, Rd.ty_int_int, Rd.ty_int_str, Rd.ty_int_bool, Rd.ty_int_tuple, Rd.ty_int_list, Rd.ty_str_int, Rd.ty_str_str, Rd.ty_str_bool, Rd.ty_str_tuple, Rd.ty_str_list, Rd.ty_tup_int, Rd.ty_tup_str, Rd.ty_tup_bool, Rd.ty_tup_tuple, Rd.ty_tup_list, Rd.ty_fl_int, Rd.ty_fl_str, Rd.ty_fl_bool, Rd.ty_fl_tuple, Rd.ty_fl_list, Rd.fm_str, Rd.fm_int, Rd.it_t, Rd.it_f, Rd.it_s, Rd.it_r, sl0, sl1, sl2, sl3, sl4, sl5, sl6, true_and, at0, at1, at2, in2, in3, ofS_inj, Option.some.injEq, exists_eq_left']
    refine ⟨lg, la, fun r hr _ => ?_⟩
    simp only [e1, rB, rS, rE, rT, rO, rC, rX, rEs, rOX, rL, rWk, rG, rGs, rF, byT, lenT, endK, oflD, wipeD, List.getElem?_cons_zero, List.getElem?_cons_succ, List.set_cons_zero, List.set_cons_succ, Bool.not_true, Bool.not_false, Bool.false_eq_true, if_true, if_false, decide_true, decide_false, Bool.true_and, Bool.and_true, Bool.false_and, List.length_nil, List.length_cons, Nat.zero_add, Nat.reduceAdd, Rd.tr_bl, Rd.tr_non, Rd.tr_int, Rd.tr_str, Rd.tr_tup, Rd.tr_fl, Rd.tr_ref, Rd.eq_int, Rd.eq_str, Rd.eq_bl, Rd.sq_tup, Rd.sq_fl, Rd.sq_ref, Rd.cm_eq, Rd.cm_ne, Rd.cm_in, Rd.cm_ni, Rd.is_non, Rd.isn_non, Rd.is_bl, Rd.isn_bl, Rd.is_int, Rd.isn_int, Rd.is_str, Rd.isn_str, Rd.is_tup, Rd.isn_tup, Rd.is_fl, Rd.isn_fl, Rd.is_ref, Rd.isn_ref, Rd.cm_lt, Rd.cm_le, Rd.cm_gt, Rd.cm_ge, Rd.ix_tup, Rd.ix_fl, Rd.ix_str, Rd.ix_ref, Rd.sl_tup, Rd.sl_str, Rd.sl_fl, Rd.sl_ref, Rd.ln_str, Rd.ln_tup, Rd.ln_fl, Rd.ln_ref, Rd.nt_int, Rd.nt_str, Rd.st_int, Rd.ab_int, Rd.od_str, Rd.mx_int, Rd.mn_int, Rd.dm_int, Rd.tp_seq, Rd.ls_seq, Rd.rp_any, Rd.bn_ii, Rd.bn_ss, Rd.bn_tt, Rd.bn_rr, Rd.bn_sub, Rd.bn_mul, Rd.bn_fdv, Rd.bn_mod, Rd.bn_pow, Rd.mt_app, Rd.mt_joi, Rd.mt_spl, Rd.mt_par, Rd.mt_rpa, Rd.my_split, Rd.my_partition, Rd.my_rpartition, Rd.my_count, Rd.my_find, Rd.my_rfind, Rd.my_join, Rd.my_app, Rd.ty_non_int, Rd.ty_non_str, Rd.ty_non_bool, Rd.ty_non_tuple, Rd.ty_non_list, Rd.ty_bl_int, Rd.ty_bl_str, Rd.ty_bl_bool, Rd.ty_bl_tuple, Rd.ty_bl_list, Rd.ty_int_int, Rd.ty_int_str, Rd.ty_int_bool, Rd.ty_int_tuple, Rd.ty_int_list, Rd.ty_str_int, Rd.ty_str_str, Rd.ty_str_bool, Rd.ty_str_tuple, Rd.ty_str_list, Rd.ty_tup_int, Rd.ty_tup_str, Rd.ty_tup_bool, Rd.ty_tup_tuple, Rd.ty_tup_list, Rd.ty_fl_int, Rd.ty_fl_str, Rd.ty_fl_bool, Rd.ty_fl_tuple, Rd.ty_fl_list, Rd.fm_str, Rd.fm_int, Rd.it_t, Rd.it_f, Rd.it_s, Rd.it_r, sl0, sl1, sl2, sl3, sl4, sl5, sl6, true_and, at0, at1, at2, in2, in3, ofS_inj, show decide (((2 : Nat) : Int) = 2) = true from rfl]
    refine ⟨⟨_, MH.get_same⟩, lb, _, MH.get_same, (by show 3 < sizeLine; decide), wordsT ⟨m, a, e⟩, ?_, fits, ?_⟩
    · rw [MH.put_same]
      simp only [Rd.sq_ref, MH.get_same, hw]
      rfl
    · rw [MH.put_same]
      exact drop_by (.new hr) q
  have plain : ∀ s : Str, (s = "ask" ∨ s = "lost" ∨ s = "cut" ∨ s = "gone") → wordsT ⟨m, a, e⟩ = [numT m, s, adT a] → rB E0 c__law_line (endK Q) [some (.tup [.int m, .tup [.str a.1, .str a.2], .tup [.str s]]), none, none, none, none, none] M := by
    intro s hs hw
    have e1 : decide (s = Str.ofString "page") = false := by rcases hs with rfl | rfl | rfl | rfl <;> simp [ofS_inj]
    simp only [c__law_line, rB, rS, rE, rT, rO, rC, rX, rEs, rOX, rL, rWk, rG, rGs, rF, byT, lenT, endK, oflD, wipeD, List.getElem?_cons_zero, List.getElem?_cons_succ, List.set_cons_zero, List.set_cons_succ, Bool.not_true, Bool.not_false, Bool.false_eq_true, if_true, if_false, decide_true, decide_false, Bool.true_and, Bool.and_true, Bool.false_and, List.length_nil, List.length_cons, Nat.zero_add, Nat.reduceAdd, Rd.tr_bl, Rd.tr_non, Rd.tr_int, Rd.tr_str, Rd.tr_tup, Rd.tr_fl, Rd.tr_ref, Rd.eq_int, Rd.eq_str, Rd.eq_bl, Rd.sq_tup, Rd.sq_fl, Rd.sq_ref, Rd.cm_eq, Rd.cm_ne, Rd.cm_in, Rd.cm_ni, Rd.is_non, Rd.isn_non, Rd.is_bl, Rd.isn_bl, Rd.is_int, Rd.isn_int, Rd.is_str, Rd.isn_str, Rd.is_tup, Rd.isn_tup, Rd.is_fl, Rd.isn_fl, Rd.is_ref, Rd.isn_ref, Rd.cm_lt, Rd.cm_le, Rd.cm_gt, Rd.cm_ge, Rd.ix_tup, Rd.ix_fl, Rd.ix_str, Rd.ix_ref, Rd.sl_tup, Rd.sl_str, Rd.sl_fl, Rd.sl_ref, Rd.ln_str, Rd.ln_tup, Rd.ln_fl, Rd.ln_ref, Rd.nt_int, Rd.nt_str, Rd.st_int, Rd.ab_int, Rd.od_str, Rd.mx_int, Rd.mn_int, Rd.dm_int, Rd.tp_seq, Rd.ls_seq, Rd.rp_any, Rd.bn_ii, Rd.bn_ss, Rd.bn_tt, Rd.bn_rr, Rd.bn_sub, Rd.bn_mul, Rd.bn_fdv, Rd.bn_mod, Rd.bn_pow, Rd.mt_app, Rd.mt_joi, Rd.mt_spl, Rd.mt_par, Rd.mt_rpa, Rd.my_split, Rd.my_partition, Rd.my_rpartition, Rd.my_count, Rd.my_find, Rd.my_rfind, Rd.my_join, Rd.my_app, Rd.ty_non_int, Rd.ty_non_str, Rd.ty_non_bool, Rd.ty_non_tuple, Rd.ty_non_list, Rd.ty_bl_int, Rd.ty_bl_str, Rd.ty_bl_bool, Rd.ty_bl_tuple, Rd.ty_bl_list, Rd.ty_int_int, Rd.ty_int_str, Rd.ty_int_bool, Rd.ty_int_tuple, Rd.ty_int_list, Rd.ty_str_int, Rd.ty_str_str, Rd.ty_str_bool, Rd.ty_str_tuple, Rd.ty_str_list, Rd.ty_tup_int, Rd.ty_tup_str, Rd.ty_tup_bool, Rd.ty_tup_tuple, Rd.ty_tup_list, Rd.ty_fl_int, Rd.ty_fl_str, Rd.ty_fl_bool, Rd.ty_fl_tuple, Rd.ty_fl_list, Rd.fm_str, Rd.fm_int, Rd.it_t, Rd.it_f, Rd.it_s, Rd.it_r, sl0, sl1, sl2, sl3, sl4, sl5, sl6, true_and, at0, at1, at2, in2, in3, ofS_inj, Option.some.injEq, exists_eq_left']
    refine ⟨lg, la, fun r hr _ => ?_⟩
    simp only [e1, rB, rS, rE, rT, rO, rC, rX, rEs, rOX, rL, rWk, rG, rGs, rF, byT, lenT, endK, oflD, wipeD, List.getElem?_cons_zero, List.getElem?_cons_succ, List.set_cons_zero, List.set_cons_succ, Bool.not_true, Bool.not_false, Bool.false_eq_true, if_true, if_false, decide_true, decide_false, Bool.true_and, Bool.and_true, Bool.false_and, List.length_nil, List.length_cons, Nat.zero_add, Nat.reduceAdd, Rd.tr_bl, Rd.tr_non, Rd.tr_int, Rd.tr_str, Rd.tr_tup, Rd.tr_fl, Rd.tr_ref, Rd.eq_int, Rd.eq_str, Rd.eq_bl, Rd.sq_tup, Rd.sq_fl, Rd.sq_ref, Rd.cm_eq, Rd.cm_ne, Rd.cm_in, Rd.cm_ni, Rd.is_non, Rd.isn_non, Rd.is_bl, Rd.isn_bl, Rd.is_int, Rd.isn_int, Rd.is_str, Rd.isn_str, Rd.is_tup, Rd.isn_tup, Rd.is_fl, Rd.isn_fl, Rd.is_ref, Rd.isn_ref, Rd.cm_lt, Rd.cm_le, Rd.cm_gt, Rd.cm_ge, Rd.ix_tup, Rd.ix_fl, Rd.ix_str, Rd.ix_ref, Rd.sl_tup, Rd.sl_str, Rd.sl_fl, Rd.sl_ref, Rd.ln_str, Rd.ln_tup, Rd.ln_fl, Rd.ln_ref, Rd.nt_int, Rd.nt_str, Rd.st_int, Rd.ab_int, Rd.od_str, Rd.mx_int, Rd.mn_int, Rd.dm_int, Rd.tp_seq, Rd.ls_seq, Rd.rp_any, Rd.bn_ii, Rd.bn_ss, Rd.bn_tt, Rd.bn_rr, Rd.bn_sub, Rd.bn_mul, Rd.bn_fdv, Rd.bn_mod, Rd.bn_pow, Rd.mt_app, Rd.mt_joi, Rd.mt_spl, Rd.mt_par, Rd.mt_rpa, Rd.my_split, Rd.my_partition, Rd.my_rpartition, Rd.my_count, Rd.my_find, Rd.my_rfind, Rd.my_join, Rd.my_app, Rd.ty_non_int, Rd.ty_non_str, Rd.ty_non_bool, Rd.ty_non_tuple, Rd.ty_non_list, Rd.ty_bl_int, Rd.ty_bl_str, Rd.ty_bl_bool, Rd.ty_bl_tuple, Rd.ty_bl_list, Rd.ty_int_int, Rd.ty_int_str, Rd.ty_int_bool, Rd.ty_int_tuple, Rd.ty_int_list, Rd.ty_str_int, Rd.ty_str_str, Rd.ty_str_bool, Rd.ty_str_tuple, Rd.ty_str_list, Rd.ty_tup_int, Rd.ty_tup_str, Rd.ty_tup_bool, Rd.ty_tup_tuple, Rd.ty_tup_list, Rd.ty_fl_int, Rd.ty_fl_str, Rd.ty_fl_bool, Rd.ty_fl_tuple, Rd.ty_fl_list, Rd.fm_str, Rd.fm_int, Rd.it_t, Rd.it_f, Rd.it_s, Rd.it_r, sl0, sl1, sl2, sl3, sl4, sl5, sl6, true_and, at0, at1, at2, in2, in3, ofS_inj, show decide (((1 : Nat) : Int) = 2) = false from rfl]
    refine ⟨wordsT ⟨m, a, e⟩, ?_, fits, ?_⟩
    · simp only [Rd.sq_ref, MH.get_same, hw]
      rfl
    · exact drop_by (.new hr) q
  cases e with
  | ask => exact plain "ask" (.inl rfl) rfl
  | lost => exact plain "lost" (.inr (.inl rfl)) rfl
  | cut => exact plain "cut" (.inr (.inr (.inl rfl))) rfl
  | gone => exact plain "gone" (.inr (.inr (.inr rfl))) rfl
  | moved b => exact single "moved" b (.inl rfl) ok.2.2 rfl
  | same b => exact single "same" b (.inr rfl) ok.2.2 rfl
  | page n ls =>
    have hls := ok.2.2
    change rB E0 c__law_line (endK Q) [some (.tup [.int m, .tup [.str a.1, .str a.2], .tup [.str "page", .int n, .tup (ls.map adD)]]), none, none, none, none, none] M
    have ln : (n : Int).natAbs.log2 < 1920 := log_small (by have := hls.1; omega)
    simp only [c__law_line, rB, rS, rE, rT, rO, rC, rX, rEs, rOX, rL, rWk, rG, rGs, rF, byT, lenT, endK, oflD, wipeD, List.getElem?_cons_zero, List.getElem?_cons_succ, List.set_cons_zero, List.set_cons_succ, Bool.not_true, Bool.not_false, Bool.false_eq_true, if_true, if_false, decide_true, decide_false, Bool.true_and, Bool.and_true, Bool.false_and, List.length_nil, List.length_cons, Nat.zero_add, Nat.reduceAdd, Rd.tr_bl, Rd.tr_non, Rd.tr_int, Rd.tr_str, Rd.tr_tup, Rd.tr_fl, Rd.tr_ref, Rd.eq_int, Rd.eq_str, Rd.eq_bl, Rd.sq_tup, Rd.sq_fl, Rd.sq_ref, Rd.cm_eq, Rd.cm_ne, Rd.cm_in, Rd.cm_ni, Rd.is_non, Rd.isn_non, Rd.is_bl, Rd.isn_bl, Rd.is_int, Rd.isn_int, Rd.is_str, Rd.isn_str, Rd.is_tup, Rd.isn_tup, Rd.is_fl, Rd.isn_fl, Rd.is_ref, Rd.isn_ref, Rd.cm_lt, Rd.cm_le, Rd.cm_gt, Rd.cm_ge, Rd.ix_tup, Rd.ix_fl, Rd.ix_str, Rd.ix_ref, Rd.sl_tup, Rd.sl_str, Rd.sl_fl, Rd.sl_ref, Rd.ln_str, Rd.ln_tup, Rd.ln_fl, Rd.ln_ref, Rd.nt_int, Rd.nt_str, Rd.st_int, Rd.ab_int, Rd.od_str, Rd.mx_int, Rd.mn_int, Rd.dm_int, Rd.tp_seq, Rd.ls_seq, Rd.rp_any, Rd.bn_ii, Rd.bn_ss, Rd.bn_tt, Rd.bn_rr, Rd.bn_sub, Rd.bn_mul, Rd.bn_fdv, Rd.bn_mod, Rd.bn_pow, Rd.mt_app, Rd.mt_joi, Rd.mt_spl, Rd.mt_par, Rd.mt_rpa, Rd.my_split, Rd.my_partition, Rd.my_rpartition, Rd.my_count, Rd.my_find, Rd.my_rfind, Rd.my_join, Rd.my_app, Rd.ty_non_int, Rd.ty_non_str, Rd.ty_non_bool, Rd.ty_non_tuple, Rd.ty_non_list, Rd.ty_bl_int, Rd.ty_bl_str, Rd.ty_bl_bool, Rd.ty_bl_tuple, Rd.ty_bl_list, Rd.ty_int_int, Rd.ty_int_str, Rd.ty_int_bool, Rd.ty_int_tuple, Rd.ty_int_list, Rd.ty_str_int, Rd.ty_str_str, Rd.ty_str_bool, Rd.ty_str_tuple, Rd.ty_str_list, Rd.ty_tup_int, Rd.ty_tup_str, Rd.ty_tup_bool, Rd.ty_tup_tuple, Rd.ty_tup_list, Rd.ty_fl_int, Rd.ty_fl_str, Rd.ty_fl_bool, Rd.ty_fl_tuple, Rd.ty_fl_list, Rd.fm_str, Rd.fm_int, Rd.it_t, Rd.it_f, Rd.it_s, Rd.it_r, sl0, sl1, sl2, sl3, sl4, sl5, sl6, true_and, at0, at1, at2, in2, in3, ofS_inj, Option.some.injEq, exists_eq_left']
    refine ⟨lg, la, fun r hr _ => ?_⟩
    refine ⟨ln, fun r2 hr2 _ => ?_⟩
    refine ⟨_, _, get_old MH.get_same hr2, MH.get_same, (by show 4 ≤ sizeLine; decide), fun r3 hr3 => ?_⟩
    refine gather_over ls adD (fun a => D.str (adT a)) trivial (sz _ (by have := hls.2.1; omega)) (fun b hb kk hk => ?_) ?_
    · have lb : b.1.length + b.2.length ≤ sizeLine := by
        have := ad_len (hls.2.2 b hb)
        rw [show (adT b).length = b.1.length + b.2.length from len_app _ _] at this
        exact sz _ (by omega)
      have eb : adD b = .tup [.str b.1, .str b.2] := rfl
      rw [eb]
      simp only [rB, rS, rE, rT, rO, rC, rX, rEs, rOX, rL, rWk, rG, rGs, rF, byT, lenT, endK, oflD, wipeD, List.getElem?_cons_zero, List.getElem?_cons_succ, List.set_cons_zero, List.set_cons_succ, Bool.not_true, Bool.not_false, Bool.false_eq_true, if_true, if_false, decide_true, decide_false, Bool.true_and, Bool.and_true, Bool.false_and, List.length_nil, List.length_cons, Nat.zero_add, Nat.reduceAdd, Rd.tr_bl, Rd.tr_non, Rd.tr_int, Rd.tr_str, Rd.tr_tup, Rd.tr_fl, Rd.tr_ref, Rd.eq_int, Rd.eq_str, Rd.eq_bl, Rd.sq_tup, Rd.sq_fl, Rd.sq_ref, Rd.cm_eq, Rd.cm_ne, Rd.cm_in, Rd.cm_ni, Rd.is_non, Rd.isn_non, Rd.is_bl, Rd.isn_bl, Rd.is_int, Rd.isn_int, Rd.is_str, Rd.isn_str, Rd.is_tup, Rd.isn_tup, Rd.is_fl, Rd.isn_fl, Rd.is_ref, Rd.isn_ref, Rd.cm_lt, Rd.cm_le, Rd.cm_gt, Rd.cm_ge, Rd.ix_tup, Rd.ix_fl, Rd.ix_str, Rd.ix_ref, Rd.sl_tup, Rd.sl_str, Rd.sl_fl, Rd.sl_ref, Rd.ln_str, Rd.ln_tup, Rd.ln_fl, Rd.ln_ref, Rd.nt_int, Rd.nt_str, Rd.st_int, Rd.ab_int, Rd.od_str, Rd.mx_int, Rd.mn_int, Rd.dm_int, Rd.tp_seq, Rd.ls_seq, Rd.rp_any, Rd.bn_ii, Rd.bn_ss, Rd.bn_tt, Rd.bn_rr, Rd.bn_sub, Rd.bn_mul, Rd.bn_fdv, Rd.bn_mod, Rd.bn_pow, Rd.mt_app, Rd.mt_joi, Rd.mt_spl, Rd.mt_par, Rd.mt_rpa, Rd.my_split, Rd.my_partition, Rd.my_rpartition, Rd.my_count, Rd.my_find, Rd.my_rfind, Rd.my_join, Rd.my_app, Rd.ty_non_int, Rd.ty_non_str, Rd.ty_non_bool, Rd.ty_non_tuple, Rd.ty_non_list, Rd.ty_bl_int, Rd.ty_bl_str, Rd.ty_bl_bool, Rd.ty_bl_tuple, Rd.ty_bl_list, Rd.ty_int_int, Rd.ty_int_str, Rd.ty_int_bool, Rd.ty_int_tuple, Rd.ty_int_list, Rd.ty_str_int, Rd.ty_str_str, Rd.ty_str_bool, Rd.ty_str_tuple, Rd.ty_str_list, Rd.ty_tup_int, Rd.ty_tup_str, Rd.ty_tup_bool, Rd.ty_tup_tuple, Rd.ty_tup_list, Rd.ty_fl_int, Rd.ty_fl_str, Rd.ty_fl_bool, Rd.ty_fl_tuple, Rd.ty_fl_list, Rd.fm_str, Rd.fm_int, Rd.it_t, Rd.it_f, Rd.it_s, Rd.it_r, sl0, sl1, sl2, sl3, sl4, sl5, sl6, true_and, at0, at1, at2, in2, in3, ofS_inj, Option.some.injEq, exists_eq_left']
      exact ⟨lb, hk⟩
    · intro r4 hr4 _
      refine ⟨_, _, get_old MH.get_same hr4, MH.get_same, ?_, fun r5 hr5 => ?_⟩
      · rw [List.length_map]
        refine sz _ ?_
        have := hls.2.1
        show 4 + ls.length ≤ _
        omega
      · refine ⟨wordsT ⟨m, a, .page n ls⟩, ?_, fits, ?_⟩
        · simp only [Rd.sq_ref, MH.get_same]
          show _ = D.str (numT m) :: D.str "page" :: D.str (adT a) :: D.str (numT n) :: (ls.map adT).map D.str
          rw [List.map_map]
          rfl
        · exact drop_by (((((SubM.new hr).trans (.new hr2)).trans (.new hr3)).trans (.new hr4)).trans (.new hr5)) q
end Jn
namespace Jn
open PySem PySem.Spec PyProof.Rows L2 Mx TL
theorem sumS_app : ∀ (a b : List Nat) (k : Nat), sumS k (a ++ b) = sumS k a + sumS (k + a.length) b
  | [], b, k => by simp [sumS]
  | c :: a, b, k => by
    show _ + sumS (k + 1) (a ++ b) = _ + sumS (k + 1) a + _
    rw [sumS_app a b (k + 1), List.length_cons, show k + 1 + a.length = k + (a.length + 1) by omega]
    omega
theorem pl__law_seal (ds : List D) (M : MH) (Q : KE) (h : sp__law_seal ds M Q fun _ _ => False) : rB E0 c__law_seal (endK Q) (startD n__law_seal.length ds) M := by
  obtain ⟨t, rfl, hl, hb, q⟩ := h
  change rB E0 c__law_seal (endK Q) [some (.str t), none, none] M
  have hz : t.length ≤ sizeLine := sz _ (by omega)
  simp only [c__law_seal, rB, rS, rE, rT, rO, rC, rX, rEs, rOX, rL, rWk, rG, rGs, rF, byT, lenT, endK, oflD, wipeD, List.getElem?_cons_zero, List.getElem?_cons_succ, List.set_cons_zero, List.set_cons_succ, Bool.not_true, Bool.not_false, Bool.false_eq_true, if_true, if_false, decide_true, decide_false, Bool.true_and, Bool.and_true, Bool.false_and, List.length_nil, List.length_cons, Nat.zero_add, Nat.reduceAdd, Rd.tr_bl, Rd.tr_non, Rd.tr_int, Rd.tr_str, Rd.tr_tup, Rd.tr_fl, Rd.tr_ref, Rd.eq_int, Rd.eq_str, Rd.eq_bl, Rd.sq_tup, Rd.sq_fl, Rd.sq_ref, Rd.cm_eq, Rd.cm_ne, Rd.cm_in, Rd.cm_ni, Rd.is_non, Rd.isn_non, Rd.is_bl, Rd.isn_bl, Rd.is_int, Rd.isn_int, Rd.is_str, Rd.isn_str, Rd.is_tup, Rd.isn_tup, Rd.is_fl, Rd.isn_fl, Rd.is_ref, Rd.isn_ref, Rd.cm_lt, Rd.cm_le, Rd.cm_gt, Rd.cm_ge, Rd.ix_tup, Rd.ix_fl, Rd.ix_str, Rd.ix_ref, Rd.sl_tup, Rd.sl_str, Rd.sl_fl, Rd.sl_ref, Rd.ln_str, Rd.ln_tup, Rd.ln_fl, Rd.ln_ref, Rd.nt_int, Rd.nt_str, Rd.st_int, Rd.ab_int, Rd.od_str, Rd.mx_int, Rd.mn_int, Rd.dm_int, Rd.tp_seq, Rd.ls_seq, Rd.rp_any, Rd.bn_ii, Rd.bn_ss, Rd.bn_tt, Rd.bn_rr, Rd.bn_sub, Rd.bn_mul, Rd.bn_fdv, Rd.bn_mod, Rd.bn_pow, Rd.mt_app, Rd.mt_joi, Rd.mt_spl, Rd.mt_par, Rd.mt_rpa, Rd.my_split, Rd.my_partition, Rd.my_rpartition, Rd.my_count, Rd.my_find, Rd.my_rfind, Rd.my_join, Rd.my_app, Rd.ty_non_int, Rd.ty_non_str, Rd.ty_non_bool, Rd.ty_non_tuple, Rd.ty_non_list, Rd.ty_bl_int, Rd.ty_bl_str, Rd.ty_bl_bool, Rd.ty_bl_tuple, Rd.ty_bl_list, Rd.ty_int_int, Rd.ty_int_str, Rd.ty_int_bool, Rd.ty_int_tuple, Rd.ty_int_list, Rd.ty_str_int, Rd.ty_str_str, Rd.ty_str_bool, Rd.ty_str_tuple, Rd.ty_str_list, Rd.ty_tup_int, Rd.ty_tup_str, Rd.ty_tup_bool, Rd.ty_tup_tuple, Rd.ty_tup_list, Rd.ty_fl_int, Rd.ty_fl_str, Rd.ty_fl_bool, Rd.ty_fl_tuple, Rd.ty_fl_list, Rd.fm_str, Rd.fm_int, Rd.it_t, Rd.it_f, Rd.it_s, Rd.it_r, sl0, sl1, sl2, sl3, sl4, sl5, sl6, true_and, at0, at1, at2, in2, in3, ofS_inj, hz]
  refine ⟨⟨by omega, by omega⟩, ?_⟩
  have e1 : ((t.length : Nat) : Int).toNat = t.length := by omega
  rw [e1]
  have hlt : t.length = (tl t).length := len_tl t
  refine walk_by (fun ds σ M' => ∃ i, ds = (rangeD 0 t.length).drop i ∧ i ≤ t.length ∧ M' = M ∧ ∃ x, σ = [some (.str t), some (.int (sumS 0 ((tl t).take i))), x])
    (fun σ M' ⟨i, e, hi, eM, x, eσ⟩ => ?_) (fun d ds σ M' ⟨i, e, hi, eM, x, eσ⟩ => ?_) _ _ _ ⟨0, rfl, Nat.zero_le _, rfl, none, rfl⟩
  · subst eM eσ
    have hi2 : t.length ≤ i := by
      have := congrArg List.length e
      rw [List.length_drop] at this
      unfold rangeD at this
      simp only [List.length_nil, List.length_map, List.length_range] at this
      omega
    refine ⟨trivial, ?_⟩
    simp only [rB, rS, rE, rT, rO, rC, rX, rEs, rOX, rL, rWk, rG, rGs, rF, byT, lenT, endK, oflD, wipeD, List.getElem?_cons_zero, List.getElem?_cons_succ, List.set_cons_zero, List.set_cons_succ, Bool.not_true, Bool.not_false, Bool.false_eq_true, if_true, if_false, decide_true, decide_false, Bool.true_and, Bool.and_true, Bool.false_and, List.length_nil, List.length_cons, Nat.zero_add, Nat.reduceAdd, Rd.tr_bl, Rd.tr_non, Rd.tr_int, Rd.tr_str, Rd.tr_tup, Rd.tr_fl, Rd.tr_ref, Rd.eq_int, Rd.eq_str, Rd.eq_bl, Rd.sq_tup, Rd.sq_fl, Rd.sq_ref, Rd.cm_eq, Rd.cm_ne, Rd.cm_in, Rd.cm_ni, Rd.is_non, Rd.isn_non, Rd.is_bl, Rd.isn_bl, Rd.is_int, Rd.isn_int, Rd.is_str, Rd.isn_str, Rd.is_tup, Rd.isn_tup, Rd.is_fl, Rd.isn_fl, Rd.is_ref, Rd.isn_ref, Rd.cm_lt, Rd.cm_le, Rd.cm_gt, Rd.cm_ge, Rd.ix_tup, Rd.ix_fl, Rd.ix_str, Rd.ix_ref, Rd.sl_tup, Rd.sl_str, Rd.sl_fl, Rd.sl_ref, Rd.ln_str, Rd.ln_tup, Rd.ln_fl, Rd.ln_ref, Rd.nt_int, Rd.nt_str, Rd.st_int, Rd.ab_int, Rd.od_str, Rd.mx_int, Rd.mn_int, Rd.dm_int, Rd.tp_seq, Rd.ls_seq, Rd.rp_any, Rd.bn_ii, Rd.bn_ss, Rd.bn_tt, Rd.bn_rr, Rd.bn_sub, Rd.bn_mul, Rd.bn_fdv, Rd.bn_mod, Rd.bn_pow, Rd.mt_app, Rd.mt_joi, Rd.mt_spl, Rd.mt_par, Rd.mt_rpa, Rd.my_split, Rd.my_partition, Rd.my_rpartition, Rd.my_count, Rd.my_find, Rd.my_rfind, Rd.my_join, Rd.my_app, Rd.ty_non_int, Rd.ty_non_str, Rd.ty_non_bool, Rd.ty_non_tuple, Rd.ty_non_list, Rd.ty_bl_int, Rd.ty_bl_str, Rd.ty_bl_bool, Rd.ty_bl_tuple, Rd.ty_bl_list, Rd.ty_int_int, Rd.ty_int_str, Rd.ty_int_bool, Rd.ty_int_tuple, Rd.ty_int_list, Rd.ty_str_int, Rd.ty_str_str, Rd.ty_str_bool, Rd.ty_str_tuple, Rd.ty_str_list, Rd.ty_tup_int, Rd.ty_tup_str, Rd.ty_tup_bool, Rd.ty_tup_tuple, Rd.ty_tup_list, Rd.ty_fl_int, Rd.ty_fl_str, Rd.ty_fl_bool, Rd.ty_fl_tuple, Rd.ty_fl_list, Rd.fm_str, Rd.fm_int, Rd.it_t, Rd.it_f, Rd.it_s, Rd.it_r, sl0, sl1, sl2, sl3, sl4, sl5, sl6, true_and, at0, at1, at2, in2, in3, ofS_inj]
    rw [List.take_of_length_le (by omega)]
    exact ⟨by decide, drop_here q⟩
  · subst eM eσ
    obtain ⟨hlt2, rfl, rfl⟩ := range_drop e
    refine ⟨trivial, fun next hn => ?_⟩
    have hi3 : i < (tl t).length := by omega
    have gr : t.cps.toList[i]? = some (tl t)[i] := List.getElem?_eq_getElem hi3
    have hc := hb _ (List.getElem_mem hi3)
    simp only [rB, rS, rE, rT, rO, rC, rX, rEs, rOX, rL, rWk, rG, rGs, rF, byT, lenT, endK, oflD, wipeD, List.getElem?_cons_zero, List.getElem?_cons_succ, List.set_cons_zero, List.set_cons_succ, Bool.not_true, Bool.not_false, Bool.false_eq_true, if_true, if_false, decide_true, decide_false, Bool.true_and, Bool.and_true, Bool.false_and, List.length_nil, List.length_cons, Nat.zero_add, Nat.reduceAdd, Rd.tr_bl, Rd.tr_non, Rd.tr_int, Rd.tr_str, Rd.tr_tup, Rd.tr_fl, Rd.tr_ref, Rd.eq_int, Rd.eq_str, Rd.eq_bl, Rd.sq_tup, Rd.sq_fl, Rd.sq_ref, Rd.cm_eq, Rd.cm_ne, Rd.cm_in, Rd.cm_ni, Rd.is_non, Rd.isn_non, Rd.is_bl, Rd.isn_bl, Rd.is_int, Rd.isn_int, Rd.is_str, Rd.isn_str, Rd.is_tup, Rd.isn_tup, Rd.is_fl, Rd.isn_fl, Rd.is_ref, Rd.isn_ref, Rd.cm_lt, Rd.cm_le, Rd.cm_gt, Rd.cm_ge, Rd.ix_tup, Rd.ix_fl, Rd.ix_str, Rd.ix_ref, Rd.sl_tup, Rd.sl_str, Rd.sl_fl, Rd.sl_ref, Rd.ln_str, Rd.ln_tup, Rd.ln_fl, Rd.ln_ref, Rd.nt_int, Rd.nt_str, Rd.st_int, Rd.ab_int, Rd.od_str, Rd.mx_int, Rd.mn_int, Rd.dm_int, Rd.tp_seq, Rd.ls_seq, Rd.rp_any, Rd.bn_ii, Rd.bn_ss, Rd.bn_tt, Rd.bn_rr, Rd.bn_sub, Rd.bn_mul, Rd.bn_fdv, Rd.bn_mod, Rd.bn_pow, Rd.mt_app, Rd.mt_joi, Rd.mt_spl, Rd.mt_par, Rd.mt_rpa, Rd.my_split, Rd.my_partition, Rd.my_rpartition, Rd.my_count, Rd.my_find, Rd.my_rfind, Rd.my_join, Rd.my_app, Rd.ty_non_int, Rd.ty_non_str, Rd.ty_non_bool, Rd.ty_non_tuple, Rd.ty_non_list, Rd.ty_bl_int, Rd.ty_bl_str, Rd.ty_bl_bool, Rd.ty_bl_tuple, Rd.ty_bl_list, Rd.ty_int_int, Rd.ty_int_str, Rd.ty_int_bool, Rd.ty_int_tuple, Rd.ty_int_list, Rd.ty_str_int, Rd.ty_str_str, Rd.ty_str_bool, Rd.ty_str_tuple, Rd.ty_str_list, Rd.ty_tup_int, Rd.ty_tup_str, Rd.ty_tup_bool, Rd.ty_tup_tuple, Rd.ty_tup_list, Rd.ty_fl_int, Rd.ty_fl_str, Rd.ty_fl_bool, Rd.ty_fl_tuple, Rd.ty_fl_list, Rd.fm_str, Rd.fm_int, Rd.it_t, Rd.it_f, Rd.it_s, Rd.it_r, sl0, sl1, sl2, sl3, sl4, sl5, sl6, true_and, at0, at1, at2, in2, in3, ofS_inj, hz, atI_nat, gr, Option.some.injEq, exists_eq_left']
    refine ⟨rfl, mulx_ok (a := 20) (b := 21) (by omega) (by show (((tl t)[i] : Nat) : Int).natAbs < 2 ^ 21; rw [Int.natAbs_natCast]; exact hc) (by decide), ?_⟩
    refine hn _ _ ⟨i + 1, rfl, hlt2, rfl, some (.int i), ?_⟩
    rw [List.take_succ, gr, sumS_app, List.length_take, Nat.min_eq_left (by omega)]
    simp [sumS]
theorem pl__law_sealed (ds : List D) (M : MH) (Q : KE) (h : sp__law_sealed ds M Q fun _ _ => False) : rB E0 c__law_sealed (endK Q) (startD n__law_sealed.length ds) M := by
  obtain ⟨i, r, rfl, hi, ok, q⟩ := h
  change rB E0 c__law_sealed (endK Q) [some (.int i), some (rowD r), none] M
  obtain ⟨l1, l2⟩ := line_ok ok
  obtain ⟨h1, h2⟩ := head_ok hi ok
  have hn : (Str.ofString (toString (i : Int))).length ≤ 12 := (num_len (n := i) (by omega)).2
  obtain ⟨n, en, hn2⟩ := seal_nat (headT i r)
  have hm : (Str.ofString (toString (n : Int))).length ≤ 12 := (num_len (n := n) (by omega)).2
  simp only [c__law_sealed, rB, rS, rE, rT, rO, rC, rX, rEs, rOX, rL, rWk, rG, rGs, rF, byT, lenT, endK, oflD, wipeD, List.getElem?_cons_zero, List.getElem?_cons_succ, List.set_cons_zero, List.set_cons_succ, Bool.not_true, Bool.not_false, Bool.false_eq_true, if_true, if_false, decide_true, decide_false, Bool.true_and, Bool.and_true, Bool.false_and, List.length_nil, List.length_cons, Nat.zero_add, Nat.reduceAdd, Rd.tr_bl, Rd.tr_non, Rd.tr_int, Rd.tr_str, Rd.tr_tup, Rd.tr_fl, Rd.tr_ref, Rd.eq_int, Rd.eq_str, Rd.eq_bl, Rd.sq_tup, Rd.sq_fl, Rd.sq_ref, Rd.cm_eq, Rd.cm_ne, Rd.cm_in, Rd.cm_ni, Rd.is_non, Rd.isn_non, Rd.is_bl, Rd.isn_bl, Rd.is_int, Rd.isn_int, Rd.is_str, Rd.isn_str, Rd.is_tup, Rd.isn_tup, Rd.is_fl, Rd.isn_fl, Rd.is_ref, Rd.isn_ref, Rd.cm_lt, Rd.cm_le, Rd.cm_gt, Rd.cm_ge, Rd.ix_tup, Rd.ix_fl, Rd.ix_str, Rd.ix_ref, Rd.sl_tup, Rd.sl_str, Rd.sl_fl, Rd.sl_ref, Rd.ln_str, Rd.ln_tup, Rd.ln_fl, Rd.ln_ref, Rd.nt_int, Rd.nt_str, Rd.st_int, Rd.ab_int, Rd.od_str, Rd.mx_int, Rd.mn_int, Rd.dm_int, Rd.tp_seq, Rd.ls_seq, Rd.rp_any, Rd.bn_ii, Rd.bn_ss, Rd.bn_tt, Rd.bn_rr, Rd.bn_sub, Rd.bn_mul, Rd.bn_fdv, Rd.bn_mod, Rd.bn_pow, Rd.mt_app, Rd.mt_joi, Rd.mt_spl, Rd.mt_par, Rd.mt_rpa, Rd.my_split, Rd.my_partition, Rd.my_rpartition, Rd.my_count, Rd.my_find, Rd.my_rfind, Rd.my_join, Rd.my_app, Rd.ty_non_int, Rd.ty_non_str, Rd.ty_non_bool, Rd.ty_non_tuple, Rd.ty_non_list, Rd.ty_bl_int, Rd.ty_bl_str, Rd.ty_bl_bool, Rd.ty_bl_tuple, Rd.ty_bl_list, Rd.ty_int_int, Rd.ty_int_str, Rd.ty_int_bool, Rd.ty_int_tuple, Rd.ty_int_list, Rd.ty_str_int, Rd.ty_str_str, Rd.ty_str_bool, Rd.ty_str_tuple, Rd.ty_str_list, Rd.ty_tup_int, Rd.ty_tup_str, Rd.ty_tup_bool, Rd.ty_tup_tuple, Rd.ty_tup_list, Rd.ty_fl_int, Rd.ty_fl_str, Rd.ty_fl_bool, Rd.ty_fl_tuple, Rd.ty_fl_list, Rd.fm_str, Rd.fm_int, Rd.it_t, Rd.it_f, Rd.it_s, Rd.it_r, sl0, sl1, sl2, sl3, sl4, sl5, sl6, true_and, at0, at1, at2, in2, in3, ofS_inj, len_app, blank_len, feed_len]
  refine ⟨log_small (by omega), sz _ (by omega), r, rfl, ok, ?_⟩
  simp only [rB, rS, rE, rT, rO, rC, rX, rEs, rOX, rL, rWk, rG, rGs, rF, byT, lenT, endK, oflD, wipeD, List.getElem?_cons_zero, List.getElem?_cons_succ, List.set_cons_zero, List.set_cons_succ, Bool.not_true, Bool.not_false, Bool.false_eq_true, if_true, if_false, decide_true, decide_false, Bool.true_and, Bool.and_true, Bool.false_and, List.length_nil, List.length_cons, Nat.zero_add, Nat.reduceAdd, Rd.tr_bl, Rd.tr_non, Rd.tr_int, Rd.tr_str, Rd.tr_tup, Rd.tr_fl, Rd.tr_ref, Rd.eq_int, Rd.eq_str, Rd.eq_bl, Rd.sq_tup, Rd.sq_fl, Rd.sq_ref, Rd.cm_eq, Rd.cm_ne, Rd.cm_in, Rd.cm_ni, Rd.is_non, Rd.isn_non, Rd.is_bl, Rd.isn_bl, Rd.is_int, Rd.isn_int, Rd.is_str, Rd.isn_str, Rd.is_tup, Rd.isn_tup, Rd.is_fl, Rd.isn_fl, Rd.is_ref, Rd.isn_ref, Rd.cm_lt, Rd.cm_le, Rd.cm_gt, Rd.cm_ge, Rd.ix_tup, Rd.ix_fl, Rd.ix_str, Rd.ix_ref, Rd.sl_tup, Rd.sl_str, Rd.sl_fl, Rd.sl_ref, Rd.ln_str, Rd.ln_tup, Rd.ln_fl, Rd.ln_ref, Rd.nt_int, Rd.nt_str, Rd.st_int, Rd.ab_int, Rd.od_str, Rd.mx_int, Rd.mn_int, Rd.dm_int, Rd.tp_seq, Rd.ls_seq, Rd.rp_any, Rd.bn_ii, Rd.bn_ss, Rd.bn_tt, Rd.bn_rr, Rd.bn_sub, Rd.bn_mul, Rd.bn_fdv, Rd.bn_mod, Rd.bn_pow, Rd.mt_app, Rd.mt_joi, Rd.mt_spl, Rd.mt_par, Rd.mt_rpa, Rd.my_split, Rd.my_partition, Rd.my_rpartition, Rd.my_count, Rd.my_find, Rd.my_rfind, Rd.my_join, Rd.my_app, Rd.ty_non_int, Rd.ty_non_str, Rd.ty_non_bool, Rd.ty_non_tuple, Rd.ty_non_list, Rd.ty_bl_int, Rd.ty_bl_str, Rd.ty_bl_bool, Rd.ty_bl_tuple, Rd.ty_bl_list, Rd.ty_int_int, Rd.ty_int_str, Rd.ty_int_bool, Rd.ty_int_tuple, Rd.ty_int_list, Rd.ty_str_int, Rd.ty_str_str, Rd.ty_str_bool, Rd.ty_str_tuple, Rd.ty_str_list, Rd.ty_tup_int, Rd.ty_tup_str, Rd.ty_tup_bool, Rd.ty_tup_tuple, Rd.ty_tup_list, Rd.ty_fl_int, Rd.ty_fl_str, Rd.ty_fl_bool, Rd.ty_fl_tuple, Rd.ty_fl_list, Rd.fm_str, Rd.fm_int, Rd.it_t, Rd.it_f, Rd.it_s, Rd.it_r, len_app, blank_len]
  refine ⟨sz _ (by omega), sz _ (by omega), headT i r, rfl, by omega, fun c hc => by have := h1 c hc; omega, ?_⟩
  rw [en]
  simp only [rB, rS, rE, rT, rO, rC, rX, rEs, rOX, rL, rWk, rG, rGs, rF, byT, lenT, endK, oflD, wipeD, List.getElem?_cons_zero, List.getElem?_cons_succ, List.set_cons_zero, List.set_cons_succ, Bool.not_true, Bool.not_false, Bool.false_eq_true, if_true, if_false, decide_true, decide_false, Bool.true_and, Bool.and_true, Bool.false_and, List.length_nil, List.length_cons, Nat.zero_add, Nat.reduceAdd, Rd.tr_bl, Rd.tr_non, Rd.tr_int, Rd.tr_str, Rd.tr_tup, Rd.tr_fl, Rd.tr_ref, Rd.eq_int, Rd.eq_str, Rd.eq_bl, Rd.sq_tup, Rd.sq_fl, Rd.sq_ref, Rd.cm_eq, Rd.cm_ne, Rd.cm_in, Rd.cm_ni, Rd.is_non, Rd.isn_non, Rd.is_bl, Rd.isn_bl, Rd.is_int, Rd.isn_int, Rd.is_str, Rd.isn_str, Rd.is_tup, Rd.isn_tup, Rd.is_fl, Rd.isn_fl, Rd.is_ref, Rd.isn_ref, Rd.cm_lt, Rd.cm_le, Rd.cm_gt, Rd.cm_ge, Rd.ix_tup, Rd.ix_fl, Rd.ix_str, Rd.ix_ref, Rd.sl_tup, Rd.sl_str, Rd.sl_fl, Rd.sl_ref, Rd.ln_str, Rd.ln_tup, Rd.ln_fl, Rd.ln_ref, Rd.nt_int, Rd.nt_str, Rd.st_int, Rd.ab_int, Rd.od_str, Rd.mx_int, Rd.mn_int, Rd.dm_int, Rd.tp_seq, Rd.ls_seq, Rd.rp_any, Rd.bn_ii, Rd.bn_ss, Rd.bn_tt, Rd.bn_rr, Rd.bn_sub, Rd.bn_mul, Rd.bn_fdv, Rd.bn_mod, Rd.bn_pow, Rd.mt_app, Rd.mt_joi, Rd.mt_spl, Rd.mt_par, Rd.mt_rpa, Rd.my_split, Rd.my_partition, Rd.my_rpartition, Rd.my_count, Rd.my_find, Rd.my_rfind, Rd.my_join, Rd.my_app, Rd.ty_non_int, Rd.ty_non_str, Rd.ty_non_bool, Rd.ty_non_tuple, Rd.ty_non_list, Rd.ty_bl_int, Rd.ty_bl_str, Rd.ty_bl_bool, Rd.ty_bl_tuple, Rd.ty_bl_list, Rd.ty_int_int, Rd.ty_int_str, Rd.ty_int_bool, Rd.ty_int_tuple, Rd.ty_int_list, Rd.ty_str_int, Rd.ty_str_str, Rd.ty_str_bool, Rd.ty_str_tuple, Rd.ty_str_list, Rd.ty_tup_int, Rd.ty_tup_str, Rd.ty_tup_bool, Rd.ty_tup_tuple, Rd.ty_tup_list, Rd.ty_fl_int, Rd.ty_fl_str, Rd.ty_fl_bool, Rd.ty_fl_tuple, Rd.ty_fl_list, Rd.fm_str, Rd.fm_int, Rd.it_t, Rd.it_f, Rd.it_s, Rd.it_r, len_app, blank_len, feed_len]
  refine ⟨log_small (by omega), sz _ (by omega), sz _ (by omega), drop_here ?_⟩
  have e : jline i r = numT i ++ Str.ofString " " ++ lineT r ++ Str.ofString " " ++ Str.ofString (toString (n : Int)) ++ Str.ofString "\n" := by
    unfold jline sealedT
    rw [en]
    rfl
  rw [e] at q
  exact q
theorem ads_list {ads : List Ad} {acc : List D} (hR : ∀ x ∈ acc, ∃ a ∈ ads, x = adD a) : ∃ ls : List Ad, acc = ls.map adD ∧ ls.length = acc.length ∧ ∀ a ∈ ls, a ∈ ads := by
  induction acc with
  | nil => exact ⟨[], rfl, rfl, fun a h => (by cases h)⟩
  | cons x acc ih =>
    obtain ⟨ls, e, l, h⟩ := ih fun y hy => hR y (List.mem_cons_of_mem _ hy)
    obtain ⟨a, ha, rfl⟩ := hR x List.mem_cons_self
    refine ⟨a :: ls, by rw [e]; rfl, by simp [l], fun b hb => ?_⟩
    rcases List.mem_cons.mp hb with rfl | hb
    · exact ha
    · exact h b hb
theorem pl__law_answer (ds : List D) (M : MH) (Q : KE) (h : sp__law_answer ds M Q fun _ _ => False) : rB E0 c__law_answer (endK Q) (startD n__law_answer.length ds) M := by
  obtain ⟨p, s, w, k, ads, rfl, hp, hs, hne, ⟨o1, o2, o3⟩, hw, q⟩ := h
  change rB E0 c__law_answer (endK Q) [some (.ref p), some (.ref s), none, none, none] M
  have nn : ads.map adD ≠ [] := by simpa using o1
  have ll : (ads.map adD).length ≤ 1000 := by rw [List.length_map]; omega
  have hx : ∀ z, D.ref s = .ref z → z ≠ p := fun z e => by cases e; exact hne
  simp only [c__law_answer, rB, rS, rE, rT, rO, rC, rX, rEs, rOX, rL, rWk, rG, rGs, rF, byT, lenT, endK, oflD, wipeD, List.getElem?_cons_zero, List.getElem?_cons_succ, List.set_cons_zero, List.set_cons_succ, Bool.not_true, Bool.not_false, Bool.false_eq_true, if_true, if_false, decide_true, decide_false, Bool.true_and, Bool.and_true, Bool.false_and, List.length_nil, List.length_cons, Nat.zero_add, Nat.reduceAdd, Rd.tr_bl, Rd.tr_non, Rd.tr_int, Rd.tr_str, Rd.tr_tup, Rd.tr_fl, Rd.tr_ref, Rd.eq_int, Rd.eq_str, Rd.eq_bl, Rd.sq_tup, Rd.sq_fl, Rd.sq_ref, Rd.cm_eq, Rd.cm_ne, Rd.cm_in, Rd.cm_ni, Rd.is_non, Rd.isn_non, Rd.is_bl, Rd.isn_bl, Rd.is_int, Rd.isn_int, Rd.is_str, Rd.isn_str, Rd.is_tup, Rd.isn_tup, Rd.is_fl, Rd.isn_fl, Rd.is_ref, Rd.isn_ref, Rd.cm_lt, Rd.cm_le, Rd.cm_gt, Rd.cm_ge, Rd.ix_tup, Rd.ix_fl, Rd.ix_str, Rd.ix_ref, Rd.sl_tup, Rd.sl_str, Rd.sl_fl, Rd.sl_ref, Rd.ln_str, Rd.ln_tup, Rd.ln_fl, Rd.ln_ref, Rd.nt_int, Rd.nt_str, Rd.st_int, Rd.ab_int, Rd.od_str, Rd.mx_int, Rd.mn_int, Rd.dm_int, Rd.tp_seq, Rd.ls_seq, Rd.rp_any, Rd.bn_ii, Rd.bn_ss, Rd.bn_tt, Rd.bn_rr, Rd.bn_sub, Rd.bn_mul, Rd.bn_fdv, Rd.bn_mod, Rd.bn_pow, Rd.mt_app, Rd.mt_joi, Rd.mt_spl, Rd.mt_par, Rd.mt_rpa, Rd.my_split, Rd.my_partition, Rd.my_rpartition, Rd.my_count, Rd.my_find, Rd.my_rfind, Rd.my_join, Rd.my_app, Rd.ty_non_int, Rd.ty_non_str, Rd.ty_non_bool, Rd.ty_non_tuple, Rd.ty_non_list, Rd.ty_bl_int, Rd.ty_bl_str, Rd.ty_bl_bool, Rd.ty_bl_tuple, Rd.ty_bl_list, Rd.ty_int_int, Rd.ty_int_str, Rd.ty_int_bool, Rd.ty_int_tuple, Rd.ty_int_list, Rd.ty_str_int, Rd.ty_str_str, Rd.ty_str_bool, Rd.ty_str_tuple, Rd.ty_str_list, Rd.ty_tup_int, Rd.ty_tup_str, Rd.ty_tup_bool, Rd.ty_tup_tuple, Rd.ty_tup_list, Rd.ty_fl_int, Rd.ty_fl_str, Rd.ty_fl_bool, Rd.ty_fl_tuple, Rd.ty_fl_list, Rd.fm_str, Rd.fm_int, Rd.it_t, Rd.it_f, Rd.it_s, Rd.it_r, sl0, sl1, sl2, sl3, sl4, sl5, sl6, true_and, at0, at1, at2, in2, in3, ofS_inj]
  refine ⟨p, _, w, k + 9, rfl, hp, by decide, by decide, hw, fun r w1 _ _ hw1 => ?_⟩
  have hs1 : ∀ w', MH.get (M.put p (wl w')) s = some (.lst (ads.map adD)) := fun w' => by rw [MH.get_put_ne hne]; exact hs
  simp only [rB, rS, rE, rT, rO, rC, rX, rEs, rOX, rL, rWk, rG, rGs, rF, byT, lenT, endK, oflD, wipeD, List.getElem?_cons_zero, List.getElem?_cons_succ, List.set_cons_zero, List.set_cons_succ, Bool.not_true, Bool.not_false, Bool.false_eq_true, if_true, if_false, decide_true, decide_false, Bool.true_and, Bool.and_true, Bool.false_and, List.length_nil, List.length_cons, Nat.zero_add, Nat.reduceAdd, Rd.tr_bl, Rd.tr_non, Rd.tr_int, Rd.tr_str, Rd.tr_tup, Rd.tr_fl, Rd.tr_ref, Rd.eq_int, Rd.eq_str, Rd.eq_bl, Rd.sq_tup, Rd.sq_fl, Rd.sq_ref, Rd.cm_eq, Rd.cm_ne, Rd.cm_in, Rd.cm_ni, Rd.is_non, Rd.isn_non, Rd.is_bl, Rd.isn_bl, Rd.is_int, Rd.isn_int, Rd.is_str, Rd.isn_str, Rd.is_tup, Rd.isn_tup, Rd.is_fl, Rd.isn_fl, Rd.is_ref, Rd.isn_ref, Rd.cm_lt, Rd.cm_le, Rd.cm_gt, Rd.cm_ge, Rd.ix_tup, Rd.ix_fl, Rd.ix_str, Rd.ix_ref, Rd.sl_tup, Rd.sl_str, Rd.sl_fl, Rd.sl_ref, Rd.ln_str, Rd.ln_tup, Rd.ln_fl, Rd.ln_ref, Rd.nt_int, Rd.nt_str, Rd.st_int, Rd.ab_int, Rd.od_str, Rd.mx_int, Rd.mn_int, Rd.dm_int, Rd.tp_seq, Rd.ls_seq, Rd.rp_any, Rd.bn_ii, Rd.bn_ss, Rd.bn_tt, Rd.bn_rr, Rd.bn_sub, Rd.bn_mul, Rd.bn_fdv, Rd.bn_mod, Rd.bn_pow, Rd.mt_app, Rd.mt_joi, Rd.mt_spl, Rd.mt_par, Rd.mt_rpa, Rd.my_split, Rd.my_partition, Rd.my_rpartition, Rd.my_count, Rd.my_find, Rd.my_rfind, Rd.my_join, Rd.my_app, Rd.ty_non_int, Rd.ty_non_str, Rd.ty_non_bool, Rd.ty_non_tuple, Rd.ty_non_list, Rd.ty_bl_int, Rd.ty_bl_str, Rd.ty_bl_bool, Rd.ty_bl_tuple, Rd.ty_bl_list, Rd.ty_int_int, Rd.ty_int_str, Rd.ty_int_bool, Rd.ty_int_tuple, Rd.ty_int_list, Rd.ty_str_int, Rd.ty_str_str, Rd.ty_str_bool, Rd.ty_str_tuple, Rd.ty_str_list, Rd.ty_tup_int, Rd.ty_tup_str, Rd.ty_tup_bool, Rd.ty_tup_tuple, Rd.ty_tup_list, Rd.ty_fl_int, Rd.ty_fl_str, Rd.ty_fl_bool, Rd.ty_fl_tuple, Rd.ty_fl_list, Rd.fm_str, Rd.fm_int, Rd.it_t, Rd.it_f, Rd.it_s, Rd.it_r]
  split
  · refine ⟨p, _, w1, k + 8, _, rfl, get_put hp, rfl, by simp, by simp, nofun, hw1, fun y hy w2 hw2 => ?_⟩
    rw [MH.put_put]
    have hy' : ∃ n : Nat, y = .int n ∧ n ≤ 6 := by
      simp at hy
      rcases hy with rfl | rfl | rfl | rfl | rfl <;> exact ⟨_, rfl, by decide⟩
    obtain ⟨n, rfl, n2⟩ := hy'
    simp only [rB, rS, rE, rT, rO, rC, rX, rEs, rOX, rL, rWk, rG, rGs, rF, byT, lenT, endK, oflD, wipeD, List.getElem?_cons_zero, List.getElem?_cons_succ, List.set_cons_zero, List.set_cons_succ, Bool.not_true, Bool.not_false, Bool.false_eq_true, if_true, if_false, decide_true, decide_false, Bool.true_and, Bool.and_true, Bool.false_and, List.length_nil, List.length_cons, Nat.zero_add, Nat.reduceAdd, Rd.tr_bl, Rd.tr_non, Rd.tr_int, Rd.tr_str, Rd.tr_tup, Rd.tr_fl, Rd.tr_ref, Rd.eq_int, Rd.eq_str, Rd.eq_bl, Rd.sq_tup, Rd.sq_fl, Rd.sq_ref, Rd.cm_eq, Rd.cm_ne, Rd.cm_in, Rd.cm_ni, Rd.is_non, Rd.isn_non, Rd.is_bl, Rd.isn_bl, Rd.is_int, Rd.isn_int, Rd.is_str, Rd.isn_str, Rd.is_tup, Rd.isn_tup, Rd.is_fl, Rd.isn_fl, Rd.is_ref, Rd.isn_ref, Rd.cm_lt, Rd.cm_le, Rd.cm_gt, Rd.cm_ge, Rd.ix_tup, Rd.ix_fl, Rd.ix_str, Rd.ix_ref, Rd.sl_tup, Rd.sl_str, Rd.sl_fl, Rd.sl_ref, Rd.ln_str, Rd.ln_tup, Rd.ln_fl, Rd.ln_ref, Rd.nt_int, Rd.nt_str, Rd.st_int, Rd.ab_int, Rd.od_str, Rd.mx_int, Rd.mn_int, Rd.dm_int, Rd.tp_seq, Rd.ls_seq, Rd.rp_any, Rd.bn_ii, Rd.bn_ss, Rd.bn_tt, Rd.bn_rr, Rd.bn_sub, Rd.bn_mul, Rd.bn_fdv, Rd.bn_mod, Rd.bn_pow, Rd.mt_app, Rd.mt_joi, Rd.mt_spl, Rd.mt_par, Rd.mt_rpa, Rd.my_split, Rd.my_partition, Rd.my_rpartition, Rd.my_count, Rd.my_find, Rd.my_rfind, Rd.my_join, Rd.my_app, Rd.ty_non_int, Rd.ty_non_str, Rd.ty_non_bool, Rd.ty_non_tuple, Rd.ty_non_list, Rd.ty_bl_int, Rd.ty_bl_str, Rd.ty_bl_bool, Rd.ty_bl_tuple, Rd.ty_bl_list, Rd.ty_int_int, Rd.ty_int_str, Rd.ty_int_bool, Rd.ty_int_tuple, Rd.ty_int_list, Rd.ty_str_int, Rd.ty_str_str, Rd.ty_str_bool, Rd.ty_str_tuple, Rd.ty_str_list, Rd.ty_tup_int, Rd.ty_tup_str, Rd.ty_tup_bool, Rd.ty_tup_tuple, Rd.ty_tup_list, Rd.ty_fl_int, Rd.ty_fl_str, Rd.ty_fl_bool, Rd.ty_fl_tuple, Rd.ty_fl_list, Rd.fm_str, Rd.fm_int, Rd.it_t, Rd.it_f, Rd.it_s, Rd.it_r]
    refine ⟨⟨by omega, by omega⟩, ?_⟩
    have hlen : (rangeD 0 (n : Int).toNat).length = n := by unfold rangeD; simp
    refine gather_draw (fun x => ∃ a ∈ ads, x = adD a) 1 _ (k + 2) w2 (fun _ => trivial) (by rw [hlen]; exact sz _ (by omega)) ?_ (fun d hd k' w' hw' kk hk => ?_) fun acc w' hl hR hw' => ?_
    · rw [hlen]
      exact hw2.less (by omega)
    · refine ⟨p, _, w', k', _, rfl, get_put hp, hs1 w', nn, ll, hx, hw', fun y hy w'' hw'' => ?_⟩
      obtain ⟨a, ha, rfl⟩ := List.mem_map.mp hy
      rw [MH.put_put]
      exact hk _ w'' ⟨a, ha, rfl⟩ hw''
    · rw [hlen] at hl
      obtain ⟨ls, rfl, l1, l2⟩ := ads_list hR
      intro r2 _ hr2
      have hp2 : MH.get ((r2, MO.lst (ls.map adD)) :: M.put p (wl w')) p = some (wl w') := get_old (get_put hp) hr2
      refine ⟨p, _, w', k + 1, rfl, hp2, by decide, by decide, hw', fun z w3 z0 z1 hw3 => ?_⟩
      rw [put_cons (get_put hp) hr2, MH.put_put]
      have hr3 : MH.get (M.put p (wl w3)) r2 = none := by
        have : MH.get (M.put p (wl w')) r2 = none := hr2
        have h3 := MH.put_none (a := p) (o := wl w3) this
        rw [MH.put_put] at h3
        exact h3
      have hp3 : MH.get ((r2, MO.lst (ls.map adD)) :: M.put p (wl w3)) p = some (wl w3) := get_old (get_put hp) hr3
      refine ⟨p, _, w3, k, _, rfl, hp3, rfl, by simp, by simp, nofun, hw3, fun y hy w4 hw4 => ?_⟩
      rw [put_cons (get_put hp) hr3, MH.put_put]
      have hr4 : MH.get (M.put p (wl w4)) r2 = none := by
        have h3 := MH.put_none (a := p) (o := wl w4) hr3
        rw [MH.put_put] at h3
        exact h3
      have hy' : ∃ m : Nat, y = .int m ∧ m ≤ 999999 := by
        simp at hy
        rcases hy with rfl | rfl | rfl | rfl | rfl
        · exact ⟨0, rfl, by decide⟩
        · exact ⟨7, rfl, by decide⟩
        · exact ⟨8, rfl, by decide⟩
        · exact ⟨999999, rfl, by decide⟩
        · exact ⟨z.toNat, by congr 1; omega, by omega⟩
      obtain ⟨m, rfl, m2⟩ := hy'
      simp only [rB, rS, rE, rT, rO, rC, rX, rEs, rOX, rL, rWk, rG, rGs, rF, byT, lenT, endK, oflD, wipeD, List.getElem?_cons_zero, List.getElem?_cons_succ, List.set_cons_zero, List.set_cons_succ, Bool.not_true, Bool.not_false, Bool.false_eq_true, if_true, if_false, decide_true, decide_false, Bool.true_and, Bool.and_true, Bool.false_and, List.length_nil, List.length_cons, Nat.zero_add, Nat.reduceAdd, Rd.tr_bl, Rd.tr_non, Rd.tr_int, Rd.tr_str, Rd.tr_tup, Rd.tr_fl, Rd.tr_ref, Rd.eq_int, Rd.eq_str, Rd.eq_bl, Rd.sq_tup, Rd.sq_fl, Rd.sq_ref, Rd.cm_eq, Rd.cm_ne, Rd.cm_in, Rd.cm_ni, Rd.is_non, Rd.isn_non, Rd.is_bl, Rd.isn_bl, Rd.is_int, Rd.isn_int, Rd.is_str, Rd.isn_str, Rd.is_tup, Rd.isn_tup, Rd.is_fl, Rd.isn_fl, Rd.is_ref, Rd.isn_ref, Rd.cm_lt, Rd.cm_le, Rd.cm_gt, Rd.cm_ge, Rd.ix_tup, Rd.ix_fl, Rd.ix_str, Rd.ix_ref, Rd.sl_tup, Rd.sl_str, Rd.sl_fl, Rd.sl_ref, Rd.ln_str, Rd.ln_tup, Rd.ln_fl, Rd.ln_ref, Rd.nt_int, Rd.nt_str, Rd.st_int, Rd.ab_int, Rd.od_str, Rd.mx_int, Rd.mn_int, Rd.dm_int, Rd.tp_seq, Rd.ls_seq, Rd.rp_any, Rd.bn_ii, Rd.bn_ss, Rd.bn_tt, Rd.bn_rr, Rd.bn_sub, Rd.bn_mul, Rd.bn_fdv, Rd.bn_mod, Rd.bn_pow, Rd.mt_app, Rd.mt_joi, Rd.mt_spl, Rd.mt_par, Rd.mt_rpa, Rd.my_split, Rd.my_partition, Rd.my_rpartition, Rd.my_count, Rd.my_find, Rd.my_rfind, Rd.my_join, Rd.my_app, Rd.ty_non_int, Rd.ty_non_str, Rd.ty_non_bool, Rd.ty_non_tuple, Rd.ty_non_list, Rd.ty_bl_int, Rd.ty_bl_str, Rd.ty_bl_bool, Rd.ty_bl_tuple, Rd.ty_bl_list, Rd.ty_int_int, Rd.ty_int_str, Rd.ty_int_bool, Rd.ty_int_tuple, Rd.ty_int_list, Rd.ty_str_int, Rd.ty_str_str, Rd.ty_str_bool, Rd.ty_str_tuple, Rd.ty_str_list, Rd.ty_tup_int, Rd.ty_tup_str, Rd.ty_tup_bool, Rd.ty_tup_tuple, Rd.ty_tup_list, Rd.ty_fl_int, Rd.ty_fl_str, Rd.ty_fl_bool, Rd.ty_fl_tuple, Rd.ty_fl_list, Rd.fm_str, Rd.fm_int, Rd.it_t, Rd.it_f, Rd.it_s, Rd.it_r, MH.get_same]
      exact drop_by (.new hr4) (q (.page m ls) w4 ⟨m2, by rw [List.length_map] at hl; omega, fun a ha => o3 a (l2 a ha)⟩ trivial hw4)
  · split
    · exact drop_here (q .gone w1 trivial trivial (hw1.less (by omega)))
    · refine ⟨p, _, w1, k + 8, _, rfl, get_put hp, rfl, by simp, by simp, nofun, hw1, fun y hy w2 hw2 => ?_⟩
      rw [MH.put_put]
      refine ⟨p, _, w2, k + 7, _, rfl, get_put hp, hs1 w2, nn, ll, hx, hw2, fun x hx2 w3 hw3 => ?_⟩
      rw [MH.put_put]
      obtain ⟨a, ha, rfl⟩ := List.mem_map.mp hx2
      have hy' : y = .str "moved" ∨ y = .str "same" := by simpa using hy
      rcases hy' with rfl | rfl
      · exact drop_here (q (.moved a) w3 (o3 a ha) trivial (hw3.less (by omega)))
      · exact drop_here (q (.same a) w3 (o3 a ha) trivial (hw3.less (by omega)))
end Jn
namespace Jn
open PySem PySem.Spec PyProof.Rows L2 Mx TL
theorem none_put {M : MH} {p r : Addr} {o u : MO} (h : MH.get M r = none) : MH.get (M.put p o) r = none := MH.put_none h
def adP (a : Ad) : PyData := .tuple [.str a.1, .str a.2]
theorem mapM_ads (M : MH) : ∀ ads : List Ad, (ads.map adD).mapM (pyOf M 40) = some (ads.map adP)
  | [] => rfl
  | a :: ads => by
    rw [List.map_cons, List.mapM_cons]
    show (do let y ← some (adP a); let ys ← (ads.map adD).mapM (pyOf M 40); pure (y :: ys)) = _
    rw [mapM_ads M ads]
    rfl
theorem in_ads {M : MH} {a : Ad} {r : Addr} {ads : List Ad} {K : Bool → Prop} (h : MH.get M r = some (.lst (ads.map adD))) (no : K false) (yes : ads ≠ [] → K true) : inD (adD a) (.ref r) M K := by
  show seqD (.ref r) M fun ds => ∃ pa pbs, pyOf M 40 (adD a) = some pa ∧ ds.mapM (pyOf M 40) = some pbs ∧ K (pbs.any fun z => PyData.eqv z pa)
  simp only [Rd.sq_ref, h]
  refine ⟨adP a, ads.map adP, rfl, mapM_ads M ads, ?_⟩
  cases e : ((ads.map adP).any fun z => PyData.eqv z (adP a)) with
  | false => exact no
  | true =>
    refine yes fun z => ?_
    rw [z] at e
    cases e
theorem pow12 : (10 : Int) ^ (12 : Int).toNat = 1000000000000 := by decide
theorem pl__law_spots (ds : List D) (M : MH) (Q : KE) (h : sp__law_spots ds M Q fun _ _ => False) : rB E0 c__law_spots (endK Q) (startD n__law_spots.length ds) M := by
  obtain ⟨p, s, w, k, homes, rfl, hp, hs, hne, h1, h2, h3, hw, q⟩ := h
  change rB E0 c__law_spots (endK Q) [some (.ref p), some (.ref s), none, none, none] M
  have nn : homes.map D.str ≠ [] := by simpa using h1
  have ll : (homes.map D.str).length ≤ 1000 := by rw [List.length_map]; omega
  have hx : ∀ z, D.ref s = .ref z → z ≠ p := fun z e => by cases e; exact hne
  simp only [c__law_spots, rB, rS, rE, rT, rO, rC, rX, rEs, rOX, rL, rWk, rG, rGs, rF, byT, lenT, endK, oflD, wipeD, List.getElem?_cons_zero, List.getElem?_cons_succ, List.set_cons_zero, List.set_cons_succ, Bool.not_true, Bool.not_false, Bool.false_eq_true, if_true, if_false, decide_true, decide_false, Bool.true_and, Bool.and_true, Bool.false_and, List.length_nil, List.length_cons, Nat.zero_add, Nat.reduceAdd, Rd.tr_bl, Rd.tr_non, Rd.tr_int, Rd.tr_str, Rd.tr_tup, Rd.tr_fl, Rd.tr_ref, Rd.eq_int, Rd.eq_str, Rd.eq_bl, Rd.sq_tup, Rd.sq_fl, Rd.sq_ref, Rd.cm_eq, Rd.cm_ne, Rd.cm_in, Rd.cm_ni, Rd.is_non, Rd.isn_non, Rd.is_bl, Rd.isn_bl, Rd.is_int, Rd.isn_int, Rd.is_str, Rd.isn_str, Rd.is_tup, Rd.isn_tup, Rd.is_fl, Rd.isn_fl, Rd.is_ref, Rd.isn_ref, Rd.cm_lt, Rd.cm_le, Rd.cm_gt, Rd.cm_ge, Rd.ix_tup, Rd.ix_fl, Rd.ix_str, Rd.ix_ref, Rd.sl_tup, Rd.sl_str, Rd.sl_fl, Rd.sl_ref, Rd.ln_str, Rd.ln_tup, Rd.ln_fl, Rd.ln_ref, Rd.nt_int, Rd.nt_str, Rd.st_int, Rd.ab_int, Rd.od_str, Rd.mx_int, Rd.mn_int, Rd.dm_int, Rd.tp_seq, Rd.ls_seq, Rd.rp_any, Rd.bn_ii, Rd.bn_ss, Rd.bn_tt, Rd.bn_rr, Rd.bn_sub, Rd.bn_mul, Rd.bn_fdv, Rd.bn_mod, Rd.bn_pow, Rd.mt_app, Rd.mt_joi, Rd.mt_spl, Rd.mt_par, Rd.mt_rpa, Rd.my_split, Rd.my_partition, Rd.my_rpartition, Rd.my_count, Rd.my_find, Rd.my_rfind, Rd.my_join, Rd.my_app, Rd.ty_non_int, Rd.ty_non_str, Rd.ty_non_bool, Rd.ty_non_tuple, Rd.ty_non_list, Rd.ty_bl_int, Rd.ty_bl_str, Rd.ty_bl_bool, Rd.ty_bl_tuple, Rd.ty_bl_list, Rd.ty_int_int, Rd.ty_int_str, Rd.ty_int_bool, Rd.ty_int_tuple, Rd.ty_int_list, Rd.ty_str_int, Rd.ty_str_str, Rd.ty_str_bool, Rd.ty_str_tuple, Rd.ty_str_list, Rd.ty_tup_int, Rd.ty_tup_str, Rd.ty_tup_bool, Rd.ty_tup_tuple, Rd.ty_tup_list, Rd.ty_fl_int, Rd.ty_fl_str, Rd.ty_fl_bool, Rd.ty_fl_tuple, Rd.ty_fl_list, Rd.fm_str, Rd.fm_int, Rd.it_t, Rd.it_f, Rd.it_s, Rd.it_r, sl0, sl1, sl2, sl3, sl4, sl5, sl6, true_and, at0, at1, at2, in2, in3, ofS_inj]
  intro r1 hr1 _
  refine ⟨p, _, w, k + 299, rfl, get_old hp hr1, by decide, by decide, hw, fun z w1 z0 z1 hw1 => ?_⟩
  rw [put_cons hp hr1]
  simp only [rB, rS, rE, rT, rO, rC, rX, rEs, rOX, rL, rWk, rG, rGs, rF, byT, lenT, endK, oflD, wipeD, List.getElem?_cons_zero, List.getElem?_cons_succ, List.set_cons_zero, List.set_cons_succ, Bool.not_true, Bool.not_false, Bool.false_eq_true, if_true, if_false, decide_true, decide_false, Bool.true_and, Bool.and_true, Bool.false_and, List.length_nil, List.length_cons, Nat.zero_add, Nat.reduceAdd, Rd.tr_bl, Rd.tr_non, Rd.tr_int, Rd.tr_str, Rd.tr_tup, Rd.tr_fl, Rd.tr_ref, Rd.eq_int, Rd.eq_str, Rd.eq_bl, Rd.sq_tup, Rd.sq_fl, Rd.sq_ref, Rd.cm_eq, Rd.cm_ne, Rd.cm_in, Rd.cm_ni, Rd.is_non, Rd.isn_non, Rd.is_bl, Rd.isn_bl, Rd.is_int, Rd.isn_int, Rd.is_str, Rd.isn_str, Rd.is_tup, Rd.isn_tup, Rd.is_fl, Rd.isn_fl, Rd.is_ref, Rd.isn_ref, Rd.cm_lt, Rd.cm_le, Rd.cm_gt, Rd.cm_ge, Rd.ix_tup, Rd.ix_fl, Rd.ix_str, Rd.ix_ref, Rd.sl_tup, Rd.sl_str, Rd.sl_fl, Rd.sl_ref, Rd.ln_str, Rd.ln_tup, Rd.ln_fl, Rd.ln_ref, Rd.nt_int, Rd.nt_str, Rd.st_int, Rd.ab_int, Rd.od_str, Rd.mx_int, Rd.mn_int, Rd.dm_int, Rd.tp_seq, Rd.ls_seq, Rd.rp_any, Rd.bn_ii, Rd.bn_ss, Rd.bn_tt, Rd.bn_rr, Rd.bn_sub, Rd.bn_mul, Rd.bn_fdv, Rd.bn_mod, Rd.bn_pow, Rd.mt_app, Rd.mt_joi, Rd.mt_spl, Rd.mt_par, Rd.mt_rpa, Rd.my_split, Rd.my_partition, Rd.my_rpartition, Rd.my_count, Rd.my_find, Rd.my_rfind, Rd.my_join, Rd.my_app, Rd.ty_non_int, Rd.ty_non_str, Rd.ty_non_bool, Rd.ty_non_tuple, Rd.ty_non_list, Rd.ty_bl_int, Rd.ty_bl_str, Rd.ty_bl_bool, Rd.ty_bl_tuple, Rd.ty_bl_list, Rd.ty_int_int, Rd.ty_int_str, Rd.ty_int_bool, Rd.ty_int_tuple, Rd.ty_int_list, Rd.ty_str_int, Rd.ty_str_str, Rd.ty_str_bool, Rd.ty_str_tuple, Rd.ty_str_list, Rd.ty_tup_int, Rd.ty_tup_str, Rd.ty_tup_bool, Rd.ty_tup_tuple, Rd.ty_tup_list, Rd.ty_fl_int, Rd.ty_fl_str, Rd.ty_fl_bool, Rd.ty_fl_tuple, Rd.ty_fl_list, Rd.fm_str, Rd.fm_int, Rd.it_t, Rd.it_f, Rd.it_s, Rd.it_r]
  refine ⟨⟨by omega, by omega⟩, ?_⟩
  obtain ⟨n, hn, hn2, hn3⟩ : ∃ n : Nat, (2 + z).toNat = n ∧ 2 ≤ n ∧ n ≤ 7 := ⟨_, rfl, by omega, by omega⟩
  rw [hn]
  refine walk_by (fun ds σ M' => ∃ i w' ads, ds = (rangeD 0 n).drop i ∧ i ≤ n ∧ M' = (r1, MO.lst (List.map adD ads)) :: M.put p (wl w') ∧ Wok (k + (n - i) * 42) w' ∧ ads.length ≤ i ∧ (0 < i → ads ≠ []) ∧ (∀ a ∈ ads, okAd a) ∧ ∃ x y, σ = [some (.ref p), some (.ref s), some (.ref r1), x, y])
    (fun σ M' ⟨i, w', ads, e, hi, eM, hw', a1, a2, a3, x, y, eσ⟩ => ?_) (fun d ds σ M' ⟨i, w', ads, e, hi, eM, hw', a1, a2, a3, x, y, eσ⟩ => ?_) _ _ _ ⟨0, w1, [], rfl, Nat.zero_le _, rfl, hw1.less (by omega), Nat.le_refl _, fun z => absurd z (by omega), fun a h => (by cases h), none, none, rfl⟩
  · subst eM eσ
    have hi2 : n ≤ i := by
      have := congrArg List.length e
      rw [List.length_drop] at this
      unfold rangeD at this
      simp only [List.length_nil, List.length_map, List.length_range] at this
      omega
    refine ⟨trivial, ?_⟩
    simp only [rB, rS, rE, rT, rO, rC, rX, rEs, rOX, rL, rWk, rG, rGs, rF, byT, lenT, endK, oflD, wipeD, List.getElem?_cons_zero, List.getElem?_cons_succ, List.set_cons_zero, List.set_cons_succ, Bool.not_true, Bool.not_false, Bool.false_eq_true, if_true, if_false, decide_true, decide_false, Bool.true_and, Bool.and_true, Bool.false_and, List.length_nil, List.length_cons, Nat.zero_add, Nat.reduceAdd, Rd.tr_bl, Rd.tr_non, Rd.tr_int, Rd.tr_str, Rd.tr_tup, Rd.tr_fl, Rd.tr_ref, Rd.eq_int, Rd.eq_str, Rd.eq_bl, Rd.sq_tup, Rd.sq_fl, Rd.sq_ref, Rd.cm_eq, Rd.cm_ne, Rd.cm_in, Rd.cm_ni, Rd.is_non, Rd.isn_non, Rd.is_bl, Rd.isn_bl, Rd.is_int, Rd.isn_int, Rd.is_str, Rd.isn_str, Rd.is_tup, Rd.isn_tup, Rd.is_fl, Rd.isn_fl, Rd.is_ref, Rd.isn_ref, Rd.cm_lt, Rd.cm_le, Rd.cm_gt, Rd.cm_ge, Rd.ix_tup, Rd.ix_fl, Rd.ix_str, Rd.ix_ref, Rd.sl_tup, Rd.sl_str, Rd.sl_fl, Rd.sl_ref, Rd.ln_str, Rd.ln_tup, Rd.ln_fl, Rd.ln_ref, Rd.nt_int, Rd.nt_str, Rd.st_int, Rd.ab_int, Rd.od_str, Rd.mx_int, Rd.mn_int, Rd.dm_int, Rd.tp_seq, Rd.ls_seq, Rd.rp_any, Rd.bn_ii, Rd.bn_ss, Rd.bn_tt, Rd.bn_rr, Rd.bn_sub, Rd.bn_mul, Rd.bn_fdv, Rd.bn_mod, Rd.bn_pow, Rd.mt_app, Rd.mt_joi, Rd.mt_spl, Rd.mt_par, Rd.mt_rpa, Rd.my_split, Rd.my_partition, Rd.my_rpartition, Rd.my_count, Rd.my_find, Rd.my_rfind, Rd.my_join, Rd.my_app, Rd.ty_non_int, Rd.ty_non_str, Rd.ty_non_bool, Rd.ty_non_tuple, Rd.ty_non_list, Rd.ty_bl_int, Rd.ty_bl_str, Rd.ty_bl_bool, Rd.ty_bl_tuple, Rd.ty_bl_list, Rd.ty_int_int, Rd.ty_int_str, Rd.ty_int_bool, Rd.ty_int_tuple, Rd.ty_int_list, Rd.ty_str_int, Rd.ty_str_str, Rd.ty_str_bool, Rd.ty_str_tuple, Rd.ty_str_list, Rd.ty_tup_int, Rd.ty_tup_str, Rd.ty_tup_bool, Rd.ty_tup_tuple, Rd.ty_tup_list, Rd.ty_fl_int, Rd.ty_fl_str, Rd.ty_fl_bool, Rd.ty_fl_tuple, Rd.ty_fl_list, Rd.fm_str, Rd.fm_int, Rd.it_t, Rd.it_f, Rd.it_s, Rd.it_r]
    exact drop_here (q r1 ads w' hr1 ⟨a2 (by omega), by omega, a3⟩ (hw'.less (by omega)))
  · subst eM eσ
    obtain ⟨hlt, rfl, rfl⟩ := range_drop e
    refine ⟨trivial, fun next hnx => ?_⟩
    have fr : ∀ w', MH.get (M.put p (wl w')) r1 = none := fun w' => MH.put_none hr1
    have gp : ∀ w' o, MH.get ((r1, o) :: M.put p (wl w')) p = some (wl w') := fun w' o => get_old (get_put hp) (fr w')
    have gs : ∀ w' o, MH.get ((r1, o) :: M.put p (wl w')) s = some (.lst (homes.map .str)) := fun w' o => get_old (by rw [MH.get_put_ne hne]; exact hs) (fr w')
    have hk : (n - i) * 42 = (n - (i + 1)) * 42 + 42 := by
      have : n - i = (n - (i + 1)) + 1 := by omega
      rw [this, Nat.add_mul]
    simp only [rB, rS, rE, rT, rO, rC, rX, rEs, rOX, rL, rWk, rG, rGs, rF, byT, lenT, endK, oflD, wipeD, List.getElem?_cons_zero, List.getElem?_cons_succ, List.set_cons_zero, List.set_cons_succ, Bool.not_true, Bool.not_false, Bool.false_eq_true, if_true, if_false, decide_true, decide_false, Bool.true_and, Bool.and_true, Bool.false_and, List.length_nil, List.length_cons, Nat.zero_add, Nat.reduceAdd, Rd.tr_bl, Rd.tr_non, Rd.tr_int, Rd.tr_str, Rd.tr_tup, Rd.tr_fl, Rd.tr_ref, Rd.eq_int, Rd.eq_str, Rd.eq_bl, Rd.sq_tup, Rd.sq_fl, Rd.sq_ref, Rd.cm_eq, Rd.cm_ne, Rd.cm_in, Rd.cm_ni, Rd.is_non, Rd.isn_non, Rd.is_bl, Rd.isn_bl, Rd.is_int, Rd.isn_int, Rd.is_str, Rd.isn_str, Rd.is_tup, Rd.isn_tup, Rd.is_fl, Rd.isn_fl, Rd.is_ref, Rd.isn_ref, Rd.cm_lt, Rd.cm_le, Rd.cm_gt, Rd.cm_ge, Rd.ix_tup, Rd.ix_fl, Rd.ix_str, Rd.ix_ref, Rd.sl_tup, Rd.sl_str, Rd.sl_fl, Rd.sl_ref, Rd.ln_str, Rd.ln_tup, Rd.ln_fl, Rd.ln_ref, Rd.nt_int, Rd.nt_str, Rd.st_int, Rd.ab_int, Rd.od_str, Rd.mx_int, Rd.mn_int, Rd.dm_int, Rd.tp_seq, Rd.ls_seq, Rd.rp_any, Rd.bn_ii, Rd.bn_ss, Rd.bn_tt, Rd.bn_rr, Rd.bn_sub, Rd.bn_mul, Rd.bn_fdv, Rd.bn_mod, Rd.bn_pow, Rd.mt_app, Rd.mt_joi, Rd.mt_spl, Rd.mt_par, Rd.mt_rpa, Rd.my_split, Rd.my_partition, Rd.my_rpartition, Rd.my_count, Rd.my_find, Rd.my_rfind, Rd.my_join, Rd.my_app, Rd.ty_non_int, Rd.ty_non_str, Rd.ty_non_bool, Rd.ty_non_tuple, Rd.ty_non_list, Rd.ty_bl_int, Rd.ty_bl_str, Rd.ty_bl_bool, Rd.ty_bl_tuple, Rd.ty_bl_list, Rd.ty_int_int, Rd.ty_int_str, Rd.ty_int_bool, Rd.ty_int_tuple, Rd.ty_int_list, Rd.ty_str_int, Rd.ty_str_str, Rd.ty_str_bool, Rd.ty_str_tuple, Rd.ty_str_list, Rd.ty_tup_int, Rd.ty_tup_str, Rd.ty_tup_bool, Rd.ty_tup_tuple, Rd.ty_tup_list, Rd.ty_fl_int, Rd.ty_fl_str, Rd.ty_fl_bool, Rd.ty_fl_tuple, Rd.ty_fl_list, Rd.fm_str, Rd.fm_int, Rd.it_t, Rd.it_f, Rd.it_s, Rd.it_r, sl0, sl1, sl2, sl3, sl4, sl5, sl6, true_and, at0, at1, at2, in2, in3, ofS_inj]
    refine ⟨p, _, w', k + (n - (i + 1)) * 42 + 41, _, rfl, gp _ _, gs _ _, nn, ll, hx, by rw [hk] at hw'; exact hw', fun y hy w2 hw2 => ?_⟩
    rw [put_cons (get_put hp) (fr w'), MH.put_put]
    obtain ⟨h, hh, rfl⟩ := List.mem_map.mp hy
    refine ⟨p, w2, k + (n - (i + 1)) * 42, rfl, gp _ _, hw2, fun t w3 ht hw3 => ?_⟩
    rw [put_cons (get_put hp) (fr w2), MH.put_put]
    refine in_ads (a := (h, t)) MH.get_same ?_ fun hn0 => ?_
    · simp only [rB, rS, rE, rT, rO, rC, rX, rEs, rOX, rL, rWk, rG, rGs, rF, byT, lenT, endK, oflD, wipeD, List.getElem?_cons_zero, List.getElem?_cons_succ, List.set_cons_zero, List.set_cons_succ, Bool.not_true, Bool.not_false, Bool.false_eq_true, if_true, if_false, decide_true, decide_false, Bool.true_and, Bool.and_true, Bool.false_and, List.length_nil, List.length_cons, Nat.zero_add, Nat.reduceAdd, Rd.tr_bl, Rd.tr_non, Rd.tr_int, Rd.tr_str, Rd.tr_tup, Rd.tr_fl, Rd.tr_ref, Rd.eq_int, Rd.eq_str, Rd.eq_bl, Rd.sq_tup, Rd.sq_fl, Rd.sq_ref, Rd.cm_eq, Rd.cm_ne, Rd.cm_in, Rd.cm_ni, Rd.is_non, Rd.isn_non, Rd.is_bl, Rd.isn_bl, Rd.is_int, Rd.isn_int, Rd.is_str, Rd.isn_str, Rd.is_tup, Rd.isn_tup, Rd.is_fl, Rd.isn_fl, Rd.is_ref, Rd.isn_ref, Rd.cm_lt, Rd.cm_le, Rd.cm_gt, Rd.cm_ge, Rd.ix_tup, Rd.ix_fl, Rd.ix_str, Rd.ix_ref, Rd.sl_tup, Rd.sl_str, Rd.sl_fl, Rd.sl_ref, Rd.ln_str, Rd.ln_tup, Rd.ln_fl, Rd.ln_ref, Rd.nt_int, Rd.nt_str, Rd.st_int, Rd.ab_int, Rd.od_str, Rd.mx_int, Rd.mn_int, Rd.dm_int, Rd.tp_seq, Rd.ls_seq, Rd.rp_any, Rd.bn_ii, Rd.bn_ss, Rd.bn_tt, Rd.bn_rr, Rd.bn_sub, Rd.bn_mul, Rd.bn_fdv, Rd.bn_mod, Rd.bn_pow, Rd.mt_app, Rd.mt_joi, Rd.mt_spl, Rd.mt_par, Rd.mt_rpa, Rd.my_split, Rd.my_partition, Rd.my_rpartition, Rd.my_count, Rd.my_find, Rd.my_rfind, Rd.my_join, Rd.my_app, Rd.ty_non_int, Rd.ty_non_str, Rd.ty_non_bool, Rd.ty_non_tuple, Rd.ty_non_list, Rd.ty_bl_int, Rd.ty_bl_str, Rd.ty_bl_bool, Rd.ty_bl_tuple, Rd.ty_bl_list, Rd.ty_int_int, Rd.ty_int_str, Rd.ty_int_bool, Rd.ty_int_tuple, Rd.ty_int_list, Rd.ty_str_int, Rd.ty_str_str, Rd.ty_str_bool, Rd.ty_str_tuple, Rd.ty_str_list, Rd.ty_tup_int, Rd.ty_tup_str, Rd.ty_tup_bool, Rd.ty_tup_tuple, Rd.ty_tup_list, Rd.ty_fl_int, Rd.ty_fl_str, Rd.ty_fl_bool, Rd.ty_fl_tuple, Rd.ty_fl_list, Rd.fm_str, Rd.fm_int, Rd.it_t, Rd.it_f, Rd.it_s, Rd.it_r]
      refine ⟨⟨_, MH.get_same⟩, _, MH.get_same, ?_, ?_⟩
      · rw [List.length_map]
        exact Nat.lt_of_le_of_lt (show _ ≤ 100 by omega) (by decide)
      · rw [MH.put_same]
        refine hnx _ _ ⟨i + 1, w3, ads ++ [(h, t)], rfl, hlt, by rw [List.map_append]; rfl, hw3, by rw [List.length_append]; simp; omega, fun _ => by simp, fun a ha => ?_, _, _, rfl⟩
        rcases List.mem_append.mp ha with ha | ha
        · exact a3 a ha
        · obtain rfl := List.mem_singleton.mp ha
          exact ⟨h3 h hh, ht⟩
    · simp only [rB, rS, rE, rT, rO, rC, rX, rEs, rOX, rL, rWk, rG, rGs, rF, byT, lenT, endK, oflD, wipeD, List.getElem?_cons_zero, List.getElem?_cons_succ, List.set_cons_zero, List.set_cons_succ, Bool.not_true, Bool.not_false, Bool.false_eq_true, if_true, if_false, decide_true, decide_false, Bool.true_and, Bool.and_true, Bool.false_and, List.length_nil, List.length_cons, Nat.zero_add, Nat.reduceAdd, Rd.tr_bl, Rd.tr_non, Rd.tr_int, Rd.tr_str, Rd.tr_tup, Rd.tr_fl, Rd.tr_ref, Rd.eq_int, Rd.eq_str, Rd.eq_bl, Rd.sq_tup, Rd.sq_fl, Rd.sq_ref, Rd.cm_eq, Rd.cm_ne, Rd.cm_in, Rd.cm_ni, Rd.is_non, Rd.isn_non, Rd.is_bl, Rd.isn_bl, Rd.is_int, Rd.isn_int, Rd.is_str, Rd.isn_str, Rd.is_tup, Rd.isn_tup, Rd.is_fl, Rd.isn_fl, Rd.is_ref, Rd.isn_ref, Rd.cm_lt, Rd.cm_le, Rd.cm_gt, Rd.cm_ge, Rd.ix_tup, Rd.ix_fl, Rd.ix_str, Rd.ix_ref, Rd.sl_tup, Rd.sl_str, Rd.sl_fl, Rd.sl_ref, Rd.ln_str, Rd.ln_tup, Rd.ln_fl, Rd.ln_ref, Rd.nt_int, Rd.nt_str, Rd.st_int, Rd.ab_int, Rd.od_str, Rd.mx_int, Rd.mn_int, Rd.dm_int, Rd.tp_seq, Rd.ls_seq, Rd.rp_any, Rd.bn_ii, Rd.bn_ss, Rd.bn_tt, Rd.bn_rr, Rd.bn_sub, Rd.bn_mul, Rd.bn_fdv, Rd.bn_mod, Rd.bn_pow, Rd.mt_app, Rd.mt_joi, Rd.mt_spl, Rd.mt_par, Rd.mt_rpa, Rd.my_split, Rd.my_partition, Rd.my_rpartition, Rd.my_count, Rd.my_find, Rd.my_rfind, Rd.my_join, Rd.my_app, Rd.ty_non_int, Rd.ty_non_str, Rd.ty_non_bool, Rd.ty_non_tuple, Rd.ty_non_list, Rd.ty_bl_int, Rd.ty_bl_str, Rd.ty_bl_bool, Rd.ty_bl_tuple, Rd.ty_bl_list, Rd.ty_int_int, Rd.ty_int_str, Rd.ty_int_bool, Rd.ty_int_tuple, Rd.ty_int_list, Rd.ty_str_int, Rd.ty_str_str, Rd.ty_str_bool, Rd.ty_str_tuple, Rd.ty_str_list, Rd.ty_tup_int, Rd.ty_tup_str, Rd.ty_tup_bool, Rd.ty_tup_tuple, Rd.ty_tup_list, Rd.ty_fl_int, Rd.ty_fl_str, Rd.ty_fl_bool, Rd.ty_fl_tuple, Rd.ty_fl_list, Rd.fm_str, Rd.fm_int, Rd.it_t, Rd.it_f, Rd.it_s, Rd.it_r]
      exact hnx _ _ ⟨i + 1, w3, ads, rfl, hlt, rfl, hw3, by omega, fun _ => hn0, a3, _, _, rfl⟩
theorem pl__law_loose_rows (ds : List D) (M : MH) (Q : KE) (h : sp__law_loose_rows ds M Q fun _ _ => False) : rB E0 c__law_loose_rows (endK Q) (startD n__law_loose_rows.length ds) M := by
  obtain ⟨p, s, w, k, n, ads, rfl, hn, hp, hs, hne, ⟨o1, o2, o3⟩, hw, q⟩ := h
  change rB E0 c__law_loose_rows (endK Q) [some (.ref p), some (.ref s), some (.int n), none, none, none, none] M
  have nn : ads.map adD ≠ [] := by simpa using o1
  have ll : (ads.map adD).length ≤ 1000 := by rw [List.length_map]; omega
  have hx : ∀ z, D.ref s = .ref z → z ≠ p := fun z e => by cases e; exact hne
  simp only [c__law_loose_rows, rB, rS, rE, rT, rO, rC, rX, rEs, rOX, rL, rWk, rG, rGs, rF, byT, lenT, endK, oflD, wipeD, List.getElem?_cons_zero, List.getElem?_cons_succ, List.set_cons_zero, List.set_cons_succ, Bool.not_true, Bool.not_false, Bool.false_eq_true, if_true, if_false, decide_true, decide_false, Bool.true_and, Bool.and_true, Bool.false_and, List.length_nil, List.length_cons, Nat.zero_add, Nat.reduceAdd, Rd.tr_bl, Rd.tr_non, Rd.tr_int, Rd.tr_str, Rd.tr_tup, Rd.tr_fl, Rd.tr_ref, Rd.eq_int, Rd.eq_str, Rd.eq_bl, Rd.sq_tup, Rd.sq_fl, Rd.sq_ref, Rd.cm_eq, Rd.cm_ne, Rd.cm_in, Rd.cm_ni, Rd.is_non, Rd.isn_non, Rd.is_bl, Rd.isn_bl, Rd.is_int, Rd.isn_int, Rd.is_str, Rd.isn_str, Rd.is_tup, Rd.isn_tup, Rd.is_fl, Rd.isn_fl, Rd.is_ref, Rd.isn_ref, Rd.cm_lt, Rd.cm_le, Rd.cm_gt, Rd.cm_ge, Rd.ix_tup, Rd.ix_fl, Rd.ix_str, Rd.ix_ref, Rd.sl_tup, Rd.sl_str, Rd.sl_fl, Rd.sl_ref, Rd.ln_str, Rd.ln_tup, Rd.ln_fl, Rd.ln_ref, Rd.nt_int, Rd.nt_str, Rd.st_int, Rd.ab_int, Rd.od_str, Rd.mx_int, Rd.mn_int, Rd.dm_int, Rd.tp_seq, Rd.ls_seq, Rd.rp_any, Rd.bn_ii, Rd.bn_ss, Rd.bn_tt, Rd.bn_rr, Rd.bn_sub, Rd.bn_mul, Rd.bn_fdv, Rd.bn_mod, Rd.bn_pow, Rd.mt_app, Rd.mt_joi, Rd.mt_spl, Rd.mt_par, Rd.mt_rpa, Rd.my_split, Rd.my_partition, Rd.my_rpartition, Rd.my_count, Rd.my_find, Rd.my_rfind, Rd.my_join, Rd.my_app, Rd.ty_non_int, Rd.ty_non_str, Rd.ty_non_bool, Rd.ty_non_tuple, Rd.ty_non_list, Rd.ty_bl_int, Rd.ty_bl_str, Rd.ty_bl_bool, Rd.ty_bl_tuple, Rd.ty_bl_list, Rd.ty_int_int, Rd.ty_int_str, Rd.ty_int_bool, Rd.ty_int_tuple, Rd.ty_int_list, Rd.ty_str_int, Rd.ty_str_str, Rd.ty_str_bool, Rd.ty_str_tuple, Rd.ty_str_list, Rd.ty_tup_int, Rd.ty_tup_str, Rd.ty_tup_bool, Rd.ty_tup_tuple, Rd.ty_tup_list, Rd.ty_fl_int, Rd.ty_fl_str, Rd.ty_fl_bool, Rd.ty_fl_tuple, Rd.ty_fl_list, Rd.fm_str, Rd.fm_int, Rd.it_t, Rd.it_f, Rd.it_s, Rd.it_r, sl0, sl1, sl2, sl3, sl4, sl5, sl6, true_and, at0, at1, at2, in2, in3, ofS_inj]
  intro r1 hr1 _
  refine ⟨⟨by omega, by omega⟩, ?_⟩
  have e1 : ((n : Nat) : Int).toNat = n := by omega
  rw [e1]
  have eM : M = M.put p (wl w) := (MH.put_id hp).symm
  rw [eM]
  refine walk_by (fun ds σ M' => ∃ i w' rs, ds = (rangeD 0 n).drop i ∧ i ≤ n ∧ M' = (r1, MO.lst (List.map rowD rs)) :: M.put p (wl w') ∧ Wok (k + (n - i) * 25) w' ∧ rs.length = i ∧ (∀ r ∈ rs, okRow r) ∧ ∃ x y z, σ = [some (.ref p), some (.ref s), some (.int n), some (.ref r1), x, y, z])
    (fun σ M' ⟨i, w', rs, e, hi, eM, hw', a1, a3, x, y, z, eσ⟩ => ?_) (fun d ds σ M' ⟨i, w', rs, e, hi, eM, hw', a1, a3, x, y, z, eσ⟩ => ?_) _ _ _ ⟨0, w, [], rfl, Nat.zero_le _, rfl, hw.less (by omega), rfl, fun a h => (by cases h), none, none, none, rfl⟩
  · subst eM eσ
    have hi2 : n ≤ i := by
      have := congrArg List.length e
      rw [List.length_drop] at this
      unfold rangeD at this
      simp only [List.length_nil, List.length_map, List.length_range] at this
      omega
    refine ⟨trivial, ?_⟩
    simp only [rB, rS, rE, rT, rO, rC, rX, rEs, rOX, rL, rWk, rG, rGs, rF, byT, lenT, endK, oflD, wipeD, List.getElem?_cons_zero, List.getElem?_cons_succ, List.set_cons_zero, List.set_cons_succ, Bool.not_true, Bool.not_false, Bool.false_eq_true, if_true, if_false, decide_true, decide_false, Bool.true_and, Bool.and_true, Bool.false_and, List.length_nil, List.length_cons, Nat.zero_add, Nat.reduceAdd, Rd.tr_bl, Rd.tr_non, Rd.tr_int, Rd.tr_str, Rd.tr_tup, Rd.tr_fl, Rd.tr_ref, Rd.eq_int, Rd.eq_str, Rd.eq_bl, Rd.sq_tup, Rd.sq_fl, Rd.sq_ref, Rd.cm_eq, Rd.cm_ne, Rd.cm_in, Rd.cm_ni, Rd.is_non, Rd.isn_non, Rd.is_bl, Rd.isn_bl, Rd.is_int, Rd.isn_int, Rd.is_str, Rd.isn_str, Rd.is_tup, Rd.isn_tup, Rd.is_fl, Rd.isn_fl, Rd.is_ref, Rd.isn_ref, Rd.cm_lt, Rd.cm_le, Rd.cm_gt, Rd.cm_ge, Rd.ix_tup, Rd.ix_fl, Rd.ix_str, Rd.ix_ref, Rd.sl_tup, Rd.sl_str, Rd.sl_fl, Rd.sl_ref, Rd.ln_str, Rd.ln_tup, Rd.ln_fl, Rd.ln_ref, Rd.nt_int, Rd.nt_str, Rd.st_int, Rd.ab_int, Rd.od_str, Rd.mx_int, Rd.mn_int, Rd.dm_int, Rd.tp_seq, Rd.ls_seq, Rd.rp_any, Rd.bn_ii, Rd.bn_ss, Rd.bn_tt, Rd.bn_rr, Rd.bn_sub, Rd.bn_mul, Rd.bn_fdv, Rd.bn_mod, Rd.bn_pow, Rd.mt_app, Rd.mt_joi, Rd.mt_spl, Rd.mt_par, Rd.mt_rpa, Rd.my_split, Rd.my_partition, Rd.my_rpartition, Rd.my_count, Rd.my_find, Rd.my_rfind, Rd.my_join, Rd.my_app, Rd.ty_non_int, Rd.ty_non_str, Rd.ty_non_bool, Rd.ty_non_tuple, Rd.ty_non_list, Rd.ty_bl_int, Rd.ty_bl_str, Rd.ty_bl_bool, Rd.ty_bl_tuple, Rd.ty_bl_list, Rd.ty_int_int, Rd.ty_int_str, Rd.ty_int_bool, Rd.ty_int_tuple, Rd.ty_int_list, Rd.ty_str_int, Rd.ty_str_str, Rd.ty_str_bool, Rd.ty_str_tuple, Rd.ty_str_list, Rd.ty_tup_int, Rd.ty_tup_str, Rd.ty_tup_bool, Rd.ty_tup_tuple, Rd.ty_tup_list, Rd.ty_fl_int, Rd.ty_fl_str, Rd.ty_fl_bool, Rd.ty_fl_tuple, Rd.ty_fl_list, Rd.fm_str, Rd.fm_int, Rd.it_t, Rd.it_f, Rd.it_s, Rd.it_r, MH.get_same]
    exact drop_by (.new (MH.put_none hr1)) (q rs w' (by omega) a3 (hw'.less (by omega)))
  · subst eM eσ
    obtain ⟨hlt, rfl, rfl⟩ := range_drop e
    refine ⟨trivial, fun next hnx => ?_⟩
    have fr : ∀ w', MH.get (M.put p (wl w')) r1 = none := fun w' => MH.put_none hr1
    have gp : ∀ w' o, MH.get ((r1, o) :: M.put p (wl w')) p = some (wl w') := fun w' o => get_old (get_put hp) (fr w')
    have gs : ∀ w' o, MH.get ((r1, o) :: M.put p (wl w')) s = some (.lst (ads.map adD)) := fun w' o => get_old (by rw [MH.get_put_ne hne]; exact hs) (fr w')
    have pp : ∀ w1 w2 o, MH.put ((r1, o) :: M.put p (wl w1)) p (wl w2) = (r1, o) :: M.put p (wl w2) := fun w1 w2 o => by rw [put_cons (get_put hp) (fr w1), MH.put_put]
    have hk : (n - i) * 25 = (n - (i + 1)) * 25 + 25 := by
      have : n - i = (n - (i + 1)) + 1 := by omega
      rw [this, Nat.add_mul]
    rw [hk] at hw'
    simp only [rB, rS, rE, rT, rO, rC, rX, rEs, rOX, rL, rWk, rG, rGs, rF, byT, lenT, endK, oflD, wipeD, List.getElem?_cons_zero, List.getElem?_cons_succ, List.set_cons_zero, List.set_cons_succ, Bool.not_true, Bool.not_false, Bool.false_eq_true, if_true, if_false, decide_true, decide_false, Bool.true_and, Bool.and_true, Bool.false_and, List.length_nil, List.length_cons, Nat.zero_add, Nat.reduceAdd, Rd.tr_bl, Rd.tr_non, Rd.tr_int, Rd.tr_str, Rd.tr_tup, Rd.tr_fl, Rd.tr_ref, Rd.eq_int, Rd.eq_str, Rd.eq_bl, Rd.sq_tup, Rd.sq_fl, Rd.sq_ref, Rd.cm_eq, Rd.cm_ne, Rd.cm_in, Rd.cm_ni, Rd.is_non, Rd.isn_non, Rd.is_bl, Rd.isn_bl, Rd.is_int, Rd.isn_int, Rd.is_str, Rd.isn_str, Rd.is_tup, Rd.isn_tup, Rd.is_fl, Rd.isn_fl, Rd.is_ref, Rd.isn_ref, Rd.cm_lt, Rd.cm_le, Rd.cm_gt, Rd.cm_ge, Rd.ix_tup, Rd.ix_fl, Rd.ix_str, Rd.ix_ref, Rd.sl_tup, Rd.sl_str, Rd.sl_fl, Rd.sl_ref, Rd.ln_str, Rd.ln_tup, Rd.ln_fl, Rd.ln_ref, Rd.nt_int, Rd.nt_str, Rd.st_int, Rd.ab_int, Rd.od_str, Rd.mx_int, Rd.mn_int, Rd.dm_int, Rd.tp_seq, Rd.ls_seq, Rd.rp_any, Rd.bn_ii, Rd.bn_ss, Rd.bn_tt, Rd.bn_rr, Rd.bn_sub, Rd.bn_mul, Rd.bn_fdv, Rd.bn_mod, Rd.bn_pow, Rd.mt_app, Rd.mt_joi, Rd.mt_spl, Rd.mt_par, Rd.mt_rpa, Rd.my_split, Rd.my_partition, Rd.my_rpartition, Rd.my_count, Rd.my_find, Rd.my_rfind, Rd.my_join, Rd.my_app, Rd.ty_non_int, Rd.ty_non_str, Rd.ty_non_bool, Rd.ty_non_tuple, Rd.ty_non_list, Rd.ty_bl_int, Rd.ty_bl_str, Rd.ty_bl_bool, Rd.ty_bl_tuple, Rd.ty_bl_list, Rd.ty_int_int, Rd.ty_int_str, Rd.ty_int_bool, Rd.ty_int_tuple, Rd.ty_int_list, Rd.ty_str_int, Rd.ty_str_str, Rd.ty_str_bool, Rd.ty_str_tuple, Rd.ty_str_list, Rd.ty_tup_int, Rd.ty_tup_str, Rd.ty_tup_bool, Rd.ty_tup_tuple, Rd.ty_tup_list, Rd.ty_fl_int, Rd.ty_fl_str, Rd.ty_fl_bool, Rd.ty_fl_tuple, Rd.ty_fl_list, Rd.fm_str, Rd.fm_int, Rd.it_t, Rd.it_f, Rd.it_s, Rd.it_r, sl0, sl1, sl2, sl3, sl4, sl5, sl6, true_and, at0, at1, at2, in2, in3, ofS_inj, pow12]
    refine ⟨⟨by decide, by decide, by decide⟩, ?_⟩
    refine ⟨p, _, w', k + (n - (i + 1)) * 25 + 24, rfl, gp _ _, by decide, by decide, hw', fun z w1 z0 z1 hw1 => ?_⟩
    rw [pp]
    refine ⟨p, _, w1, k + (n - (i + 1)) * 25 + 23, _, rfl, gp _ _, rfl, by simp, by simp, nofun, hw1, fun y hy w2 hw2 => ?_⟩
    rw [pp]
    have hy' : ∃ m : Nat, y = .int m ∧ m ≤ 999999999999 := by
      simp at hy
      rcases hy with rfl | rfl | rfl | rfl | rfl
      · exact ⟨0, rfl, by decide⟩
      · exact ⟨i, rfl, by omega⟩
      · exact ⟨7, rfl, by decide⟩
      · exact ⟨999999999999, rfl, by decide⟩
      · exact ⟨z.toNat, by congr 1; omega, by omega⟩
    obtain ⟨m, rfl, m2⟩ := hy'
    refine ⟨p, s, w2, k + (n - (i + 1)) * 25 + 13, ads, rfl, gp _ _, gs _ _, hne, ⟨o1, o2, o3⟩, hw2, fun e1 w3 ok1 ia1 hw3 => ?_⟩
    rw [pp]
    refine ⟨p, s, w3, k + (n - (i + 1)) * 25 + 3, ads, rfl, gp _ _, gs _ _, hne, ⟨o1, o2, o3⟩, hw3, fun e2 w4 ok2 ia2 hw4 => ?_⟩
    rw [pp]
    refine ⟨p, _, w4, k + (n - (i + 1)) * 25 + 2, _, rfl, gp _ _, rfl, by simp, by simp, nofun, hw4, fun y hy w5 hw5 => ?_⟩
    rw [pp]
    have hy' : ∃ e : JE, y = evD e ∧ okEv e := by
      simp at hy
      rcases hy with rfl | rfl | rfl | rfl | rfl
      · exact ⟨.ask, rfl, trivial⟩
      · exact ⟨.lost, rfl, trivial⟩
      · exact ⟨.cut, rfl, trivial⟩
      · exact ⟨e1, rfl, ok1⟩
      · exact ⟨e2, rfl, ok2⟩
    obtain ⟨e, rfl, oke⟩ := hy'
    refine ⟨⟨_, MH.get_same⟩, ?_⟩
    refine ⟨p, _, w5, k + (n - (i + 1)) * 25, _, rfl, gp _ _, gs _ _, nn, ll, hx, hw5.less (by omega), fun y hy w6 hw6 => ?_⟩
    rw [pp]
    obtain ⟨a, ha, rfl⟩ := List.mem_map.mp hy
    refine ⟨_, MH.get_same, ?_, ?_⟩
    · rw [List.length_map]
      exact Nat.lt_of_le_of_lt (show _ ≤ 100 by omega) (by decide)
    · rw [MH.put_same]
      refine hnx _ _ ⟨i + 1, w6, rs ++ [⟨m, a, e⟩], rfl, hlt, by rw [List.map_append]; rfl, hw6, by rw [List.length_append, a1]; rfl, fun r hr => ?_, _, _, _, rfl⟩
      rcases List.mem_append.mp hr with hr | hr
      · exact a3 r hr
      · obtain rfl := List.mem_singleton.mp hr
        exact ⟨m2, o3 a ha, oke⟩
end Jn
namespace Jn
open PySem PySem.Spec PyProof.Rows L2 Mx TL
theorem pl__law_well (ds : List D) (M : MH) (Q : KE) (h : sp__law_well ds M Q fun _ _ => False) : rB E0 c__law_well (endK Q) (startD n__law_well.length ds) M := by
  obtain ⟨ns, t, rfl, ht, hl, q⟩ := h
  change rB E0 c__law_well (endK Q) [some (.fl (ns.map .int)), some (.int t), none, none, none] M
  simp only [c__law_well, rB, rS, rE, rT, rO, rC, rX, rEs, rOX, rL, rWk, rG, rGs, rF, byT, lenT, endK, oflD, wipeD, List.getElem?_cons_zero, List.getElem?_cons_succ, List.set_cons_zero, List.set_cons_succ, Bool.not_true, Bool.not_false, Bool.false_eq_true, if_true, if_false, decide_true, decide_false, Bool.true_and, Bool.and_true, Bool.false_and, List.length_nil, List.length_cons, Nat.zero_add, Nat.reduceAdd, Rd.tr_bl, Rd.tr_non, Rd.tr_int, Rd.tr_str, Rd.tr_tup, Rd.tr_fl, Rd.tr_ref, Rd.eq_int, Rd.eq_str, Rd.eq_bl, Rd.sq_tup, Rd.sq_fl, Rd.sq_ref, Rd.cm_eq, Rd.cm_ne, Rd.cm_in, Rd.cm_ni, Rd.is_non, Rd.isn_non, Rd.is_bl, Rd.isn_bl, Rd.is_int, Rd.isn_int, Rd.is_str, Rd.isn_str, Rd.is_tup, Rd.isn_tup, Rd.is_fl, Rd.isn_fl, Rd.is_ref, Rd.isn_ref, Rd.cm_lt, Rd.cm_le, Rd.cm_gt, Rd.cm_ge, Rd.ix_tup, Rd.ix_fl, Rd.ix_str, Rd.ix_ref, Rd.sl_tup, Rd.sl_str, Rd.sl_fl, Rd.sl_ref, Rd.ln_str, Rd.ln_tup, Rd.ln_fl, Rd.ln_ref, Rd.nt_int, Rd.nt_str, Rd.st_int, Rd.ab_int, Rd.od_str, Rd.mx_int, Rd.mn_int, Rd.dm_int, Rd.tp_seq, Rd.ls_seq, Rd.rp_any, Rd.bn_ii, Rd.bn_ss, Rd.bn_tt, Rd.bn_rr, Rd.bn_sub, Rd.bn_mul, Rd.bn_fdv, Rd.bn_mod, Rd.bn_pow, Rd.mt_app, Rd.mt_joi, Rd.mt_spl, Rd.mt_par, Rd.mt_rpa, Rd.my_split, Rd.my_partition, Rd.my_rpartition, Rd.my_count, Rd.my_find, Rd.my_rfind, Rd.my_join, Rd.my_app, Rd.ty_non_int, Rd.ty_non_str, Rd.ty_non_bool, Rd.ty_non_tuple, Rd.ty_non_list, Rd.ty_bl_int, Rd.ty_bl_str, Rd.ty_bl_bool, Rd.ty_bl_tuple, Rd.ty_bl_list, Rd.ty_int_int, Rd.ty_int_str, Rd.ty_int_bool, Rd.ty_int_tuple, Rd.ty_int_list, Rd.ty_str_int, Rd.ty_str_str, Rd.ty_str_bool, Rd.ty_str_tuple, Rd.ty_str_list, Rd.ty_tup_int, Rd.ty_tup_str, Rd.ty_tup_bool, Rd.ty_tup_tuple, Rd.ty_tup_list, Rd.ty_fl_int, Rd.ty_fl_str, Rd.ty_fl_bool, Rd.ty_fl_tuple, Rd.ty_fl_list, Rd.fm_str, Rd.fm_int, Rd.it_t, Rd.it_f, Rd.it_s, Rd.it_r, sl0, sl1, sl2, sl3, sl4, sl5, sl6, true_and, at0, at1, at2, in2, in3, ofS_inj]
  refine ⟨small_mul (by decide) (by omega), fun r1 hr1 => ?_⟩
  simp only [MH.get_same]
  have hm : ∀ x : Int, 0 ≤ x.fmod 2147483629 ∧ x.fmod 2147483629 < 2147483629 := fun x => ⟨Int.fmod_nonneg_of_pos _ (by decide), Int.fmod_lt_of_pos _ (by decide)⟩
  have hg : ∀ x : Int, 0 ≤ x.fmod 1000000007 ∧ x.fmod 1000000007 < 1000000007 := fun x => ⟨Int.fmod_nonneg_of_pos _ (by decide), Int.fmod_lt_of_pos _ (by decide)⟩
  have hh : ∀ x : Int, 0 ≤ x.fmod 2147483587 ∧ x.fmod 2147483587 < 2147483587 := fun x => ⟨Int.fmod_nonneg_of_pos _ (by decide), Int.fmod_lt_of_pos _ (by decide)⟩
  refine walk_by (fun ds σ M' => (∀ d ∈ ds, ∃ c, d = .int c) ∧ M' = (r1, MO.lst (Mx.cutD (ns.map D.int) none (some 10))) :: M ∧ ∃ s x y, 0 ≤ s ∧ s < 4294967296 ∧ σ = [some (.fl (ns.map .int)), some (.int t), some (.int s), x, y])
    (fun σ M' ⟨_, eM, s, x, y, s0, s1, eσ⟩ => ?_) (fun d ds σ M' ⟨hd, eM, s, x, y, s0, s1, eσ⟩ => ?_) _ _ _ ⟨fun d hd => ?_, rfl, 70001 + 613 * (t : Int), none, none, by omega, by omega, rfl⟩
  · subst eM eσ
    refine ⟨MH.get_same, ?_⟩
    have fin : ∀ own : Int, ∀ Z : List (Option D), (if decide ((10 : Int) ^ (18 : Int).toNat ≤ own) = true then
        (CMulX s 69069 ∧ (1000000007 : Int) ≠ 0 ∧ CMulX (own.fmod 1000000007) 40009 ∧ (2147483587 : Int) ≠ 0 ∧ ∀ r, MH.get ((r1, MO.lst (Mx.cutD (ns.map D.int) none (some 10))) :: M) r = none → MH.get ((r1, MO.lst (Mx.cutD (ns.map D.int) none (some 10))) :: M) r = none → dropQ Q (.ref r) ((r, MO.lst [.int own, .int ((s * 69069 + own.fmod 1000000007 * 40009 + t).fmod 2147483587), .int 0]) :: (r1, MO.lst (Mx.cutD (ns.map D.int) none (some 10))) :: M))
      else (CMulX s 69069 ∧ (1000000007 : Int) ≠ 0 ∧ CMulX (own.fmod 1000000007) 40009 ∧ (2147483587 : Int) ≠ 0 ∧ ∀ r, MH.get ((r1, MO.lst (Mx.cutD (ns.map D.int) none (some 10))) :: M) r = none → MH.get ((r1, MO.lst (Mx.cutD (ns.map D.int) none (some 10))) :: M) r = none → dropQ Q (.ref r) ((r, MO.lst [.int 0, .int ((s * 69069 + own.fmod 1000000007 * 40009 + t).fmod 2147483587), .int 0]) :: (r1, MO.lst (Mx.cutD (ns.map D.int) none (some 10))) :: M))) := by
      intro own Z
      have c2 := hg own
      have m1 : CMulX s 69069 := small_mul (by omega) (by decide)
      have m2 : CMulX (own.fmod 1000000007) 40009 := small_mul (by omega) (by decide)
      have wk : ∀ a, Wok 5000 (a, (s * 69069 + own.fmod 1000000007 * 40009 + t).fmod 2147483587, 0) := fun a => ⟨(hh _).1, Int.lt_trans (hh _).2 (by decide), (by show (0 : Int) ≤ 0; decide), (by show (0 : Int) + ((5000 : Nat) : Int) ≤ 1073741824; decide)⟩
      have go : ∀ a r, MH.get ((r1, MO.lst (Mx.cutD (ns.map D.int) none (some 10))) :: M) r = none → dropQ Q (.ref r) ((r, MO.lst [.int a, .int ((s * 69069 + own.fmod 1000000007 * 40009 + t).fmod 2147483587), .int 0]) :: (r1, MO.lst (Mx.cutD (ns.map D.int) none (some 10))) :: M) := by
        intro a r hr
        obtain ⟨n1, sub⟩ := one_new (u := .lst []) (v := wl (a, (s * 69069 + own.fmod 1000000007 * 40009 + t).fmod 2147483587, 0)) hr1 hr
        exact drop_by sub (q r _ n1 (wk a))
      split
      · exact ⟨m1, by decide, m2, by decide, fun r hr _ => go own r hr⟩
      · exact ⟨m1, by decide, m2, by decide, fun r hr _ => go 0 r hr⟩
    simp only [rB, rS, rE, rT, rO, rC, rX, rEs, rOX, rL, rWk, rG, rGs, rF, byT, lenT, endK, oflD, wipeD, List.getElem?_cons_zero, List.getElem?_cons_succ, List.set_cons_zero, List.set_cons_succ, Bool.not_true, Bool.not_false, Bool.false_eq_true, if_true, if_false, decide_true, decide_false, Bool.true_and, Bool.and_true, Bool.false_and, List.length_nil, List.length_cons, Nat.zero_add, Nat.reduceAdd, Rd.tr_bl, Rd.tr_non, Rd.tr_int, Rd.tr_str, Rd.tr_tup, Rd.tr_fl, Rd.tr_ref, Rd.eq_int, Rd.eq_str, Rd.eq_bl, Rd.sq_tup, Rd.sq_fl, Rd.sq_ref, Rd.cm_eq, Rd.cm_ne, Rd.cm_in, Rd.cm_ni, Rd.is_non, Rd.isn_non, Rd.is_bl, Rd.isn_bl, Rd.is_int, Rd.isn_int, Rd.is_str, Rd.isn_str, Rd.is_tup, Rd.isn_tup, Rd.is_fl, Rd.isn_fl, Rd.is_ref, Rd.isn_ref, Rd.cm_lt, Rd.cm_le, Rd.cm_gt, Rd.cm_ge, Rd.ix_tup, Rd.ix_fl, Rd.ix_str, Rd.ix_ref, Rd.sl_tup, Rd.sl_str, Rd.sl_fl, Rd.sl_ref, Rd.ln_str, Rd.ln_tup, Rd.ln_fl, Rd.ln_ref, Rd.nt_int, Rd.nt_str, Rd.st_int, Rd.ab_int, Rd.od_str, Rd.mx_int, Rd.mn_int, Rd.dm_int, Rd.tp_seq, Rd.ls_seq, Rd.rp_any, Rd.bn_ii, Rd.bn_ss, Rd.bn_tt, Rd.bn_rr, Rd.bn_sub, Rd.bn_mul, Rd.bn_fdv, Rd.bn_mod, Rd.bn_pow, Rd.mt_app, Rd.mt_joi, Rd.mt_spl, Rd.mt_par, Rd.mt_rpa, Rd.my_split, Rd.my_partition, Rd.my_rpartition, Rd.my_count, Rd.my_find, Rd.my_rfind, Rd.my_join, Rd.my_app, Rd.ty_non_int, Rd.ty_non_str, Rd.ty_non_bool, Rd.ty_non_tuple, Rd.ty_non_list, Rd.ty_bl_int, Rd.ty_bl_str, Rd.ty_bl_bool, Rd.ty_bl_tuple, Rd.ty_bl_list, Rd.ty_int_int, Rd.ty_int_str, Rd.ty_int_bool, Rd.ty_int_tuple, Rd.ty_int_list, Rd.ty_str_int, Rd.ty_str_str, Rd.ty_str_bool, Rd.ty_str_tuple, Rd.ty_str_list, Rd.ty_tup_int, Rd.ty_tup_str, Rd.ty_tup_bool, Rd.ty_tup_tuple, Rd.ty_tup_list, Rd.ty_fl_int, Rd.ty_fl_str, Rd.ty_fl_bool, Rd.ty_fl_tuple, Rd.ty_fl_list, Rd.fm_str, Rd.fm_int, Rd.it_t, Rd.it_f, Rd.it_s, Rd.it_r, sl0, sl1, sl2, sl3, sl4, sl5, sl6, true_and, at0, at1, at2, in2, in3, ofS_inj]
    have cp : CPow 10 18 := ⟨by decide, by decide, by decide⟩
    split
    · rename_i hlt
      have hlt : t < ns.length := by
        have := of_decide_eq_true hlt
        rw [List.length_map] at this
        omega
      refine ⟨.int ns[t], by rw [atI_nat, List.getElem?_map, List.getElem?_eq_getElem hlt]; rfl, ?_⟩
      simp only [rB, rS, rE, rT, rO, rC, rX, rEs, rOX, rL, rWk, rG, rGs, rF, byT, lenT, endK, oflD, wipeD, List.getElem?_cons_zero, List.getElem?_cons_succ, List.set_cons_zero, List.set_cons_succ, Bool.not_true, Bool.not_false, Bool.false_eq_true, if_true, if_false, decide_true, decide_false, Bool.true_and, Bool.and_true, Bool.false_and, List.length_nil, List.length_cons, Nat.zero_add, Nat.reduceAdd, Rd.tr_bl, Rd.tr_non, Rd.tr_int, Rd.tr_str, Rd.tr_tup, Rd.tr_fl, Rd.tr_ref, Rd.eq_int, Rd.eq_str, Rd.eq_bl, Rd.sq_tup, Rd.sq_fl, Rd.sq_ref, Rd.cm_eq, Rd.cm_ne, Rd.cm_in, Rd.cm_ni, Rd.is_non, Rd.isn_non, Rd.is_bl, Rd.isn_bl, Rd.is_int, Rd.isn_int, Rd.is_str, Rd.isn_str, Rd.is_tup, Rd.isn_tup, Rd.is_fl, Rd.isn_fl, Rd.is_ref, Rd.isn_ref, Rd.cm_lt, Rd.cm_le, Rd.cm_gt, Rd.cm_ge, Rd.ix_tup, Rd.ix_fl, Rd.ix_str, Rd.ix_ref, Rd.sl_tup, Rd.sl_str, Rd.sl_fl, Rd.sl_ref, Rd.ln_str, Rd.ln_tup, Rd.ln_fl, Rd.ln_ref, Rd.nt_int, Rd.nt_str, Rd.st_int, Rd.ab_int, Rd.od_str, Rd.mx_int, Rd.mn_int, Rd.dm_int, Rd.tp_seq, Rd.ls_seq, Rd.rp_any, Rd.bn_ii, Rd.bn_ss, Rd.bn_tt, Rd.bn_rr, Rd.bn_sub, Rd.bn_mul, Rd.bn_fdv, Rd.bn_mod, Rd.bn_pow, Rd.mt_app, Rd.mt_joi, Rd.mt_spl, Rd.mt_par, Rd.mt_rpa, Rd.my_split, Rd.my_partition, Rd.my_rpartition, Rd.my_count, Rd.my_find, Rd.my_rfind, Rd.my_join, Rd.my_app, Rd.ty_non_int, Rd.ty_non_str, Rd.ty_non_bool, Rd.ty_non_tuple, Rd.ty_non_list, Rd.ty_bl_int, Rd.ty_bl_str, Rd.ty_bl_bool, Rd.ty_bl_tuple, Rd.ty_bl_list, Rd.ty_int_int, Rd.ty_int_str, Rd.ty_int_bool, Rd.ty_int_tuple, Rd.ty_int_list, Rd.ty_str_int, Rd.ty_str_str, Rd.ty_str_bool, Rd.ty_str_tuple, Rd.ty_str_list, Rd.ty_tup_int, Rd.ty_tup_str, Rd.ty_tup_bool, Rd.ty_tup_tuple, Rd.ty_tup_list, Rd.ty_fl_int, Rd.ty_fl_str, Rd.ty_fl_bool, Rd.ty_fl_tuple, Rd.ty_fl_list, Rd.fm_str, Rd.fm_int, Rd.it_t, Rd.it_f, Rd.it_s, Rd.it_r, sl0, sl1, sl2, sl3, sl4, sl5, sl6, true_and, at0, at1, at2, in2, in3, ofS_inj]
      exact ⟨cp, fin (if ns[t] < 0 then -ns[t] else ns[t]) []⟩
    · exact ⟨cp, fin 0 []⟩
  · subst eM eσ
    obtain ⟨c, rfl⟩ := hd d List.mem_cons_self
    refine ⟨MH.get_same, fun next hn => ?_⟩
    have c1 := hg c
    simp only [rB, rS, rE, rT, rO, rC, rX, rEs, rOX, rL, rWk, rG, rGs, rF, byT, lenT, endK, oflD, wipeD, List.getElem?_cons_zero, List.getElem?_cons_succ, List.set_cons_zero, List.set_cons_succ, Bool.not_true, Bool.not_false, Bool.false_eq_true, if_true, if_false, decide_true, decide_false, Bool.true_and, Bool.and_true, Bool.false_and, List.length_nil, List.length_cons, Nat.zero_add, Nat.reduceAdd, Rd.tr_bl, Rd.tr_non, Rd.tr_int, Rd.tr_str, Rd.tr_tup, Rd.tr_fl, Rd.tr_ref, Rd.eq_int, Rd.eq_str, Rd.eq_bl, Rd.sq_tup, Rd.sq_fl, Rd.sq_ref, Rd.cm_eq, Rd.cm_ne, Rd.cm_in, Rd.cm_ni, Rd.is_non, Rd.isn_non, Rd.is_bl, Rd.isn_bl, Rd.is_int, Rd.isn_int, Rd.is_str, Rd.isn_str, Rd.is_tup, Rd.isn_tup, Rd.is_fl, Rd.isn_fl, Rd.is_ref, Rd.isn_ref, Rd.cm_lt, Rd.cm_le, Rd.cm_gt, Rd.cm_ge, Rd.ix_tup, Rd.ix_fl, Rd.ix_str, Rd.ix_ref, Rd.sl_tup, Rd.sl_str, Rd.sl_fl, Rd.sl_ref, Rd.ln_str, Rd.ln_tup, Rd.ln_fl, Rd.ln_ref, Rd.nt_int, Rd.nt_str, Rd.st_int, Rd.ab_int, Rd.od_str, Rd.mx_int, Rd.mn_int, Rd.dm_int, Rd.tp_seq, Rd.ls_seq, Rd.rp_any, Rd.bn_ii, Rd.bn_ss, Rd.bn_tt, Rd.bn_rr, Rd.bn_sub, Rd.bn_mul, Rd.bn_fdv, Rd.bn_mod, Rd.bn_pow, Rd.mt_app, Rd.mt_joi, Rd.mt_spl, Rd.mt_par, Rd.mt_rpa, Rd.my_split, Rd.my_partition, Rd.my_rpartition, Rd.my_count, Rd.my_find, Rd.my_rfind, Rd.my_join, Rd.my_app, Rd.ty_non_int, Rd.ty_non_str, Rd.ty_non_bool, Rd.ty_non_tuple, Rd.ty_non_list, Rd.ty_bl_int, Rd.ty_bl_str, Rd.ty_bl_bool, Rd.ty_bl_tuple, Rd.ty_bl_list, Rd.ty_int_int, Rd.ty_int_str, Rd.ty_int_bool, Rd.ty_int_tuple, Rd.ty_int_list, Rd.ty_str_int, Rd.ty_str_str, Rd.ty_str_bool, Rd.ty_str_tuple, Rd.ty_str_list, Rd.ty_tup_int, Rd.ty_tup_str, Rd.ty_tup_bool, Rd.ty_tup_tuple, Rd.ty_tup_list, Rd.ty_fl_int, Rd.ty_fl_str, Rd.ty_fl_bool, Rd.ty_fl_tuple, Rd.ty_fl_list, Rd.fm_str, Rd.fm_int, Rd.it_t, Rd.it_f, Rd.it_s, Rd.it_r, sl0, sl1, sl2, sl3, sl4, sl5, sl6, true_and, at0, at1, at2, in2, in3, ofS_inj]
    refine ⟨small_mul (by omega) (by decide), by decide, small_mul (by omega) (by decide), by decide, ?_⟩
    exact hn _ _ ⟨fun d hd' => hd d (List.mem_cons_of_mem _ hd'), rfl, _, _, _, (hm _).1, Int.lt_trans (hm _).2 (by decide), rfl⟩
  · have : d ∈ ns.map D.int := by
      unfold Mx.cutD at hd
      exact List.mem_of_mem_drop (List.mem_of_mem_take hd)
    obtain ⟨c, _, rfl⟩ := List.mem_map.mp this
    exact ⟨c, rfl⟩
theorem pl_law (ds : List D) (M : MH) (Q : KE) (h : sp_law ds M Q fun _ _ => False) : rB E0 c_law (endK Q) (startD n_law.length ds) M := by
  obtain ⟨ns, rfl, hl, q⟩ := h
  change rB E0 c_law (endK Q) [some (.fl (ns.map .int)), none] M
  simp only [c_law, rB, rS, rE, rT, rO, rC, rX, rEs, rOX, rL, rWk, rG, rGs, rF, byT, lenT, endK, oflD, wipeD, List.getElem?_cons_zero, List.getElem?_cons_succ, List.set_cons_zero, List.set_cons_succ, Bool.not_true, Bool.not_false, Bool.false_eq_true, if_true, if_false, decide_true, decide_false, Bool.true_and, Bool.and_true, Bool.false_and, List.length_nil, List.length_cons, Nat.zero_add, Nat.reduceAdd, Rd.tr_bl, Rd.tr_non, Rd.tr_int, Rd.tr_str, Rd.tr_tup, Rd.tr_fl, Rd.tr_ref, Rd.eq_int, Rd.eq_str, Rd.eq_bl, Rd.sq_tup, Rd.sq_fl, Rd.sq_ref, Rd.cm_eq, Rd.cm_ne, Rd.cm_in, Rd.cm_ni, Rd.is_non, Rd.isn_non, Rd.is_bl, Rd.isn_bl, Rd.is_int, Rd.isn_int, Rd.is_str, Rd.isn_str, Rd.is_tup, Rd.isn_tup, Rd.is_fl, Rd.isn_fl, Rd.is_ref, Rd.isn_ref, Rd.cm_lt, Rd.cm_le, Rd.cm_gt, Rd.cm_ge, Rd.ix_tup, Rd.ix_fl, Rd.ix_str, Rd.ix_ref, Rd.sl_tup, Rd.sl_str, Rd.sl_fl, Rd.sl_ref, Rd.ln_str, Rd.ln_tup, Rd.ln_fl, Rd.ln_ref, Rd.nt_int, Rd.nt_str, Rd.st_int, Rd.ab_int, Rd.od_str, Rd.mx_int, Rd.mn_int, Rd.dm_int, Rd.tp_seq, Rd.ls_seq, Rd.rp_any, Rd.bn_ii, Rd.bn_ss, Rd.bn_tt, Rd.bn_rr, Rd.bn_sub, Rd.bn_mul, Rd.bn_fdv, Rd.bn_mod, Rd.bn_pow, Rd.mt_app, Rd.mt_joi, Rd.mt_spl, Rd.mt_par, Rd.mt_rpa, Rd.my_split, Rd.my_partition, Rd.my_rpartition, Rd.my_count, Rd.my_find, Rd.my_rfind, Rd.my_join, Rd.my_app, Rd.ty_non_int, Rd.ty_non_str, Rd.ty_non_bool, Rd.ty_non_tuple, Rd.ty_non_list, Rd.ty_bl_int, Rd.ty_bl_str, Rd.ty_bl_bool, Rd.ty_bl_tuple, Rd.ty_bl_list, Rd.ty_int_int, Rd.ty_int_str, Rd.ty_int_bool, Rd.ty_int_tuple, Rd.ty_int_list, Rd.ty_str_int, Rd.ty_str_str, Rd.ty_str_bool, Rd.ty_str_tuple, Rd.ty_str_list, Rd.ty_tup_int, Rd.ty_tup_str, Rd.ty_tup_bool, Rd.ty_tup_tuple, Rd.ty_tup_list, Rd.ty_fl_int, Rd.ty_fl_str, Rd.ty_fl_bool, Rd.ty_fl_tuple, Rd.ty_fl_list, Rd.fm_str, Rd.fm_int, Rd.it_t, Rd.it_f, Rd.it_s, Rd.it_r, sl0, sl1, sl2, sl3, sl4, sl5, sl6, true_and, at0, at1, at2, in2, in3, ofS_inj]
  obtain ⟨n, hn, hn2⟩ : ∃ n : Nat, (if (if (4 : Int) < (((ns.map D.int).length : Nat) : Int) then (4 : Int) else (((ns.map D.int).length : Nat) : Int)) > 1 then (if (4 : Int) < (((ns.map D.int).length : Nat) : Int) then (4 : Int) else (((ns.map D.int).length : Nat) : Int)) else 1) = (n : Int) ∧ n ≤ 4 := by
    refine ⟨(if (if (4 : Int) < (((ns.map D.int).length : Nat) : Int) then (4 : Int) else (((ns.map D.int).length : Nat) : Int)) > 1 then (if (4 : Int) < (((ns.map D.int).length : Nat) : Int) then (4 : Int) else (((ns.map D.int).length : Nat) : Int)) else 1).toNat, ?_, ?_⟩ <;> (split <;> split <;> omega)
  rw [hn]
  refine ⟨⟨by omega, by omega⟩, ?_⟩
  have e1 : ((n : Nat) : Int).toNat = n := by omega
  rw [e1]
  refine gather_by (fun ds acc M' => ∃ i, ds = (rangeD 0 n).drop i ∧ i ≤ n ∧ SubM M M' ∧ acc = List.replicate i (.bl true)) (fun acc M' ⟨i, e, hi, hs, ea⟩ => ?_) (fun d ds acc M' ⟨i, e, hi, hs, ea⟩ => ?_) _ _ _ ⟨0, rfl, Nat.zero_le _, .rfl, rfl⟩
  · refine ⟨trivial, List.replicate i true, by rw [ea, List.map_replicate], ?_⟩
    have : (List.replicate i true).all id = true := by simp
    rw [this]
    exact drop_by hs q
  · obtain ⟨hlt, rfl, rfl⟩ := range_drop e
    refine ⟨trivial, by rw [ea, List.length_replicate]; exact Nat.lt_of_le_of_lt (show _ ≤ 4 by omega) (by decide), fun kk k1 k2 => ?_⟩
    refine ⟨ns, i, rfl, by omega, hl, fun r w hr hw => ?_⟩
    refine ⟨r, w, rfl, MH.get_same, hw, fun w' => ?_⟩
    rw [MH.put_same]
    exact k1 _ _ ⟨i + 1, rfl, hlt, hs.trans (.new hr), by rw [ea]; exact (List.replicate_succ' ..).symm⟩
end Jn
namespace Jn
open PySem PySem.Spec PyProof.Rows L2 Mx TL
def Sh (B : Nat) (p : PyData) : Prop := p.showable = true ∧ p.shown.length ≤ B
theorem Sh.le {B C : Nat} {p : PyData} (h : Sh B p) (hc : B ≤ C) : Sh C p := ⟨h.1, Nat.le_trans h.2 hc⟩
theorem shownAll_map : ∀ ps : List PyData, PyData.shownAll ps = ps.map PyData.shown
  | [] => rfl
  | p :: ps => by
    show p.shown :: PyData.shownAll ps = _
    rw [shownAll_map ps]
    rfl
theorem showAll {B : Nat} : ∀ {ps : List PyData}, (∀ p ∈ ps, Sh B p) → PyData.showableAll ps = true ∧ ((ps.map PyData.shown).map (·.length)).sum ≤ ps.length * B
  | [], _ => ⟨rfl, by simp⟩
  | p :: ps, h => by
    obtain ⟨a, b⟩ := showAll fun q hq => h q (List.mem_cons_of_mem _ hq)
    obtain ⟨c, d⟩ := h p List.mem_cons_self
    refine ⟨?_, ?_⟩
    · show (p.showable && PyData.showableAll ps) = true
      rw [c, a]
      rfl
    · simp only [List.map_cons, List.sum_cons, List.length_cons]
      rw [Nat.add_mul]
      omega
theorem sh_list {B n : Nat} {ps : List PyData} (h : ∀ p ∈ ps, Sh B p) (hn : ps.length ≤ n) : Sh (n * B + 2 * n + 3) (.list ps) := by
  obtain ⟨a, b⟩ := showAll h
  refine ⟨a, ?_⟩
  show (listText (PyData.shownAll ps)).length ≤ _
  rw [shownAll_map]
  have := listText_len_le (ps.map PyData.shown)
  rw [List.length_map] at this
  have : ps.length * B ≤ n * B := Nat.mul_le_mul_right _ hn
  omega
theorem sh_tup {B n : Nat} {ps : List PyData} (h : ∀ p ∈ ps, Sh B p) (hn : ps.length ≤ n) : Sh (n * B + 2 * n + 3) (.tuple ps) := by
  obtain ⟨a, b⟩ := showAll h
  refine ⟨a, ?_⟩
  show (tupleText (PyData.shownAll ps)).length ≤ _
  rw [shownAll_map]
  have := tupleText_len_le (ps.map PyData.shown)
  rw [List.length_map] at this
  have : ps.length * B ≤ n * B := Nat.mul_le_mul_right _ hn
  omega
theorem sh_int {n : Nat} (h : n ≤ 999999999999) : Sh 12 (.int n) := ⟨decide_eq_true (log_small h), (num_len h).2⟩
theorem sh_str {s : Str} {n : Nat} (h : ∀ c ∈ tl s, c < 2097152) (hn : s.length ≤ n) : Sh (10 * n + 2) (.str s) := by
  refine ⟨rfl, ?_⟩
  have := PySem.StrLaws.reprText_len s fun c hc => Nat.lt_trans (h c hc) (by decide)
  show (reprText s).length ≤ _
  omega
def evP : JE → PyData
  | .ask => .tuple [.str "ask"]
  | .lost => .tuple [.str "lost"]
  | .cut => .tuple [.str "cut"]
  | .gone => .tuple [.str "gone"]
  | .moved a => .tuple [.str "moved", adP a]
  | .same a => .tuple [.str "same", adP a]
  | .page n ls => .tuple [.str "page", .int n, .tuple (ls.map adP)]
def rowP (r : JR) : PyData := .tuple [.int r.m, adP r.a, evP r.e]
theorem mapM_adsN (M : MH) (n : Nat) : ∀ ads : List Ad, (ads.map adD).mapM (pyOf M (n + 2)) = some (ads.map adP)
  | [] => rfl
  | a :: ads => by
    rw [List.map_cons, List.mapM_cons]
    show (do let y ← some (adP a); let ys ← (ads.map adD).mapM (pyOf M (n + 2)); pure (y :: ys)) = _
    rw [mapM_adsN M n ads]
    rfl
theorem py_ev (M : MH) (n : Nat) (e : JE) : pyOf M (n + 4) (evD e) = some (evP e) := by
  cases e with
  | page k ls =>
    show ([D.str "page", .int k, .tup (ls.map adD)].mapM (pyOf M (n + 3))).map PyData.tuple = _
    have h : pyOf M (n + 3) (.tup (ls.map adD)) = some (.tuple (ls.map adP)) := by
      show ((ls.map adD).mapM (pyOf M (n + 2))).map PyData.tuple = _
      rw [mapM_adsN]
      rfl
    show (([D.str "page", .int k, .tup (ls.map adD)].mapM (pyOf M (n + 3))).map PyData.tuple) = some (.tuple [.str "page", .int k, .tuple (ls.map adP)])
    simp only [List.mapM_cons, List.mapM_nil, h]
    rfl
  | _ => rfl
theorem py_row (M : MH) (n : Nat) (r : JR) : pyOf M (n + 5) (rowD r) = some (rowP r) := by
  have h := py_ev M n r.e
  show ([D.int r.m, adD r.a, evD r.e].mapM (pyOf M (n + 4))).map PyData.tuple = some (.tuple [.int r.m, adP r.a, evP r.e])
  simp only [List.mapM_cons, List.mapM_nil, h]
  rfl
theorem py_rows (M : MH) (n : Nat) (rs : List JR) : pyOf M (n + 6) (.tup (rs.map rowD)) = some (.tuple (rs.map rowP)) := by
  have h : ∀ rs : List JR, (rs.map rowD).mapM (pyOf M (n + 5)) = some (rs.map rowP) := by
    intro rs
    induction rs with
    | nil => rfl
    | cons r rs ih =>
      rw [List.map_cons, List.mapM_cons, py_row, ih]
      rfl
  show ((rs.map rowD).mapM (pyOf M (n + 5))).map PyData.tuple = _
  rw [h]
  rfl
theorem py_two {M : MH} {r : Addr} {x y : D} {p q : PyData} (h : MH.get M r = some (.lst [x, y])) (hx : pyOf M 39 x = some p) (hy : pyOf M 39 y = some q) : pyOf M 40 (.ref r) = some (.list [p, q]) := by
  show (match M.get r with | some (.lst ds) => (ds.mapM (pyOf M 39)).map PyData.list | _ => none) = _
  rw [h]
  show ([x, y].mapM (pyOf M 39)).map PyData.list = _
  simp only [List.mapM_cons, List.mapM_nil, hx, hy]
  rfl
theorem low_ad {a : Ad} (h : okAd a) : Sh 402 (PyData.str a.1) ∧ Sh 402 (PyData.str a.2) :=
  ⟨(sh_str (n := 40) (fun c hc => by have := letter_bd (h.1.2.2 c hc); omega) (by have := h.1.2.1; omega)), (sh_str (n := 40) (fun c hc => by have := sign_bd (h.2.2.2 c hc); omega) h.2.2.1)⟩
theorem sh_ad {a : Ad} (h : okAd a) : Sh 811 (adP a) := by
  obtain ⟨h1, h2⟩ := low_ad h
  refine (sh_tup (B := 402) (n := 2) (fun p hp => ?_) (by simp)).le (by omega)
  have hp' : p = .str a.1 ∨ p = .str a.2 := by simpa using hp
  rcases hp' with rfl | rfl
  · exact h1
  · exact h2
theorem sh_ev {e : JE} (h : okEv e) : Sh 14652 (evP e) := by
  have one : ∀ s : Str, (∀ c ∈ tl s, c < 2097152) ∧ s.length ≤ 5 → Sh 4881 (PyData.str s) := fun s hs => (sh_str (n := 5) hs.1 hs.2).le (by omega)
  have w : ∀ s : Str, (∀ c ∈ tl s, c < 2097152) ∧ s.length ≤ 5 → Sh 14652 (.tuple [PyData.str s]) := fun s hs =>
    (sh_tup (B := 4881) (n := 3) (fun p hp => by obtain rfl := List.mem_singleton.mp hp; exact one s hs) (by simp)).le (by omega)
  have w2 : ∀ (s : Str) (a : Ad), (∀ c ∈ tl s, c < 2097152) ∧ s.length ≤ 5 → okAd a → Sh 14652 (.tuple [PyData.str s, adP a]) := fun s a hs ha =>
    (sh_tup (B := 4881) (n := 3) (fun p hp => by
      have hp' : p = .str s ∨ p = adP a := by simpa using hp
      rcases hp' with rfl | rfl
      · exact one s hs
      · exact (sh_ad ha).le (by omega)) (by simp)).le (by omega)
  cases e with
  | ask => exact w (Str.ofString "ask") (by decide +kernel)
  | lost => exact w (Str.ofString "lost") (by decide +kernel)
  | cut => exact w (Str.ofString "cut") (by decide +kernel)
  | gone => exact w (Str.ofString "gone") (by decide +kernel)
  | moved a => exact w2 (Str.ofString "moved") a (by decide +kernel) h
  | same a => exact w2 (Str.ofString "same") a (by decide +kernel) h
  | page n ls =>
    refine (sh_tup (B := 4881) (n := 3) (fun p hp => ?_) (by simp)).le (by omega)
    have hp' : p = .str (Str.ofString "page") ∨ p = .int n ∨ p = .tuple (ls.map adP) := by simpa using hp
    rcases hp' with rfl | rfl | rfl
    · exact one (Str.ofString "page") (by decide +kernel)
    · exact (sh_int (by have := h.1; omega)).le (by omega)
    · refine (sh_tup (B := 811) (n := 6) (fun q hq => ?_) (by rw [List.length_map]; exact h.2.1)).le (by omega)
      obtain ⟨a, ha, rfl⟩ := List.mem_map.mp hq
      exact sh_ad (h.2.2 a ha)
theorem sh_row {r : JR} (h : okRow r) : Sh 43965 (rowP r) := by
  refine (sh_tup (B := 14652) (n := 3) (fun p hp => ?_) (by simp)).le (by omega)
  have hp' : p = .int r.m ∨ p = adP r.a ∨ p = evP r.e := by simpa using hp
  rcases hp' with rfl | rfl | rfl
  · exact (sh_int h.1).le (by omega)
  · exact (sh_ad h.2.1).le (by omega)
  · exact sh_ev h.2.2
theorem sh_rows {rs : List JR} (h : ∀ r ∈ rs, okRow r) (hl : rs.length ≤ 12) : Sh 527607 (.tuple (rs.map rowP)) := by
  refine (sh_tup (B := 43965) (n := 12) (fun p hp => ?_) (by rw [List.length_map]; exact hl)).le (by omega)
  obtain ⟨r, hr, rfl⟩ := List.mem_map.mp hp
  exact sh_row (h r hr)
theorem sh_two {B : Nat} {p q : PyData} (hp : Sh B p) (hq : Sh B q) (hB : B ≤ 8000000) : Sh 16777216 (.list [p, q]) := by
  refine (sh_list (B := B) (n := 2) (fun x hx => ?_) (by simp)).le (by omega)
  have hx' : x = p ∨ x = q := by simpa using hx
  rcases hx' with rfl | rfl
  · exact hp
  · exact hq
theorem repr_by {M : MH} {x : D} {p : PyData} {K : KE} (h : pyOf M 40 x = some p) (hs : Sh 16777216 p) (q : K (.str p.shown) M) : bltD .repr [x] M K := ⟨p, h, hs.1, sz _ hs.2, q⟩
end Jn
namespace Jn
open PySem PySem.Spec PyProof.Rows L2 Mx TL
theorem ss_put {M M' : MH} {p : Addr} {w w2 : Wl} {u : MO} (hp : MH.get M p = some u) (s : SubM (M.put p (wl w)) M') : SubM (M.put p (wl w2)) (M'.put p (wl w2)) := fun a o e => by
  have gp : MH.get M' p = some (wl w) := s p _ (get_put hp)
  by_cases h : a = p
  · subst h
    rw [get_put hp] at e
    rw [get_put gp]
    exact e
  · rw [MH.get_put_ne h] at e ⊢
    refine s a o ?_
    rw [MH.get_put_ne h]
    exact e
theorem rB_cons {s : CS} {b : CB} {k : MK} {σ : Sd} {M : MH} (h : rS E0 s ⟨rB E0 b k, k.rt, k.bk, k.ct⟩ σ M) : rB E0 (.cons s b) k σ M := h
theorem two_shown {M : MH} {r : Addr} {x y : D} {p q : PyData} {B : Nat} {F : PyData → Prop} (h : MH.get M r = some (.lst [x, y])) (hx : pyOf M 39 x = some p) (hy : pyOf M 39 y = some q) (hp : Sh B p) (hq : Sh B q) (hB : B ≤ 8000000) (f : F (.list [p, q])) :
    ∃ d, pyOf M 40 (.ref r) = some d ∧ d.showable = true ∧ d.shown.length ≤ sizeLine ∧ F d := ⟨_, py_two h hx hy, (sh_two hp hq hB).1, sz _ (sh_two hp hq hB).2, f⟩
theorem jlines_get : ∀ {rs : List JR} {k i : Nat} {r : JR}, rs[i]? = some r → (jlines k rs)[i]? = some (jline (k + i) r)
  | [], _, _, _, h => by simp at h
  | a :: rs, k, 0, r, h => by
    simp at h
    subst h
    rfl
  | a :: rs, k, i + 1, r, h => by
    have := jlines_get (rs := rs) (k := k + 1) (i := i) (r := r) (by simpa using h)
    show (jlines (k + 1) rs)[i]? = _
    rw [this]
    congr 2
    omega
theorem jline_signs {i : Nat} {r : JR} (hi : i ≤ 1000) (ok : okRow r) : ∀ c ∈ tl (jline i r), c < 2097152 := fun c hc => by
  unfold jline at hc
  rw [tl_append, tl_feed] at hc
  rcases List.mem_append.mp hc with hc | hc
  · have := (sealed_ok hi ok).1 c hc
    omega
  · have : c = 10 := by simpa using hc
    omega
theorem jlines_signs : ∀ {rs : List JR} {k : Nat}, k + rs.length ≤ 1000 → (∀ r ∈ rs, okRow r) → ∀ w ∈ jlines k rs, ∀ c ∈ tl w, c < 2097152
  | [], _, _, _ => fun w hw => (by cases hw)
  | r :: rs, k, h, ok => by
    rw [List.length_cons] at h
    intro w hw
    rcases List.mem_cons.mp hw with rfl | hw
    · exact jline_signs (by omega) (ok r List.mem_cons_self)
    · exact jlines_signs (rs := rs) (k := k + 1) (by omega) (fun x hx => ok x (List.mem_cons_of_mem _ hx)) w hw
theorem journal_signs {rs : List JR} (h : rs.length ≤ 100) (ok : ∀ r ∈ rs, okRow r) : ∀ c ∈ tl (journalT rs), c < 2097152 := fun c hc => by
  unfold journalT at hc
  rw [tl_joinT, tl_none] at hc
  rcases mem_joinL hc with ⟨w, hw, hc⟩ | hc
  · obtain ⟨v, hv, rfl⟩ := List.mem_map.mp hw
    exact jlines_signs (by omega) ok v hv c hc
  · cases hc
theorem app_empty (x : Str) : x ++ Str.ofString "" = x := ext_tl (by rw [tl_append, tl_none, List.append_nil])
theorem journal_nil (x : Str) : journalT [] ++ x = x := ext_tl (by
  rw [tl_append]
  unfold journalT
  rw [tl_joinT]
  rfl)
theorem journal_two (a b : JR) : journalT [a, b] = jline 0 a ++ jline 1 b := ext_tl (by
  unfold journalT
  rw [tl_joinT, tl_none, tl_append]
  show joinL [] [tl (jline 0 a), tl (jline 1 b)] = _
  rw [joinL_nil, joinL_nil]
  simp [joinL])
theorem cut_to {α : Type} (xs : List α) (k : Nat) : Mx.cutD xs none (some (k : Int)) = xs.take k := by
  unfold Mx.cutD
  rw [HT.sIx_nat, HT.sIx_none, List.drop_zero, Nat.sub_zero]
  by_cases h : k ≤ xs.length
  · rw [Nat.min_eq_left h]
  · rw [Nat.min_eq_right (by omega), List.take_of_length_le (Nat.le_refl _), List.take_of_length_le (by omega)]
theorem cut_last {α : Type} (xs : List α) : ∃ k, k ≤ xs.length - 1 ∧ Mx.cutD xs none (some (-1)) = xs.take k := by
  refine ⟨HT.sIx xs.length xs.length (some (-1)), ?_, ?_⟩
  · show (if (-1 : Int) < 0 then (-1 + (xs.length : Int)).toNat else min (-1 : Int).toNat xs.length) ≤ _
    rw [if_pos (by decide)]
    omega
  · unfold Mx.cutD
    rw [HT.sIx_none, List.drop_zero, Nat.sub_zero]
theorem piece_ok {i : Nat} {r : JR} (hi : i ≤ 1000) (ok : okRow r) {k : Nat} (hk : k ≤ (tl (jline i r)).length - 1) : 10 ∉ tl (⟨((tl (jline i r)).take k).toArray⟩ : Str) ∧ (⟨((tl (jline i r)).take k).toArray⟩ : Str).length ≤ 1000 := by
  have e : tl (jline i r) = tl (sealedT i r) ++ [10] := by
    unfold jline
    rw [tl_append, tl_feed]
  have e2 : (tl (jline i r)).take k = (tl (sealedT i r)).take k := by
    rw [e, List.length_append] at hk
    rw [e, List.take_append_of_le_length (by simp at hk; exact hk)]
  obtain ⟨s1, s2⟩ := sealed_ok hi ok
  refine ⟨fun z => ?_, ?_⟩
  · rw [tl_mk, e2] at z
    have := s1 10 (List.mem_of_mem_take z)
    omega
  · rw [len_tl, tl_mk, e2, List.length_take]
    rw [len_tl] at s2
    omega
theorem pl__law_right (ds : List D) (M : MH) (Q : KE) (h : sp__law_right ds M Q fun _ _ => False) : rB E0 c__law_right (endK Q) (startD n__law_right.length ds) M := by
  obtain ⟨p, w0, rfl, hp0, hw0, q⟩ := h
  change rB E0 c__law_right (endK Q) [some (.ref p), none, none, none, none, none, none, none, none, none, none, none] M
  have s0 : SubM (M.put p (wl w0)) M := by rw [MH.put_id hp0]; exact .rfl
  suffices key : ∀ M0, SubM (M.put p (wl w0)) M0 → rB E0 c__law_right (endK Q) [some (.ref p), none, none, none, none, none, none, none, none, none, none, none] M0 from key M s0
  clear s0
  intro M0 s0
  have g0 : MH.get M0 p = some (wl w0) := s0 p _ (get_put hp0)
  unfold c__law_right
  refine rB_cons ?_
  simp only [rS, rE, rT, rO, rC, rX, rEs, rOX, rL, rWk, rG, rGs, rF, byT, lenT, endK, oflD, wipeD, List.getElem?_cons_zero, List.getElem?_cons_succ, List.set_cons_zero, List.set_cons_succ, Bool.not_true, Bool.not_false, Bool.false_eq_true, if_true, if_false, decide_true, decide_false, Bool.true_and, Bool.and_true, Bool.false_and, List.length_nil, List.length_cons, Nat.zero_add, Nat.reduceAdd, Rd.tr_bl, Rd.tr_non, Rd.tr_int, Rd.tr_str, Rd.tr_tup, Rd.tr_fl, Rd.tr_ref, Rd.eq_int, Rd.eq_str, Rd.eq_bl, Rd.sq_tup, Rd.sq_fl, Rd.sq_ref, Rd.cm_eq, Rd.cm_ne, Rd.cm_in, Rd.cm_ni, Rd.is_non, Rd.isn_non, Rd.is_bl, Rd.isn_bl, Rd.is_int, Rd.isn_int, Rd.is_str, Rd.isn_str, Rd.is_tup, Rd.isn_tup, Rd.is_fl, Rd.isn_fl, Rd.is_ref, Rd.isn_ref, Rd.cm_lt, Rd.cm_le, Rd.cm_gt, Rd.cm_ge, Rd.ix_tup, Rd.ix_fl, Rd.ix_str, Rd.ix_ref, Rd.sl_tup, Rd.sl_str, Rd.sl_fl, Rd.sl_ref, Rd.ln_str, Rd.ln_tup, Rd.ln_fl, Rd.ln_ref, Rd.nt_int, Rd.nt_str, Rd.st_int, Rd.ab_int, Rd.od_str, Rd.mx_int, Rd.mn_int, Rd.dm_int, Rd.tp_seq, Rd.ls_seq, Rd.rp_any, Rd.bn_ii, Rd.bn_ss, Rd.bn_tt, Rd.bn_rr, Rd.bn_sub, Rd.bn_mul, Rd.bn_fdv, Rd.bn_mod, Rd.bn_pow, Rd.mt_app, Rd.mt_joi, Rd.mt_spl, Rd.mt_par, Rd.mt_rpa, Rd.my_split, Rd.my_partition, Rd.my_rpartition, Rd.my_count, Rd.my_find, Rd.my_rfind, Rd.my_join, Rd.my_app, Rd.ty_non_int, Rd.ty_non_str, Rd.ty_non_bool, Rd.ty_non_tuple, Rd.ty_non_list, Rd.ty_bl_int, Rd.ty_bl_str, Rd.ty_bl_bool, Rd.ty_bl_tuple, Rd.ty_bl_list, Rd.ty_int_int, Rd.ty_int_str, Rd.ty_int_bool, Rd.ty_int_tuple, Rd.ty_int_list, Rd.ty_str_int, Rd.ty_str_str, Rd.ty_str_bool, Rd.ty_str_tuple, Rd.ty_str_list, Rd.ty_tup_int, Rd.ty_tup_str, Rd.ty_tup_bool, Rd.ty_tup_tuple, Rd.ty_tup_list, Rd.ty_fl_int, Rd.ty_fl_str, Rd.ty_fl_bool, Rd.ty_fl_tuple, Rd.ty_fl_list, Rd.fm_str, Rd.fm_int, Rd.it_t, Rd.it_f, Rd.it_s, Rd.it_r, sl0, sl1, sl2, sl3, sl4, sl5, sl6, true_and, at0, at1, at2, in2, in3, ofS_inj]
  refine ⟨p, w0, 4987, rfl, g0, hw0, fun t1 w1 ht1 hw1 => ?_⟩
  have s1 := ss_put (w2 := w1) hp0 s0
  generalize MH.put M0 p (wl w1) = M1 at s1
  have g1 : MH.get M1 p = some (wl w1) := s1 p _ (get_put hp0)
  refine ⟨p, w1, 4974, rfl, g1, hw1, fun t2 w2 ht2 hw2 => ?_⟩
  have s2 := ss_put (w2 := w2) hp0 s1
  generalize MH.put M1 p (wl w2) = M2 at s2
  have g2 : MH.get M2 p = some (wl w2) := s2 p _ (get_put hp0)
  intro r0 _ hr0
  refine ⟨p, r0, w2, 4674, [t1, t2], rfl, get_old g2 hr0, MH.get_same, fun e => (by subst e; rw [g2] at hr0; cases hr0), by simp, by simp, fun s hs => ?_, hw2, fun rs ads w3 hrs hads hw3 => ?_⟩
  · have hs' : s = t1 ∨ s = t2 := by simpa using hs
    rcases hs' with rfl | rfl
    · exact ht1
    · exact ht2
  have s3 : SubM (M.put p (wl w3)) ((rs, MO.lst (ads.map adD)) :: MH.put ((r0, MO.lst [D.str t1, D.str t2]) :: M2) p (wl w3)) := (ss_put (w2 := w3) hp0 (s2.trans (.new hr0))).trans (.new (MH.put_none hrs))
  have a3 : MH.get ((rs, MO.lst (ads.map adD)) :: MH.put ((r0, MO.lst [D.str t1, D.str t2]) :: M2) p (wl w3)) rs = some (.lst (ads.map adD)) := MH.get_same
  have hne : rs ≠ p := fun e => by
    subst e
    have := get_old (r := r0) (o := MO.lst [D.str t1, D.str t2]) g2 hr0
    rw [this] at hrs
    cases hrs
  generalize ((rs, MO.lst (ads.map adD)) :: MH.put ((r0, MO.lst [D.str t1, D.str t2]) :: M2) p (wl w3)) = M3 at s3 a3
  clear hrs
  -- the signs
  refine rB_cons ?_
  simp only [rS, rE, rT, rO, rC, rX, rEs, rOX, rL, rWk, rG, rGs, rF, byT, lenT, endK, oflD, wipeD, List.getElem?_cons_zero, List.getElem?_cons_succ, List.set_cons_zero, List.set_cons_succ, Bool.not_true, Bool.not_false, Bool.false_eq_true, if_true, if_false, decide_true, decide_false, Bool.true_and, Bool.and_true, Bool.false_and, List.length_nil, List.length_cons, Nat.zero_add, Nat.reduceAdd, Rd.tr_bl, Rd.tr_non, Rd.tr_int, Rd.tr_str, Rd.tr_tup, Rd.tr_fl, Rd.tr_ref, Rd.eq_int, Rd.eq_str, Rd.eq_bl, Rd.sq_tup, Rd.sq_fl, Rd.sq_ref, Rd.cm_eq, Rd.cm_ne, Rd.cm_in, Rd.cm_ni, Rd.is_non, Rd.isn_non, Rd.is_bl, Rd.isn_bl, Rd.is_int, Rd.isn_int, Rd.is_str, Rd.isn_str, Rd.is_tup, Rd.isn_tup, Rd.is_fl, Rd.isn_fl, Rd.is_ref, Rd.isn_ref, Rd.cm_lt, Rd.cm_le, Rd.cm_gt, Rd.cm_ge, Rd.ix_tup, Rd.ix_fl, Rd.ix_str, Rd.ix_ref, Rd.sl_tup, Rd.sl_str, Rd.sl_fl, Rd.sl_ref, Rd.ln_str, Rd.ln_tup, Rd.ln_fl, Rd.ln_ref, Rd.nt_int, Rd.nt_str, Rd.st_int, Rd.ab_int, Rd.od_str, Rd.mx_int, Rd.mn_int, Rd.dm_int, Rd.tp_seq, Rd.ls_seq, Rd.rp_any, Rd.bn_ii, Rd.bn_ss, Rd.bn_tt, Rd.bn_rr, Rd.bn_sub, Rd.bn_mul, Rd.bn_fdv, Rd.bn_mod, Rd.bn_pow, Rd.mt_app, Rd.mt_joi, Rd.mt_spl, Rd.mt_par, Rd.mt_rpa, Rd.my_split, Rd.my_partition, Rd.my_rpartition, Rd.my_count, Rd.my_find, Rd.my_rfind, Rd.my_join, Rd.my_app, Rd.ty_non_int, Rd.ty_non_str, Rd.ty_non_bool, Rd.ty_non_tuple, Rd.ty_non_list, Rd.ty_bl_int, Rd.ty_bl_str, Rd.ty_bl_bool, Rd.ty_bl_tuple, Rd.ty_bl_list, Rd.ty_int_int, Rd.ty_int_str, Rd.ty_int_bool, Rd.ty_int_tuple, Rd.ty_int_list, Rd.ty_str_int, Rd.ty_str_str, Rd.ty_str_bool, Rd.ty_str_tuple, Rd.ty_str_list, Rd.ty_tup_int, Rd.ty_tup_str, Rd.ty_tup_bool, Rd.ty_tup_tuple, Rd.ty_tup_list, Rd.ty_fl_int, Rd.ty_fl_str, Rd.ty_fl_bool, Rd.ty_fl_tuple, Rd.ty_fl_list, Rd.fm_str, Rd.fm_int, Rd.it_t, Rd.it_f, Rd.it_s, Rd.it_r, sl0, sl1, sl2, sl3, sl4, sl5, sl6, true_and, at0, at1, at2, in2, in3, ofS_inj]
  have g3 : MH.get M3 p = some (wl w3) := s3 p _ (get_put hp0)
  refine ⟨p, _, w3, 4673, _, rfl, g3, rfl, by simp, by simp, nofun, hw3, fun y hy w4 hw4 => ?_⟩
  have s4 := ss_put (w2 := w4) hp0 s3
  have a4 : MH.get (MH.put M3 p (wl w4)) rs = some (.lst (ads.map adD)) := by rw [MH.get_put_ne hne]; exact a3
  generalize MH.put M3 p (wl w4) = M4 at s4 a4
  have g4 : MH.get M4 p = some (wl w4) := s4 p _ (get_put hp0)
  have hy' : ∃ n : Nat, y = .int n ∧ n ≤ 60 := by
    simp at hy
    rcases hy with rfl | rfl | rfl | rfl | rfl | rfl <;> exact ⟨_, rfl, by decide⟩
  obtain ⟨n, rfl, hn⟩ := hy'
  refine ⟨p, w4, 4613, n, rfl, hn, g4, hw4, fun said w5 hsb hsl hw5 => ?_⟩
  have s5 := ss_put (w2 := w5) hp0 s4
  have a5 : MH.get (MH.put M4 p (wl w5)) rs = some (.lst (ads.map adD)) := by rw [MH.get_put_ne hne]; exact a4
  generalize MH.put M4 p (wl w5) = M5 at s5 a5
  have g5 : MH.get M5 p = some (wl w5) := s5 p _ (get_put hp0)
  clear a3 a4 g0 g1 g2 g3 g4 s0 s1 s2 s3 s4
  refine rB_cons ?_
  simp only [rS, rE, rT, rO, rC, rX, rEs, rOX, rL, rWk, rG, rGs, rF, byT, lenT, endK, oflD, wipeD, List.getElem?_cons_zero, List.getElem?_cons_succ, List.set_cons_zero, List.set_cons_succ, Bool.not_true, Bool.not_false, Bool.false_eq_true, if_true, if_false, decide_true, decide_false, Bool.true_and, Bool.and_true, Bool.false_and, List.length_nil, List.length_cons, Nat.zero_add, Nat.reduceAdd, Rd.tr_bl, Rd.tr_non, Rd.tr_int, Rd.tr_str, Rd.tr_tup, Rd.tr_fl, Rd.tr_ref, Rd.eq_int, Rd.eq_str, Rd.eq_bl, Rd.sq_tup, Rd.sq_fl, Rd.sq_ref, Rd.cm_eq, Rd.cm_ne, Rd.cm_in, Rd.cm_ni, Rd.is_non, Rd.isn_non, Rd.is_bl, Rd.isn_bl, Rd.is_int, Rd.isn_int, Rd.is_str, Rd.isn_str, Rd.is_tup, Rd.isn_tup, Rd.is_fl, Rd.isn_fl, Rd.is_ref, Rd.isn_ref, Rd.cm_lt, Rd.cm_le, Rd.cm_gt, Rd.cm_ge, Rd.ix_tup, Rd.ix_fl, Rd.ix_str, Rd.ix_ref, Rd.sl_tup, Rd.sl_str, Rd.sl_fl, Rd.sl_ref, Rd.ln_str, Rd.ln_tup, Rd.ln_fl, Rd.ln_ref, Rd.nt_int, Rd.nt_str, Rd.st_int, Rd.ab_int, Rd.od_str, Rd.mx_int, Rd.mn_int, Rd.dm_int, Rd.tp_seq, Rd.ls_seq, Rd.rp_any, Rd.bn_ii, Rd.bn_ss, Rd.bn_tt, Rd.bn_rr, Rd.bn_sub, Rd.bn_mul, Rd.bn_fdv, Rd.bn_mod, Rd.bn_pow, Rd.mt_app, Rd.mt_joi, Rd.mt_spl, Rd.mt_par, Rd.mt_rpa, Rd.my_split, Rd.my_partition, Rd.my_rpartition, Rd.my_count, Rd.my_find, Rd.my_rfind, Rd.my_join, Rd.my_app, Rd.ty_non_int, Rd.ty_non_str, Rd.ty_non_bool, Rd.ty_non_tuple, Rd.ty_non_list, Rd.ty_bl_int, Rd.ty_bl_str, Rd.ty_bl_bool, Rd.ty_bl_tuple, Rd.ty_bl_list, Rd.ty_int_int, Rd.ty_int_str, Rd.ty_int_bool, Rd.ty_int_tuple, Rd.ty_int_list, Rd.ty_str_int, Rd.ty_str_str, Rd.ty_str_bool, Rd.ty_str_tuple, Rd.ty_str_list, Rd.ty_tup_int, Rd.ty_tup_str, Rd.ty_tup_bool, Rd.ty_tup_tuple, Rd.ty_tup_list, Rd.ty_fl_int, Rd.ty_fl_str, Rd.ty_fl_bool, Rd.ty_fl_tuple, Rd.ty_fl_list, Rd.fm_str, Rd.fm_int, Rd.it_t, Rd.it_f, Rd.it_s, Rd.it_r, sl0, sl1, sl2, sl3, sl4, sl5, sl6, true_and, at0, at1, at2, in2, in3, ofS_inj, feed_len]
  have lsaid : said.length ≤ sizeLine := sz _ (by omega)
  have bsaid : ∀ c ∈ tl said, c < 2097152 := fun c hc => by have := hsb c hc; omega
  have bsaid2 : ∀ c ∈ tl (said ++ Str.ofString "\n"), c < 2097152 := fun c hc => by
    rw [tl_append, tl_feed] at hc
    rcases List.mem_append.mp hc with hc | hc
    · exact bsaid c hc
    · have : c = 10 := by simpa using hc
      omega
  have lsaid2 : (said ++ Str.ofString "\n").length ≤ 100000 := by rw [len_app, feed_len]; omega
  obtain ⟨n1, en1, hn1⟩ := seal_nat said
  obtain ⟨n2, en2, hn2⟩ := seal_nat (said ++ Str.ofString "\n")
  refine ⟨said, rfl, by omega, bsaid, sz _ (by omega), said ++ Str.ofString "\n", rfl, lsaid2, bsaid2, ?_⟩
  rw [en1, en2]
  intro r1 _ hr1
  refine two_shown (B := 12) MH.get_same rfl rfl (sh_int (by omega)) (sh_int (by omega)) (by decide) ?_
  refine ⟨said, rfl, by omega, bsaid, sz _ (by omega), said ++ Str.ofString "\n", rfl, lsaid2, bsaid2, ?_⟩
  rw [en1, en2]
  intro r2 _ hr2
  refine two_shown (B := 12) MH.get_same rfl rfl (sh_int (by omega)) (sh_int (by omega)) (by decide) ?_
  rw [if_neg (by simp)]
  have s6 := (s5.trans (.new (o := MO.lst [D.int n1, D.int n2]) hr1)).trans (.new (o := MO.lst [D.int n1, D.int n2]) hr2)
  have a6 := get_old (o := MO.lst [D.int n1, D.int n2]) (get_old (o := MO.lst [D.int n1, D.int n2]) a5 hr1) hr2
  generalize ((r2, MO.lst [D.int n1, D.int n2]) :: (r1, MO.lst [D.int n1, D.int n2]) :: M5) = M6 at s6 a6
  clear hr1 hr2 s5 a5 g5
  have g6 : MH.get M6 p = some (wl w5) := s6 p _ (get_put hp0)
  -- the book
  refine rB_cons ?_
  simp only [rS, rE, rT, rO, rC, rX, rEs, rOX, rL, rWk, rG, rGs, rF, byT, lenT, endK, oflD, wipeD, List.getElem?_cons_zero, List.getElem?_cons_succ, List.set_cons_zero, List.set_cons_succ, Bool.not_true, Bool.not_false, Bool.false_eq_true, if_true, if_false, decide_true, decide_false, Bool.true_and, Bool.and_true, Bool.false_and, List.length_nil, List.length_cons, Nat.zero_add, Nat.reduceAdd, Rd.tr_bl, Rd.tr_non, Rd.tr_int, Rd.tr_str, Rd.tr_tup, Rd.tr_fl, Rd.tr_ref, Rd.eq_int, Rd.eq_str, Rd.eq_bl, Rd.sq_tup, Rd.sq_fl, Rd.sq_ref, Rd.cm_eq, Rd.cm_ne, Rd.cm_in, Rd.cm_ni, Rd.is_non, Rd.isn_non, Rd.is_bl, Rd.isn_bl, Rd.is_int, Rd.isn_int, Rd.is_str, Rd.isn_str, Rd.is_tup, Rd.isn_tup, Rd.is_fl, Rd.isn_fl, Rd.is_ref, Rd.isn_ref, Rd.cm_lt, Rd.cm_le, Rd.cm_gt, Rd.cm_ge, Rd.ix_tup, Rd.ix_fl, Rd.ix_str, Rd.ix_ref, Rd.sl_tup, Rd.sl_str, Rd.sl_fl, Rd.sl_ref, Rd.ln_str, Rd.ln_tup, Rd.ln_fl, Rd.ln_ref, Rd.nt_int, Rd.nt_str, Rd.st_int, Rd.ab_int, Rd.od_str, Rd.mx_int, Rd.mn_int, Rd.dm_int, Rd.tp_seq, Rd.ls_seq, Rd.rp_any, Rd.bn_ii, Rd.bn_ss, Rd.bn_tt, Rd.bn_rr, Rd.bn_sub, Rd.bn_mul, Rd.bn_fdv, Rd.bn_mod, Rd.bn_pow, Rd.mt_app, Rd.mt_joi, Rd.mt_spl, Rd.mt_par, Rd.mt_rpa, Rd.my_split, Rd.my_partition, Rd.my_rpartition, Rd.my_count, Rd.my_find, Rd.my_rfind, Rd.my_join, Rd.my_app, Rd.ty_non_int, Rd.ty_non_str, Rd.ty_non_bool, Rd.ty_non_tuple, Rd.ty_non_list, Rd.ty_bl_int, Rd.ty_bl_str, Rd.ty_bl_bool, Rd.ty_bl_tuple, Rd.ty_bl_list, Rd.ty_int_int, Rd.ty_int_str, Rd.ty_int_bool, Rd.ty_int_tuple, Rd.ty_int_list, Rd.ty_str_int, Rd.ty_str_str, Rd.ty_str_bool, Rd.ty_str_tuple, Rd.ty_str_list, Rd.ty_tup_int, Rd.ty_tup_str, Rd.ty_tup_bool, Rd.ty_tup_tuple, Rd.ty_tup_list, Rd.ty_fl_int, Rd.ty_fl_str, Rd.ty_fl_bool, Rd.ty_fl_tuple, Rd.ty_fl_list, Rd.fm_str, Rd.fm_int, Rd.it_t, Rd.it_f, Rd.it_s, Rd.it_r, sl0, sl1, sl2, sl3, sl4, sl5, sl6, true_and, at0, at1, at2, in2, in3, ofS_inj]
  refine ⟨p, _, w5, 4612, _, rfl, g6, rfl, by simp, by simp, nofun, hw5, fun y hy w6 hw6 => ?_⟩
  have s7 := ss_put (w2 := w6) hp0 s6
  have a7 : MH.get (MH.put M6 p (wl w6)) rs = some (.lst (ads.map adD)) := by rw [MH.get_put_ne hne]; exact a6
  generalize MH.put M6 p (wl w6) = M7 at s7 a7
  have g7 : MH.get M7 p = some (wl w6) := s7 p _ (get_put hp0)
  have hy' : ∃ n : Nat, y = .int n ∧ n ≤ 12 := by
    simp at hy
    rcases hy with rfl | rfl | rfl | rfl | rfl <;> exact ⟨_, rfl, by decide⟩
  obtain ⟨nb, rfl, hnb⟩ := hy'
  refine ⟨p, rs, w6, 4312, nb, ads, rfl, hnb, g7, a7, hne, hads, hw6, fun book w7 hbl hbo hw7 => ?_⟩
  have s8 := ss_put (w2 := w7) hp0 s7
  have a8 : MH.get (MH.put M7 p (wl w7)) rs = some (.lst (ads.map adD)) := by rw [MH.get_put_ne hne]; exact a7
  generalize MH.put M7 p (wl w7) = M8 at s8 a8
  clear s6 a6 g6 s7 a7 g7
  have g8 : MH.get M8 p = some (wl w7) := s8 p _ (get_put hp0)
  have hb12 : book.length ≤ 12 := by omega
  -- what is due
  refine rB_cons ?_
  simp only [rS, rE, rT, rO, rC, rX, rEs, rOX, rL, rWk, rG, rGs, rF, byT, lenT, endK, oflD, wipeD, List.getElem?_cons_zero, List.getElem?_cons_succ, List.set_cons_zero, List.set_cons_succ, Bool.not_true, Bool.not_false, Bool.false_eq_true, if_true, if_false, decide_true, decide_false, Bool.true_and, Bool.and_true, Bool.false_and, List.length_nil, List.length_cons, Nat.zero_add, Nat.reduceAdd, Rd.tr_bl, Rd.tr_non, Rd.tr_int, Rd.tr_str, Rd.tr_tup, Rd.tr_fl, Rd.tr_ref, Rd.eq_int, Rd.eq_str, Rd.eq_bl, Rd.sq_tup, Rd.sq_fl, Rd.sq_ref, Rd.cm_eq, Rd.cm_ne, Rd.cm_in, Rd.cm_ni, Rd.is_non, Rd.isn_non, Rd.is_bl, Rd.isn_bl, Rd.is_int, Rd.isn_int, Rd.is_str, Rd.isn_str, Rd.is_tup, Rd.isn_tup, Rd.is_fl, Rd.isn_fl, Rd.is_ref, Rd.isn_ref, Rd.cm_lt, Rd.cm_le, Rd.cm_gt, Rd.cm_ge, Rd.ix_tup, Rd.ix_fl, Rd.ix_str, Rd.ix_ref, Rd.sl_tup, Rd.sl_str, Rd.sl_fl, Rd.sl_ref, Rd.ln_str, Rd.ln_tup, Rd.ln_fl, Rd.ln_ref, Rd.nt_int, Rd.nt_str, Rd.st_int, Rd.ab_int, Rd.od_str, Rd.mx_int, Rd.mn_int, Rd.dm_int, Rd.tp_seq, Rd.ls_seq, Rd.rp_any, Rd.bn_ii, Rd.bn_ss, Rd.bn_tt, Rd.bn_rr, Rd.bn_sub, Rd.bn_mul, Rd.bn_fdv, Rd.bn_mod, Rd.bn_pow, Rd.mt_app, Rd.mt_joi, Rd.mt_spl, Rd.mt_par, Rd.mt_rpa, Rd.my_split, Rd.my_partition, Rd.my_rpartition, Rd.my_count, Rd.my_find, Rd.my_rfind, Rd.my_join, Rd.my_app, Rd.ty_non_int, Rd.ty_non_str, Rd.ty_non_bool, Rd.ty_non_tuple, Rd.ty_non_list, Rd.ty_bl_int, Rd.ty_bl_str, Rd.ty_bl_bool, Rd.ty_bl_tuple, Rd.ty_bl_list, Rd.ty_int_int, Rd.ty_int_str, Rd.ty_int_bool, Rd.ty_int_tuple, Rd.ty_int_list, Rd.ty_str_int, Rd.ty_str_str, Rd.ty_str_bool, Rd.ty_str_tuple, Rd.ty_str_list, Rd.ty_tup_int, Rd.ty_tup_str, Rd.ty_tup_bool, Rd.ty_tup_tuple, Rd.ty_tup_list, Rd.ty_fl_int, Rd.ty_fl_str, Rd.ty_fl_bool, Rd.ty_fl_tuple, Rd.ty_fl_list, Rd.fm_str, Rd.fm_int, Rd.it_t, Rd.it_f, Rd.it_s, Rd.it_r, sl0, sl1, sl2, sl3, sl4, sl5, sl6, true_and, at0, at1, at2, in2, in3, ofS_inj]
  refine ⟨⟨by omega, by rw [List.length_map]; omega⟩, ?_⟩
  have e1 : (((book.map rowD).length : Nat) : Int).toNat = book.length := by rw [List.length_map]; omega
  rw [e1]
  obtain ⟨jl1, jl2⟩ := jlines_len (rs := book) (k := 0) (by omega) hbo
  refine gather_by (fun ds acc M' => ∃ i, ds = (rangeD 0 book.length).drop i ∧ i ≤ book.length ∧ M' = M8 ∧ acc = ((jlines 0 book).take i).map D.str) (fun acc M' ⟨i, e, hi, eM, ea⟩ => ?_) (fun d ds acc M' ⟨i, e, hi, eM, ea⟩ => ?_) _ _ _ ⟨0, rfl, Nat.zero_le _, rfl, rfl⟩
  rotate_left
  · subst eM ea
    obtain ⟨hlt, rfl, rfl⟩ := range_drop e
    refine ⟨trivial, by rw [List.length_map, List.length_take]; exact Nat.lt_of_le_of_lt (show _ ≤ 100 by omega) (by decide), fun kk k1 k2 => ?_⟩
    have gr : book[i]? = some book[i] := List.getElem?_eq_getElem hlt
    refine ⟨rowD book[i], by rw [atI_nat, List.getElem?_map, gr]; rfl, ?_⟩
    refine ⟨i, book[i], rfl, by omega, hbo _ (List.getElem_mem _), k1 _ _ ⟨i + 1, rfl, hlt, rfl, ?_⟩⟩
    rw [List.take_succ, jlines_get gr, Nat.zero_add]
    simp
  · subst eM ea
    have hi2 : book.length ≤ i := by
      have := congrArg List.length e
      rw [List.length_drop] at this
      unfold rangeD at this
      simp only [List.length_nil, List.length_map, List.length_range] at this
      omega
    refine ⟨trivial, jlines 0 book, by rw [List.take_of_length_le (by omega)], join_fits jl1 (by omega : _ ≤ 100) (by rw [none_len]; decide), ?_⟩
    have ej : Txt.join (Str.ofString "") (jlines 0 book) = journalT book := rfl
    rw [ej]
    have jl := journal_len (by omega) hbo
    have js := journal_signs (by omega) hbo
    refine rB_cons ?_
    simp only [rS, rE, rT, rO, rC, rX, rEs, rOX, rL, rWk, rG, rGs, rF, byT, lenT, endK, oflD, wipeD, List.getElem?_cons_zero, List.getElem?_cons_succ, List.set_cons_zero, List.set_cons_succ, Bool.not_true, Bool.not_false, Bool.false_eq_true, if_true, if_false, decide_true, decide_false, Bool.true_and, Bool.and_true, Bool.false_and, List.length_nil, List.length_cons, Nat.zero_add, Nat.reduceAdd, Rd.tr_bl, Rd.tr_non, Rd.tr_int, Rd.tr_str, Rd.tr_tup, Rd.tr_fl, Rd.tr_ref, Rd.eq_int, Rd.eq_str, Rd.eq_bl, Rd.sq_tup, Rd.sq_fl, Rd.sq_ref, Rd.cm_eq, Rd.cm_ne, Rd.cm_in, Rd.cm_ni, Rd.is_non, Rd.isn_non, Rd.is_bl, Rd.isn_bl, Rd.is_int, Rd.isn_int, Rd.is_str, Rd.isn_str, Rd.is_tup, Rd.isn_tup, Rd.is_fl, Rd.isn_fl, Rd.is_ref, Rd.isn_ref, Rd.cm_lt, Rd.cm_le, Rd.cm_gt, Rd.cm_ge, Rd.ix_tup, Rd.ix_fl, Rd.ix_str, Rd.ix_ref, Rd.sl_tup, Rd.sl_str, Rd.sl_fl, Rd.sl_ref, Rd.ln_str, Rd.ln_tup, Rd.ln_fl, Rd.ln_ref, Rd.nt_int, Rd.nt_str, Rd.st_int, Rd.ab_int, Rd.od_str, Rd.mx_int, Rd.mn_int, Rd.dm_int, Rd.tp_seq, Rd.ls_seq, Rd.rp_any, Rd.bn_ii, Rd.bn_ss, Rd.bn_tt, Rd.bn_rr, Rd.bn_sub, Rd.bn_mul, Rd.bn_fdv, Rd.bn_mod, Rd.bn_pow, Rd.mt_app, Rd.mt_joi, Rd.mt_spl, Rd.mt_par, Rd.mt_rpa, Rd.my_split, Rd.my_partition, Rd.my_rpartition, Rd.my_count, Rd.my_find, Rd.my_rfind, Rd.my_join, Rd.my_app, Rd.ty_non_int, Rd.ty_non_str, Rd.ty_non_bool, Rd.ty_non_tuple, Rd.ty_non_list, Rd.ty_bl_int, Rd.ty_bl_str, Rd.ty_bl_bool, Rd.ty_bl_tuple, Rd.ty_bl_list, Rd.ty_int_int, Rd.ty_int_str, Rd.ty_int_bool, Rd.ty_int_tuple, Rd.ty_int_list, Rd.ty_str_int, Rd.ty_str_str, Rd.ty_str_bool, Rd.ty_str_tuple, Rd.ty_str_list, Rd.ty_tup_int, Rd.ty_tup_str, Rd.ty_tup_bool, Rd.ty_tup_tuple, Rd.ty_tup_list, Rd.ty_fl_int, Rd.ty_fl_str, Rd.ty_fl_bool, Rd.ty_fl_tuple, Rd.ty_fl_list, Rd.fm_str, Rd.fm_int, Rd.it_t, Rd.it_f, Rd.it_s, Rd.it_r, sl0, sl1, sl2, sl3, sl4, sl5, sl6, true_and, at0, at1, at2, in2, in3, ofS_inj]
    have fr := sh_rows hbo hb12
    refine ⟨book, rfl, hbo, by omega, book, rfl, hbo, by omega, ?_⟩
    intro r1 _ hr1
    have shj : Sh 557002 (.str (journalT book)) := sh_str js (by omega)
    refine two_shown (B := 557002) MH.get_same rfl rfl shj shj (by decide) ?_
    intro r2 _ hr2
    refine two_shown (B := 557002) MH.get_same rfl rfl shj shj (by decide) ?_
    rw [if_neg (by simp)]
    have s9 := (s8.trans (.new (o := MO.lst [D.str (journalT book), D.str (journalT book)]) hr1)).trans (.new (o := MO.lst [D.str (journalT book), D.str (journalT book)]) hr2)
    have a9 := get_old (o := MO.lst [D.str (journalT book), D.str (journalT book)]) (get_old (o := MO.lst [D.str (journalT book), D.str (journalT book)]) a8 hr1) hr2
    generalize ((r2, MO.lst [D.str (journalT book), D.str (journalT book)]) :: (r1, MO.lst [D.str (journalT book), D.str (journalT book)]) :: M') = M9 at s9 a9
    clear hr1 hr2
    have g9 : MH.get M9 p = some (wl w7) := s9 p _ (get_put hp0)
    -- what follows
    refine rB_cons ?_
    simp only [rS, rE, rT, rO, rC, rX, rEs, rOX, rL, rWk, rG, rGs, rF, byT, lenT, endK, oflD, wipeD, List.getElem?_cons_zero, List.getElem?_cons_succ, List.set_cons_zero, List.set_cons_succ, Bool.not_true, Bool.not_false, Bool.false_eq_true, if_true, if_false, decide_true, decide_false, Bool.true_and, Bool.and_true, Bool.false_and, List.length_nil, List.length_cons, Nat.zero_add, Nat.reduceAdd, Rd.tr_bl, Rd.tr_non, Rd.tr_int, Rd.tr_str, Rd.tr_tup, Rd.tr_fl, Rd.tr_ref, Rd.eq_int, Rd.eq_str, Rd.eq_bl, Rd.sq_tup, Rd.sq_fl, Rd.sq_ref, Rd.cm_eq, Rd.cm_ne, Rd.cm_in, Rd.cm_ni, Rd.is_non, Rd.isn_non, Rd.is_bl, Rd.isn_bl, Rd.is_int, Rd.isn_int, Rd.is_str, Rd.isn_str, Rd.is_tup, Rd.isn_tup, Rd.is_fl, Rd.isn_fl, Rd.is_ref, Rd.isn_ref, Rd.cm_lt, Rd.cm_le, Rd.cm_gt, Rd.cm_ge, Rd.ix_tup, Rd.ix_fl, Rd.ix_str, Rd.ix_ref, Rd.sl_tup, Rd.sl_str, Rd.sl_fl, Rd.sl_ref, Rd.ln_str, Rd.ln_tup, Rd.ln_fl, Rd.ln_ref, Rd.nt_int, Rd.nt_str, Rd.st_int, Rd.ab_int, Rd.od_str, Rd.mx_int, Rd.mn_int, Rd.dm_int, Rd.tp_seq, Rd.ls_seq, Rd.rp_any, Rd.bn_ii, Rd.bn_ss, Rd.bn_tt, Rd.bn_rr, Rd.bn_sub, Rd.bn_mul, Rd.bn_fdv, Rd.bn_mod, Rd.bn_pow, Rd.mt_app, Rd.mt_joi, Rd.mt_spl, Rd.mt_par, Rd.mt_rpa, Rd.my_split, Rd.my_partition, Rd.my_rpartition, Rd.my_count, Rd.my_find, Rd.my_rfind, Rd.my_join, Rd.my_app, Rd.ty_non_int, Rd.ty_non_str, Rd.ty_non_bool, Rd.ty_non_tuple, Rd.ty_non_list, Rd.ty_bl_int, Rd.ty_bl_str, Rd.ty_bl_bool, Rd.ty_bl_tuple, Rd.ty_bl_list, Rd.ty_int_int, Rd.ty_int_str, Rd.ty_int_bool, Rd.ty_int_tuple, Rd.ty_int_list, Rd.ty_str_int, Rd.ty_str_str, Rd.ty_str_bool, Rd.ty_str_tuple, Rd.ty_str_list, Rd.ty_tup_int, Rd.ty_tup_str, Rd.ty_tup_bool, Rd.ty_tup_tuple, Rd.ty_tup_list, Rd.ty_fl_int, Rd.ty_fl_str, Rd.ty_fl_bool, Rd.ty_fl_tuple, Rd.ty_fl_list, Rd.fm_str, Rd.fm_int, Rd.it_t, Rd.it_f, Rd.it_s, Rd.it_r, sl0, sl1, sl2, sl3, sl4, sl5, sl6, true_and, at0, at1, at2, in2, in3, ofS_inj]
    refine ⟨p, rs, w7, 4012, 1, ads, rfl, by decide, g9, a9, hne, hads, hw7, fun more w8 hml hmo hw8 => ?_⟩
    have s10 := ss_put (w2 := w8) hp0 s9
    have a10 : MH.get (MH.put M9 p (wl w8)) rs = some (.lst (ads.map adD)) := by rw [MH.get_put_ne hne]; exact a9
    generalize MH.put M9 p (wl w8) = M10 at s10 a10
    have g10 : MH.get M10 p = some (wl w8) := s10 p _ (get_put hp0)
    obtain ⟨nx, rfl⟩ : ∃ r, more = [r] := by
      cases more with
      | nil => cases hml
      | cons a l =>
        cases l with
        | nil => exact ⟨a, rfl⟩
        | cons b l => simp at hml
    have oknx := hmo nx List.mem_cons_self
    simp only [rS, rE, rT, rO, rC, rX, rEs, rOX, rL, rWk, rG, rGs, rF, byT, lenT, endK, oflD, wipeD, List.getElem?_cons_zero, List.getElem?_cons_succ, List.set_cons_zero, List.set_cons_succ, Bool.not_true, Bool.not_false, Bool.false_eq_true, if_true, if_false, decide_true, decide_false, Bool.true_and, Bool.and_true, Bool.false_and, List.length_nil, List.length_cons, Nat.zero_add, Nat.reduceAdd, Rd.tr_bl, Rd.tr_non, Rd.tr_int, Rd.tr_str, Rd.tr_tup, Rd.tr_fl, Rd.tr_ref, Rd.eq_int, Rd.eq_str, Rd.eq_bl, Rd.sq_tup, Rd.sq_fl, Rd.sq_ref, Rd.cm_eq, Rd.cm_ne, Rd.cm_in, Rd.cm_ni, Rd.is_non, Rd.isn_non, Rd.is_bl, Rd.isn_bl, Rd.is_int, Rd.isn_int, Rd.is_str, Rd.isn_str, Rd.is_tup, Rd.isn_tup, Rd.is_fl, Rd.isn_fl, Rd.is_ref, Rd.isn_ref, Rd.cm_lt, Rd.cm_le, Rd.cm_gt, Rd.cm_ge, Rd.ix_tup, Rd.ix_fl, Rd.ix_str, Rd.ix_ref, Rd.sl_tup, Rd.sl_str, Rd.sl_fl, Rd.sl_ref, Rd.ln_str, Rd.ln_tup, Rd.ln_fl, Rd.ln_ref, Rd.nt_int, Rd.nt_str, Rd.st_int, Rd.ab_int, Rd.od_str, Rd.mx_int, Rd.mn_int, Rd.dm_int, Rd.tp_seq, Rd.ls_seq, Rd.rp_any, Rd.bn_ii, Rd.bn_ss, Rd.bn_tt, Rd.bn_rr, Rd.bn_sub, Rd.bn_mul, Rd.bn_fdv, Rd.bn_mod, Rd.bn_pow, Rd.mt_app, Rd.mt_joi, Rd.mt_spl, Rd.mt_par, Rd.mt_rpa, Rd.my_split, Rd.my_partition, Rd.my_rpartition, Rd.my_count, Rd.my_find, Rd.my_rfind, Rd.my_join, Rd.my_app, Rd.ty_non_int, Rd.ty_non_str, Rd.ty_non_bool, Rd.ty_non_tuple, Rd.ty_non_list, Rd.ty_bl_int, Rd.ty_bl_str, Rd.ty_bl_bool, Rd.ty_bl_tuple, Rd.ty_bl_list, Rd.ty_int_int, Rd.ty_int_str, Rd.ty_int_bool, Rd.ty_int_tuple, Rd.ty_int_list, Rd.ty_str_int, Rd.ty_str_str, Rd.ty_str_bool, Rd.ty_str_tuple, Rd.ty_str_list, Rd.ty_tup_int, Rd.ty_tup_str, Rd.ty_tup_bool, Rd.ty_tup_tuple, Rd.ty_tup_list, Rd.ty_fl_int, Rd.ty_fl_str, Rd.ty_fl_bool, Rd.ty_fl_tuple, Rd.ty_fl_list, Rd.fm_str, Rd.fm_int, Rd.it_t, Rd.it_f, Rd.it_s, Rd.it_r, sl0, sl1, sl2, sl3, sl4, sl5, sl6, true_and, at0, at1, at2, in2, in3, ofS_inj, List.map_cons, List.map_nil, Option.some.injEq, exists_eq_left', List.length_map]
    refine ⟨book.length, nx, rfl, by omega, oknx, ?_⟩
    refine rB_cons ?_
    have fl : (jline book.length nx).length ≤ 557 := by
      unfold jline
      rw [len_app, feed_len]
      have := (sealed_ok (i := book.length) (by omega) oknx).2
      omega
    have fl1 : 1 ≤ (jline book.length nx).length := by
      unfold jline
      rw [len_app, feed_len]
      omega
    simp only [rS, rE, rT, rO, rC, rX, rEs, rOX, rL, rWk, rG, rGs, rF, byT, lenT, endK, oflD, wipeD, List.getElem?_cons_zero, List.getElem?_cons_succ, List.set_cons_zero, List.set_cons_succ, Bool.not_true, Bool.not_false, Bool.false_eq_true, if_true, if_false, decide_true, decide_false, Bool.true_and, Bool.and_true, Bool.false_and, List.length_nil, List.length_cons, Nat.zero_add, Nat.reduceAdd, Rd.tr_bl, Rd.tr_non, Rd.tr_int, Rd.tr_str, Rd.tr_tup, Rd.tr_fl, Rd.tr_ref, Rd.eq_int, Rd.eq_str, Rd.eq_bl, Rd.sq_tup, Rd.sq_fl, Rd.sq_ref, Rd.cm_eq, Rd.cm_ne, Rd.cm_in, Rd.cm_ni, Rd.is_non, Rd.isn_non, Rd.is_bl, Rd.isn_bl, Rd.is_int, Rd.isn_int, Rd.is_str, Rd.isn_str, Rd.is_tup, Rd.isn_tup, Rd.is_fl, Rd.isn_fl, Rd.is_ref, Rd.isn_ref, Rd.cm_lt, Rd.cm_le, Rd.cm_gt, Rd.cm_ge, Rd.ix_tup, Rd.ix_fl, Rd.ix_str, Rd.ix_ref, Rd.sl_tup, Rd.sl_str, Rd.sl_fl, Rd.sl_ref, Rd.ln_str, Rd.ln_tup, Rd.ln_fl, Rd.ln_ref, Rd.nt_int, Rd.nt_str, Rd.st_int, Rd.ab_int, Rd.od_str, Rd.mx_int, Rd.mn_int, Rd.dm_int, Rd.tp_seq, Rd.ls_seq, Rd.rp_any, Rd.bn_ii, Rd.bn_ss, Rd.bn_tt, Rd.bn_rr, Rd.bn_sub, Rd.bn_mul, Rd.bn_fdv, Rd.bn_mod, Rd.bn_pow, Rd.mt_app, Rd.mt_joi, Rd.mt_spl, Rd.mt_par, Rd.mt_rpa, Rd.my_split, Rd.my_partition, Rd.my_rpartition, Rd.my_count, Rd.my_find, Rd.my_rfind, Rd.my_join, Rd.my_app, Rd.ty_non_int, Rd.ty_non_str, Rd.ty_non_bool, Rd.ty_non_tuple, Rd.ty_non_list, Rd.ty_bl_int, Rd.ty_bl_str, Rd.ty_bl_bool, Rd.ty_bl_tuple, Rd.ty_bl_list, Rd.ty_int_int, Rd.ty_int_str, Rd.ty_int_bool, Rd.ty_int_tuple, Rd.ty_int_list, Rd.ty_str_int, Rd.ty_str_str, Rd.ty_str_bool, Rd.ty_str_tuple, Rd.ty_str_list, Rd.ty_tup_int, Rd.ty_tup_str, Rd.ty_tup_bool, Rd.ty_tup_tuple, Rd.ty_tup_list, Rd.ty_fl_int, Rd.ty_fl_str, Rd.ty_fl_bool, Rd.ty_fl_tuple, Rd.ty_fl_list, Rd.fm_str, Rd.fm_int, Rd.it_t, Rd.it_f, Rd.it_s, Rd.it_r, sl0, sl1, sl2, sl3, sl4, sl5, sl6, true_and, at0, at1, at2, in2, in3, ofS_inj, sz _ (show (jline book.length nx).length ≤ 16777216 by omega)]
    refine ⟨p, _, w8, 4011, rfl, g10, by omega, by omega, hw8, fun z w9 z0 z1 hw9 => ?_⟩
    have s11 := ss_put (w2 := w9) hp0 s10
    have a11 : MH.get (MH.put M10 p (wl w9)) rs = some (.lst (ads.map adD)) := by rw [MH.get_put_ne hne]; exact a10
    generalize MH.put M10 p (wl w9) = M11 at s11 a11
    have g11 : MH.get M11 p = some (wl w9) := s11 p _ (get_put hp0)
    obtain ⟨zn, rfl⟩ := Int.eq_ofNat_of_zero_le z0
    have ct := cut_to (jline book.length nx).cps.toList zn
    obtain ⟨kl, hkl, cl⟩ := cut_last (jline book.length nx).cps.toList
    simp only [ct, cl]
    have hlen := len_tl (jline book.length nx)
    have p1 := piece_ok (i := book.length) (by omega) oknx (k := zn) (by omega)
    have p2 := piece_ok (i := book.length) (by omega) oknx (k := kl) hkl
    refine ⟨p, _, w9, 4010, _, rfl, g11, rfl, by simp, by simp, nofun, hw9, fun y hy w10 hw10 => ?_⟩
    have s12 := ss_put (w2 := w10) hp0 s11
    have a12 : MH.get (MH.put M11 p (wl w10)) rs = some (.lst (ads.map adD)) := by rw [MH.get_put_ne hne]; exact a11
    generalize MH.put M11 p (wl w10) = M12 at s12 a12
    have g12 : MH.get M12 p = some (wl w10) := s12 p _ (get_put hp0)
    have hy' : ∃ torn : Str, y = .str torn ∧ 10 ∉ tl torn ∧ torn.length ≤ 1000 := by
      simp only [List.mem_cons, List.not_mem_nil, or_false] at hy
      rcases hy with rfl | rfl | rfl | rfl
      · exact ⟨_, rfl, by decide +kernel, by decide +kernel⟩
      · exact ⟨said, rfl, fun z => by have := hsb 10 z; omega, by omega⟩
      · exact ⟨_, rfl, p1.1, p1.2⟩
      · exact ⟨_, rfl, p2.1, p2.2⟩
    obtain ⟨torn, rfl, ht1, ht2⟩ := hy'
    clear s8 a8 g8 s9 a9 g9 s10 a10 g10 s11 a11 g11 hy
    -- read
    refine rB_cons ?_
    simp only [rS, rE, rT, rO, rC, rX, rEs, rOX, rL, rWk, rG, rGs, rF, byT, lenT, endK, oflD, wipeD, List.getElem?_cons_zero, List.getElem?_cons_succ, List.set_cons_zero, List.set_cons_succ, Bool.not_true, Bool.not_false, Bool.false_eq_true, if_true, if_false, decide_true, decide_false, Bool.true_and, Bool.and_true, Bool.false_and, List.length_nil, List.length_cons, Nat.zero_add, Nat.reduceAdd, Rd.tr_bl, Rd.tr_non, Rd.tr_int, Rd.tr_str, Rd.tr_tup, Rd.tr_fl, Rd.tr_ref, Rd.eq_int, Rd.eq_str, Rd.eq_bl, Rd.sq_tup, Rd.sq_fl, Rd.sq_ref, Rd.cm_eq, Rd.cm_ne, Rd.cm_in, Rd.cm_ni, Rd.is_non, Rd.isn_non, Rd.is_bl, Rd.isn_bl, Rd.is_int, Rd.isn_int, Rd.is_str, Rd.isn_str, Rd.is_tup, Rd.isn_tup, Rd.is_fl, Rd.isn_fl, Rd.is_ref, Rd.isn_ref, Rd.cm_lt, Rd.cm_le, Rd.cm_gt, Rd.cm_ge, Rd.ix_tup, Rd.ix_fl, Rd.ix_str, Rd.ix_ref, Rd.sl_tup, Rd.sl_str, Rd.sl_fl, Rd.sl_ref, Rd.ln_str, Rd.ln_tup, Rd.ln_fl, Rd.ln_ref, Rd.nt_int, Rd.nt_str, Rd.st_int, Rd.ab_int, Rd.od_str, Rd.mx_int, Rd.mn_int, Rd.dm_int, Rd.tp_seq, Rd.ls_seq, Rd.rp_any, Rd.bn_ii, Rd.bn_ss, Rd.bn_tt, Rd.bn_rr, Rd.bn_sub, Rd.bn_mul, Rd.bn_fdv, Rd.bn_mod, Rd.bn_pow, Rd.mt_app, Rd.mt_joi, Rd.mt_spl, Rd.mt_par, Rd.mt_rpa, Rd.my_split, Rd.my_partition, Rd.my_rpartition, Rd.my_count, Rd.my_find, Rd.my_rfind, Rd.my_join, Rd.my_app, Rd.ty_non_int, Rd.ty_non_str, Rd.ty_non_bool, Rd.ty_non_tuple, Rd.ty_non_list, Rd.ty_bl_int, Rd.ty_bl_str, Rd.ty_bl_bool, Rd.ty_bl_tuple, Rd.ty_bl_list, Rd.ty_int_int, Rd.ty_int_str, Rd.ty_int_bool, Rd.ty_int_tuple, Rd.ty_int_list, Rd.ty_str_int, Rd.ty_str_str, Rd.ty_str_bool, Rd.ty_str_tuple, Rd.ty_str_list, Rd.ty_tup_int, Rd.ty_tup_str, Rd.ty_tup_bool, Rd.ty_tup_tuple, Rd.ty_tup_list, Rd.ty_fl_int, Rd.ty_fl_str, Rd.ty_fl_bool, Rd.ty_fl_tuple, Rd.ty_fl_list, Rd.fm_str, Rd.fm_int, Rd.it_t, Rd.it_f, Rd.it_s, Rd.it_r, sl0, sl1, sl2, sl3, sl4, sl5, sl6, true_and, at0, at1, at2, in2, in3, ofS_inj]
    have emp : Str.ofString "" = Str.ofString "" := rfl
    refine ⟨book, Str.ofString "", by rw [app_empty], hbo, by omega, by rw [tl_none]; simp, by rw [none_len]; decide, ?_⟩
    refine ⟨sz _ (by omega), book, torn, rfl, hbo, by omega, ht1, ht2, ?_⟩
    intro r1 _ hr1
    refine two_shown (B := 527607) MH.get_same (py_rows _ 33 book) (py_rows _ 33 book) fr fr (by decide) ?_
    intro r2 _ hr2
    refine two_shown (B := 527607) MH.get_same (py_rows _ 33 book) (py_rows _ 33 book) fr fr (by decide) ?_
    rw [if_neg (by simp)]
    have s13 := (s12.trans (.new (o := MO.lst [D.tup (book.map rowD), D.tup (book.map rowD)]) hr1)).trans (.new (o := MO.lst [D.tup (book.map rowD), D.tup (book.map rowD)]) hr2)
    have a13 := get_old (o := MO.lst [D.tup (book.map rowD), D.tup (book.map rowD)]) (get_old (o := MO.lst [D.tup (book.map rowD), D.tup (book.map rowD)]) a12 hr1) hr2
    generalize ((r2, MO.lst [D.tup (book.map rowD), D.tup (book.map rowD)]) :: (r1, MO.lst [D.tup (book.map rowD), D.tup (book.map rowD)]) :: M12) = M13 at s13 a13
    clear hr1 hr2
    -- a text without a line feed
    refine rB_cons ?_
    simp only [rS, rE, rT, rO, rC, rX, rEs, rOX, rL, rWk, rG, rGs, rF, byT, lenT, endK, oflD, wipeD, List.getElem?_cons_zero, List.getElem?_cons_succ, List.set_cons_zero, List.set_cons_succ, Bool.not_true, Bool.not_false, Bool.false_eq_true, if_true, if_false, decide_true, decide_false, Bool.true_and, Bool.and_true, Bool.false_and, List.length_nil, List.length_cons, Nat.zero_add, Nat.reduceAdd, Rd.tr_bl, Rd.tr_non, Rd.tr_int, Rd.tr_str, Rd.tr_tup, Rd.tr_fl, Rd.tr_ref, Rd.eq_int, Rd.eq_str, Rd.eq_bl, Rd.sq_tup, Rd.sq_fl, Rd.sq_ref, Rd.cm_eq, Rd.cm_ne, Rd.cm_in, Rd.cm_ni, Rd.is_non, Rd.isn_non, Rd.is_bl, Rd.isn_bl, Rd.is_int, Rd.isn_int, Rd.is_str, Rd.isn_str, Rd.is_tup, Rd.isn_tup, Rd.is_fl, Rd.isn_fl, Rd.is_ref, Rd.isn_ref, Rd.cm_lt, Rd.cm_le, Rd.cm_gt, Rd.cm_ge, Rd.ix_tup, Rd.ix_fl, Rd.ix_str, Rd.ix_ref, Rd.sl_tup, Rd.sl_str, Rd.sl_fl, Rd.sl_ref, Rd.ln_str, Rd.ln_tup, Rd.ln_fl, Rd.ln_ref, Rd.nt_int, Rd.nt_str, Rd.st_int, Rd.ab_int, Rd.od_str, Rd.mx_int, Rd.mn_int, Rd.dm_int, Rd.tp_seq, Rd.ls_seq, Rd.rp_any, Rd.bn_ii, Rd.bn_ss, Rd.bn_tt, Rd.bn_rr, Rd.bn_sub, Rd.bn_mul, Rd.bn_fdv, Rd.bn_mod, Rd.bn_pow, Rd.mt_app, Rd.mt_joi, Rd.mt_spl, Rd.mt_par, Rd.mt_rpa, Rd.my_split, Rd.my_partition, Rd.my_rpartition, Rd.my_count, Rd.my_find, Rd.my_rfind, Rd.my_join, Rd.my_app, Rd.ty_non_int, Rd.ty_non_str, Rd.ty_non_bool, Rd.ty_non_tuple, Rd.ty_non_list, Rd.ty_bl_int, Rd.ty_bl_str, Rd.ty_bl_bool, Rd.ty_bl_tuple, Rd.ty_bl_list, Rd.ty_int_int, Rd.ty_int_str, Rd.ty_int_bool, Rd.ty_int_tuple, Rd.ty_int_list, Rd.ty_str_int, Rd.ty_str_str, Rd.ty_str_bool, Rd.ty_str_tuple, Rd.ty_str_list, Rd.ty_tup_int, Rd.ty_tup_str, Rd.ty_tup_bool, Rd.ty_tup_tuple, Rd.ty_tup_list, Rd.ty_fl_int, Rd.ty_fl_str, Rd.ty_fl_bool, Rd.ty_fl_tuple, Rd.ty_fl_list, Rd.fm_str, Rd.fm_int, Rd.it_t, Rd.it_f, Rd.it_s, Rd.it_r, sl0, sl1, sl2, sl3, sl4, sl5, sl6, true_and, at0, at1, at2, in2, in3, ofS_inj]
    obtain ⟨n3, en3, hn3⟩ := seal_nat (journalT book)
    refine ⟨[], said, by rw [journal_nil], fun r hr => (by cases hr), by decide, fun z => (by have := hsb 10 z; omega), by omega, ?_⟩
    refine ⟨journalT book, rfl, by omega, js, ?_⟩
    rw [en3]
    intro r1 _ hr1
    have sh0 : Sh 12 (.tuple []) := (sh_tup (B := 0) (n := 0) (fun p hp => (by cases hp)) (by simp)).le (by omega)
    refine two_shown (B := 12) (p := .tuple []) MH.get_same rfl rfl sh0 (sh_int (by omega)) (by decide) ?_
    refine ⟨journalT book, rfl, by omega, js, ?_⟩
    rw [en3]
    intro r2 _ hr2
    refine two_shown (B := 12) (p := .tuple []) MH.get_same rfl rfl sh0 (sh_int (by omega)) (by decide) ?_
    rw [if_neg (by simp)]
    have s14 := (s13.trans (.new (o := MO.lst [D.tup ([].map rowD), D.int n3]) hr1)).trans (.new (o := MO.lst [D.tup [], D.int n3]) hr2)
    have a14 := get_old (o := MO.lst [D.tup [], D.int n3]) (get_old (o := MO.lst [D.tup ([].map rowD), D.int n3]) a13 hr1) hr2
    generalize ((r2, MO.lst [D.tup [], D.int n3]) :: (r1, MO.lst [D.tup ([].map rowD), D.int n3]) :: M13) = M14 at s14 a14
    clear hr1 hr2 s12 a12 g12 s13 a13
    have g14 : MH.get M14 p = some (wl w10) := s14 p _ (get_put hp0)
    -- two rows
    obtain ⟨a0, ra, ea⟩ : ∃ a0 ra, ads = a0 :: ra := by
      cases ads with
      | nil => exact absurd rfl hads.1
      | cons a b => exact ⟨a, b, rfl⟩
    have oka : okAd a0 := hads.2.2 a0 (by rw [ea]; exact List.mem_cons_self)
    refine rB_cons ?_
    simp only [rS, rE, rT, rO, rC, rX, rEs, rOX, rL, rWk, rG, rGs, rF, byT, lenT, endK, oflD, wipeD, List.getElem?_cons_zero, List.getElem?_cons_succ, List.set_cons_zero, List.set_cons_succ, Bool.not_true, Bool.not_false, Bool.false_eq_true, if_true, if_false, decide_true, decide_false, Bool.true_and, Bool.and_true, Bool.false_and, List.length_nil, List.length_cons, Nat.zero_add, Nat.reduceAdd, Rd.tr_bl, Rd.tr_non, Rd.tr_int, Rd.tr_str, Rd.tr_tup, Rd.tr_fl, Rd.tr_ref, Rd.eq_int, Rd.eq_str, Rd.eq_bl, Rd.sq_tup, Rd.sq_fl, Rd.sq_ref, Rd.cm_eq, Rd.cm_ne, Rd.cm_in, Rd.cm_ni, Rd.is_non, Rd.isn_non, Rd.is_bl, Rd.isn_bl, Rd.is_int, Rd.isn_int, Rd.is_str, Rd.isn_str, Rd.is_tup, Rd.isn_tup, Rd.is_fl, Rd.isn_fl, Rd.is_ref, Rd.isn_ref, Rd.cm_lt, Rd.cm_le, Rd.cm_gt, Rd.cm_ge, Rd.ix_tup, Rd.ix_fl, Rd.ix_str, Rd.ix_ref, Rd.sl_tup, Rd.sl_str, Rd.sl_fl, Rd.sl_ref, Rd.ln_str, Rd.ln_tup, Rd.ln_fl, Rd.ln_ref, Rd.nt_int, Rd.nt_str, Rd.st_int, Rd.ab_int, Rd.od_str, Rd.mx_int, Rd.mn_int, Rd.dm_int, Rd.tp_seq, Rd.ls_seq, Rd.rp_any, Rd.bn_ii, Rd.bn_ss, Rd.bn_tt, Rd.bn_rr, Rd.bn_sub, Rd.bn_mul, Rd.bn_fdv, Rd.bn_mod, Rd.bn_pow, Rd.mt_app, Rd.mt_joi, Rd.mt_spl, Rd.mt_par, Rd.mt_rpa, Rd.my_split, Rd.my_partition, Rd.my_rpartition, Rd.my_count, Rd.my_find, Rd.my_rfind, Rd.my_join, Rd.my_app, Rd.ty_non_int, Rd.ty_non_str, Rd.ty_non_bool, Rd.ty_non_tuple, Rd.ty_non_list, Rd.ty_bl_int, Rd.ty_bl_str, Rd.ty_bl_bool, Rd.ty_bl_tuple, Rd.ty_bl_list, Rd.ty_int_int, Rd.ty_int_str, Rd.ty_int_bool, Rd.ty_int_tuple, Rd.ty_int_list, Rd.ty_str_int, Rd.ty_str_str, Rd.ty_str_bool, Rd.ty_str_tuple, Rd.ty_str_list, Rd.ty_tup_int, Rd.ty_tup_str, Rd.ty_tup_bool, Rd.ty_tup_tuple, Rd.ty_tup_list, Rd.ty_fl_int, Rd.ty_fl_str, Rd.ty_fl_bool, Rd.ty_fl_tuple, Rd.ty_fl_list, Rd.fm_str, Rd.fm_int, Rd.it_t, Rd.it_f, Rd.it_s, Rd.it_r, sl0, sl1, sl2, sl3, sl4, sl5, sl6, true_and, at0, at1, at2, in2, in3, ofS_inj]
    refine ⟨p, _, w10, 4009, rfl, g14, by decide, by decide, hw10, fun z w11 z0 z1 hw11 => ?_⟩
    have s15 := ss_put (w2 := w11) hp0 s14
    have a15 : MH.get (MH.put M14 p (wl w11)) rs = some (.lst (ads.map adD)) := by rw [MH.get_put_ne hne]; exact a14
    generalize MH.put M14 p (wl w11) = M15 at s15 a15
    rw [ea] at a15
    have ead : adD a0 = .tup [.str a0.1, .str a0.2] := rfl
    obtain ⟨zn, rfl⟩ := Int.eq_ofNat_of_zero_le z0
    simp only [rS, rE, rT, rO, rC, rX, rEs, rOX, rL, rWk, rG, rGs, rF, byT, lenT, endK, oflD, wipeD, List.getElem?_cons_zero, List.getElem?_cons_succ, List.set_cons_zero, List.set_cons_succ, Bool.not_true, Bool.not_false, Bool.false_eq_true, if_true, if_false, decide_true, decide_false, Bool.true_and, Bool.and_true, Bool.false_and, List.length_nil, List.length_cons, Nat.zero_add, Nat.reduceAdd, Rd.tr_bl, Rd.tr_non, Rd.tr_int, Rd.tr_str, Rd.tr_tup, Rd.tr_fl, Rd.tr_ref, Rd.eq_int, Rd.eq_str, Rd.eq_bl, Rd.sq_tup, Rd.sq_fl, Rd.sq_ref, Rd.cm_eq, Rd.cm_ne, Rd.cm_in, Rd.cm_ni, Rd.is_non, Rd.isn_non, Rd.is_bl, Rd.isn_bl, Rd.is_int, Rd.isn_int, Rd.is_str, Rd.isn_str, Rd.is_tup, Rd.isn_tup, Rd.is_fl, Rd.isn_fl, Rd.is_ref, Rd.isn_ref, Rd.cm_lt, Rd.cm_le, Rd.cm_gt, Rd.cm_ge, Rd.ix_tup, Rd.ix_fl, Rd.ix_str, Rd.ix_ref, Rd.sl_tup, Rd.sl_str, Rd.sl_fl, Rd.sl_ref, Rd.ln_str, Rd.ln_tup, Rd.ln_fl, Rd.ln_ref, Rd.nt_int, Rd.nt_str, Rd.st_int, Rd.ab_int, Rd.od_str, Rd.mx_int, Rd.mn_int, Rd.dm_int, Rd.tp_seq, Rd.ls_seq, Rd.rp_any, Rd.bn_ii, Rd.bn_ss, Rd.bn_tt, Rd.bn_rr, Rd.bn_sub, Rd.bn_mul, Rd.bn_fdv, Rd.bn_mod, Rd.bn_pow, Rd.mt_app, Rd.mt_joi, Rd.mt_spl, Rd.mt_par, Rd.mt_rpa, Rd.my_split, Rd.my_partition, Rd.my_rpartition, Rd.my_count, Rd.my_find, Rd.my_rfind, Rd.my_join, Rd.my_app, Rd.ty_non_int, Rd.ty_non_str, Rd.ty_non_bool, Rd.ty_non_tuple, Rd.ty_non_list, Rd.ty_bl_int, Rd.ty_bl_str, Rd.ty_bl_bool, Rd.ty_bl_tuple, Rd.ty_bl_list, Rd.ty_int_int, Rd.ty_int_str, Rd.ty_int_bool, Rd.ty_int_tuple, Rd.ty_int_list, Rd.ty_str_int, Rd.ty_str_str, Rd.ty_str_bool, Rd.ty_str_tuple, Rd.ty_str_list, Rd.ty_tup_int, Rd.ty_tup_str, Rd.ty_tup_bool, Rd.ty_tup_tuple, Rd.ty_tup_list, Rd.ty_fl_int, Rd.ty_fl_str, Rd.ty_fl_bool, Rd.ty_fl_tuple, Rd.ty_fl_list, Rd.fm_str, Rd.fm_int, Rd.it_t, Rd.it_f, Rd.it_s, Rd.it_r, sl0, sl1, sl2, sl3, sl4, sl5, sl6, true_and, at0, at1, at2, in2, in3, ofS_inj, a15, List.map_cons, Option.some.injEq, exists_eq_left', ead]
    refine rB_cons ?_
    simp only [rS, rE, rT, rO, rC, rX, rEs, rOX, rL, rWk, rG, rGs, rF, byT, lenT, endK, oflD, wipeD, List.getElem?_cons_zero, List.getElem?_cons_succ, List.set_cons_zero, List.set_cons_succ, Bool.not_true, Bool.not_false, Bool.false_eq_true, if_true, if_false, decide_true, decide_false, Bool.true_and, Bool.and_true, Bool.false_and, List.length_nil, List.length_cons, Nat.zero_add, Nat.reduceAdd, Rd.tr_bl, Rd.tr_non, Rd.tr_int, Rd.tr_str, Rd.tr_tup, Rd.tr_fl, Rd.tr_ref, Rd.eq_int, Rd.eq_str, Rd.eq_bl, Rd.sq_tup, Rd.sq_fl, Rd.sq_ref, Rd.cm_eq, Rd.cm_ne, Rd.cm_in, Rd.cm_ni, Rd.is_non, Rd.isn_non, Rd.is_bl, Rd.isn_bl, Rd.is_int, Rd.isn_int, Rd.is_str, Rd.isn_str, Rd.is_tup, Rd.isn_tup, Rd.is_fl, Rd.isn_fl, Rd.is_ref, Rd.isn_ref, Rd.cm_lt, Rd.cm_le, Rd.cm_gt, Rd.cm_ge, Rd.ix_tup, Rd.ix_fl, Rd.ix_str, Rd.ix_ref, Rd.sl_tup, Rd.sl_str, Rd.sl_fl, Rd.sl_ref, Rd.ln_str, Rd.ln_tup, Rd.ln_fl, Rd.ln_ref, Rd.nt_int, Rd.nt_str, Rd.st_int, Rd.ab_int, Rd.od_str, Rd.mx_int, Rd.mn_int, Rd.dm_int, Rd.tp_seq, Rd.ls_seq, Rd.rp_any, Rd.bn_ii, Rd.bn_ss, Rd.bn_tt, Rd.bn_rr, Rd.bn_sub, Rd.bn_mul, Rd.bn_fdv, Rd.bn_mod, Rd.bn_pow, Rd.mt_app, Rd.mt_joi, Rd.mt_spl, Rd.mt_par, Rd.mt_rpa, Rd.my_split, Rd.my_partition, Rd.my_rpartition, Rd.my_count, Rd.my_find, Rd.my_rfind, Rd.my_join, Rd.my_app, Rd.ty_non_int, Rd.ty_non_str, Rd.ty_non_bool, Rd.ty_non_tuple, Rd.ty_non_list, Rd.ty_bl_int, Rd.ty_bl_str, Rd.ty_bl_bool, Rd.ty_bl_tuple, Rd.ty_bl_list, Rd.ty_int_int, Rd.ty_int_str, Rd.ty_int_bool, Rd.ty_int_tuple, Rd.ty_int_list, Rd.ty_str_int, Rd.ty_str_str, Rd.ty_str_bool, Rd.ty_str_tuple, Rd.ty_str_list, Rd.ty_tup_int, Rd.ty_tup_str, Rd.ty_tup_bool, Rd.ty_tup_tuple, Rd.ty_tup_list, Rd.ty_fl_int, Rd.ty_fl_str, Rd.ty_fl_bool, Rd.ty_fl_tuple, Rd.ty_fl_list, Rd.fm_str, Rd.fm_int, Rd.it_t, Rd.it_f, Rd.it_s, Rd.it_r, sl0, sl1, sl2, sl3, sl4, sl5, sl6, true_and, at0, at1, at2, in2, in3, ofS_inj, a15, List.map_cons, Option.some.injEq, exists_eq_left', ead]
    refine rB_cons ?_
    simp only [rS, rE, rT, rO, rC, rX, rEs, rOX, rL, rWk, rG, rGs, rF, byT, lenT, endK, oflD, wipeD, List.getElem?_cons_zero, List.getElem?_cons_succ, List.set_cons_zero, List.set_cons_succ, Bool.not_true, Bool.not_false, Bool.false_eq_true, if_true, if_false, decide_true, decide_false, Bool.true_and, Bool.and_true, Bool.false_and, List.length_nil, List.length_cons, Nat.zero_add, Nat.reduceAdd, Rd.tr_bl, Rd.tr_non, Rd.tr_int, Rd.tr_str, Rd.tr_tup, Rd.tr_fl, Rd.tr_ref, Rd.eq_int, Rd.eq_str, Rd.eq_bl, Rd.sq_tup, Rd.sq_fl, Rd.sq_ref, Rd.cm_eq, Rd.cm_ne, Rd.cm_in, Rd.cm_ni, Rd.is_non, Rd.isn_non, Rd.is_bl, Rd.isn_bl, Rd.is_int, Rd.isn_int, Rd.is_str, Rd.isn_str, Rd.is_tup, Rd.isn_tup, Rd.is_fl, Rd.isn_fl, Rd.is_ref, Rd.isn_ref, Rd.cm_lt, Rd.cm_le, Rd.cm_gt, Rd.cm_ge, Rd.ix_tup, Rd.ix_fl, Rd.ix_str, Rd.ix_ref, Rd.sl_tup, Rd.sl_str, Rd.sl_fl, Rd.sl_ref, Rd.ln_str, Rd.ln_tup, Rd.ln_fl, Rd.ln_ref, Rd.nt_int, Rd.nt_str, Rd.st_int, Rd.ab_int, Rd.od_str, Rd.mx_int, Rd.mn_int, Rd.dm_int, Rd.tp_seq, Rd.ls_seq, Rd.rp_any, Rd.bn_ii, Rd.bn_ss, Rd.bn_tt, Rd.bn_rr, Rd.bn_sub, Rd.bn_mul, Rd.bn_fdv, Rd.bn_mod, Rd.bn_pow, Rd.mt_app, Rd.mt_joi, Rd.mt_spl, Rd.mt_par, Rd.mt_rpa, Rd.my_split, Rd.my_partition, Rd.my_rpartition, Rd.my_count, Rd.my_find, Rd.my_rfind, Rd.my_join, Rd.my_app, Rd.ty_non_int, Rd.ty_non_str, Rd.ty_non_bool, Rd.ty_non_tuple, Rd.ty_non_list, Rd.ty_bl_int, Rd.ty_bl_str, Rd.ty_bl_bool, Rd.ty_bl_tuple, Rd.ty_bl_list, Rd.ty_int_int, Rd.ty_int_str, Rd.ty_int_bool, Rd.ty_int_tuple, Rd.ty_int_list, Rd.ty_str_int, Rd.ty_str_str, Rd.ty_str_bool, Rd.ty_str_tuple, Rd.ty_str_list, Rd.ty_tup_int, Rd.ty_tup_str, Rd.ty_tup_bool, Rd.ty_tup_tuple, Rd.ty_tup_list, Rd.ty_fl_int, Rd.ty_fl_str, Rd.ty_fl_bool, Rd.ty_fl_tuple, Rd.ty_fl_list, Rd.fm_str, Rd.fm_int, Rd.it_t, Rd.it_f, Rd.it_s, Rd.it_r, sl0, sl1, sl2, sl3, sl4, sl5, sl6, true_and, at0, at1, at2, in2, in3, ofS_inj, a15, List.map_cons, Option.some.injEq, exists_eq_left', ead]
    refine rB_cons ?_
    simp only [rS, rE, rT, rO, rC, rX, rEs, rOX, rL, rWk, rG, rGs, rF, byT, lenT, endK, oflD, wipeD, List.getElem?_cons_zero, List.getElem?_cons_succ, List.set_cons_zero, List.set_cons_succ, Bool.not_true, Bool.not_false, Bool.false_eq_true, if_true, if_false, decide_true, decide_false, Bool.true_and, Bool.and_true, Bool.false_and, List.length_nil, List.length_cons, Nat.zero_add, Nat.reduceAdd, Rd.tr_bl, Rd.tr_non, Rd.tr_int, Rd.tr_str, Rd.tr_tup, Rd.tr_fl, Rd.tr_ref, Rd.eq_int, Rd.eq_str, Rd.eq_bl, Rd.sq_tup, Rd.sq_fl, Rd.sq_ref, Rd.cm_eq, Rd.cm_ne, Rd.cm_in, Rd.cm_ni, Rd.is_non, Rd.isn_non, Rd.is_bl, Rd.isn_bl, Rd.is_int, Rd.isn_int, Rd.is_str, Rd.isn_str, Rd.is_tup, Rd.isn_tup, Rd.is_fl, Rd.isn_fl, Rd.is_ref, Rd.isn_ref, Rd.cm_lt, Rd.cm_le, Rd.cm_gt, Rd.cm_ge, Rd.ix_tup, Rd.ix_fl, Rd.ix_str, Rd.ix_ref, Rd.sl_tup, Rd.sl_str, Rd.sl_fl, Rd.sl_ref, Rd.ln_str, Rd.ln_tup, Rd.ln_fl, Rd.ln_ref, Rd.nt_int, Rd.nt_str, Rd.st_int, Rd.ab_int, Rd.od_str, Rd.mx_int, Rd.mn_int, Rd.dm_int, Rd.tp_seq, Rd.ls_seq, Rd.rp_any, Rd.bn_ii, Rd.bn_ss, Rd.bn_tt, Rd.bn_rr, Rd.bn_sub, Rd.bn_mul, Rd.bn_fdv, Rd.bn_mod, Rd.bn_pow, Rd.mt_app, Rd.mt_joi, Rd.mt_spl, Rd.mt_par, Rd.mt_rpa, Rd.my_split, Rd.my_partition, Rd.my_rpartition, Rd.my_count, Rd.my_find, Rd.my_rfind, Rd.my_join, Rd.my_app, Rd.ty_non_int, Rd.ty_non_str, Rd.ty_non_bool, Rd.ty_non_tuple, Rd.ty_non_list, Rd.ty_bl_int, Rd.ty_bl_str, Rd.ty_bl_bool, Rd.ty_bl_tuple, Rd.ty_bl_list, Rd.ty_int_int, Rd.ty_int_str, Rd.ty_int_bool, Rd.ty_int_tuple, Rd.ty_int_list, Rd.ty_str_int, Rd.ty_str_str, Rd.ty_str_bool, Rd.ty_str_tuple, Rd.ty_str_list, Rd.ty_tup_int, Rd.ty_tup_str, Rd.ty_tup_bool, Rd.ty_tup_tuple, Rd.ty_tup_list, Rd.ty_fl_int, Rd.ty_fl_str, Rd.ty_fl_bool, Rd.ty_fl_tuple, Rd.ty_fl_list, Rd.fm_str, Rd.fm_int, Rd.it_t, Rd.it_f, Rd.it_s, Rd.it_r, sl0, sl1, sl2, sl3, sl4, sl5, sl6, true_and, at0, at1, at2, in2, in3, ofS_inj, a15, List.map_cons, Option.some.injEq, exists_eq_left', ead]
    have c2 : (5 : Int) + (zn : Int) + 1 = ((5 + zn + 1 : Nat) : Int) := by omega
    have c1 : (5 : Int) + (zn : Int) = ((5 + zn : Nat) : Int) := by omega
    simp only [c2, c1]
    have k1 : okRow ⟨5 + zn, a0, .ask⟩ := ⟨by show 5 + zn ≤ _; omega, oka, trivial⟩
    have k2 : okRow ⟨5 + zn + 1, a0, .cut⟩ := ⟨by show 5 + zn + 1 ≤ _; omega, oka, trivial⟩
    have kk : ∀ r ∈ [(⟨5 + zn, a0, .ask⟩ : JR), ⟨5 + zn + 1, a0, .cut⟩], okRow r := fun r hr => by
      have hr' : r = ⟨5 + zn, a0, .ask⟩ ∨ r = ⟨5 + zn + 1, a0, .cut⟩ := by simpa using hr
      rcases hr' with rfl | rfl
      · exact k1
      · exact k2
    have jl2 := journal_len (rs := [(⟨5 + zn, a0, .ask⟩ : JR), ⟨5 + zn + 1, a0, .cut⟩]) (by simp) kk
    have js2 := journal_signs (rs := [(⟨5 + zn, a0, .ask⟩ : JR), ⟨5 + zn + 1, a0, .cut⟩]) (by simp) kk
    have shj2 : Sh 16777216 (.str (journalT [(⟨5 + zn, a0, .ask⟩ : JR), ⟨5 + zn + 1, a0, .cut⟩])) := (sh_str js2 jl2).le (by omega)
    refine ⟨[⟨5 + zn, a0, .ask⟩, ⟨5 + zn + 1, a0, .cut⟩], _, _, _, rfl, kk, by simp, ?_⟩
    refine ⟨_, rfl, shj2.1, sz _ shj2.2, ?_⟩
    refine ⟨0, ⟨5 + zn, a0, .ask⟩, rfl, by omega, k1, ?_⟩
    refine ⟨1, ⟨5 + zn + 1, a0, .cut⟩, rfl, by omega, k2, ?_⟩
    rw [journal_two] at shj2 jl2 ⊢
    rw [len_app] at jl2
    refine ⟨sz _ (by omega), ?_⟩
    refine ⟨_, rfl, shj2.1, sz _ shj2.2, ?_⟩
    rw [decide_eq_true rfl]
    exact drop_by s15 (q w11)
end Jn
namespace Jn
open PySem PySem.Spec PyProof.Rows L2 Mx TL
theorem slash_len : (Str.ofString "/").length = 1 := by decide +kernel
theorem tl_slash : tl (Str.ofString "/") = [47] := by decide +kernel
theorem pl_address_in (ds : List D) (M : MH) (Q : KE) (h : sp_address_in ds M Q fun _ _ => False) : rB E0 c_address_in (endK Q) (startD n_address_in.length ds) M := by
  obtain ⟨⟨x, y⟩, rfl, ok, q⟩ := h
  change rB E0 c_address_in (endK Q) [some (.str (adT (x, y))), none, none, none, none] M
  obtain ⟨r, hr⟩ := ok.2.1
  have e1 : y = Str.ofString "/" ++ (⟨r.toArray⟩ : Str) := ext_tl (by rw [tl_append, tl_slash, tl_mk]; exact hr)
  have e2 : adT (x, y) = x ++ Str.ofString "/" ++ (⟨r.toArray⟩ : Str) := ext_tl (by
    show tl (x ++ y) = _
    rw [e1, tl_append, tl_append, tl_append, tl_append, List.append_assoc])
  have e3 : Txt.partition (adT (x, y)) (Str.ofString "/") = (x, Str.ofString "/", (⟨r.toArray⟩ : Str)) := by
    rw [e2]
    refine partition_app tl_slash fun z => ?_
    have := letter_bd (ok.1.2.2 47 z)
    omega
  have hl := ad_len ok
  have hy : (⟨r.toArray⟩ : Str).length ≤ 40 := by
    have := ok.2.2.1
    rw [show (x, y).2 = y from rfl, e1, len_app] at this
    omega
  simp only [c_address_in, rB, rS, rE, rT, rO, rC, rX, rEs, rOX, rL, rWk, rG, rGs, rF, byT, lenT, endK, oflD, wipeD, List.getElem?_cons_zero, List.getElem?_cons_succ, List.set_cons_zero, List.set_cons_succ, Bool.not_true, Bool.not_false, Bool.false_eq_true, if_true, if_false, decide_true, decide_false, Bool.true_and, Bool.and_true, Bool.false_and, List.length_nil, List.length_cons, Nat.zero_add, Nat.reduceAdd, Rd.tr_bl, Rd.tr_non, Rd.tr_int, Rd.tr_str, Rd.tr_tup, Rd.tr_fl, Rd.tr_ref, Rd.eq_int, Rd.eq_str, Rd.eq_bl, Rd.sq_tup, Rd.sq_fl, Rd.sq_ref, Rd.cm_eq, Rd.cm_ne, Rd.cm_in, Rd.cm_ni, Rd.is_non, Rd.isn_non, Rd.is_bl, Rd.isn_bl, Rd.is_int, Rd.isn_int, Rd.is_str, Rd.isn_str, Rd.is_tup, Rd.isn_tup, Rd.is_fl, Rd.isn_fl, Rd.is_ref, Rd.isn_ref, Rd.cm_lt, Rd.cm_le, Rd.cm_gt, Rd.cm_ge, Rd.ix_tup, Rd.ix_fl, Rd.ix_str, Rd.ix_ref, Rd.sl_tup, Rd.sl_str, Rd.sl_fl, Rd.sl_ref, Rd.ln_str, Rd.ln_tup, Rd.ln_fl, Rd.ln_ref, Rd.nt_int, Rd.nt_str, Rd.st_int, Rd.ab_int, Rd.od_str, Rd.mx_int, Rd.mn_int, Rd.dm_int, Rd.tp_seq, Rd.ls_seq, Rd.rp_any, Rd.bn_ii, Rd.bn_ss, Rd.bn_tt, Rd.bn_rr, Rd.bn_sub, Rd.bn_mul, Rd.bn_fdv, Rd.bn_mod, Rd.bn_pow, Rd.mt_app, Rd.mt_joi, Rd.mt_spl, Rd.mt_par, Rd.mt_rpa, Rd.my_split, Rd.my_partition, Rd.my_rpartition, Rd.my_count, Rd.my_find, Rd.my_rfind, Rd.my_join, Rd.my_app, Rd.ty_non_int, Rd.ty_non_str, Rd.ty_non_bool, Rd.ty_non_tuple, Rd.ty_non_list, Rd.ty_bl_int, Rd.ty_bl_str, Rd.ty_bl_bool, Rd.ty_bl_tuple, Rd.ty_bl_list, Rd.ty_int_int, Rd.ty_int_str, Rd.ty_int_bool, Rd.ty_int_tuple, Rd.ty_int_list, Rd.ty_str_int, Rd.ty_str_str, Rd.ty_str_bool, Rd.ty_str_tuple, Rd.ty_str_list, Rd.ty_tup_int, Rd.ty_tup_str, Rd.ty_tup_bool, Rd.ty_tup_tuple, Rd.ty_tup_list, Rd.ty_fl_int, Rd.ty_fl_str, Rd.ty_fl_bool, Rd.ty_fl_tuple, Rd.ty_fl_list, Rd.fm_str, Rd.fm_int, Rd.it_t, Rd.it_f, Rd.it_s, Rd.it_r, sl0, sl1, sl2, sl3, sl4, sl5, sl6, true_and, at0, at1, at2, in2, in3, ofS_inj, e3, slash_len]
  refine ⟨rfl, sz _ (by omega), sz _ (by omega), ?_⟩
  rw [← e1]
  refine ⟨(x, y), rfl, ok, ?_⟩
  simp only [rB, rS, rE, rT, rO, rC, rX, rEs, rOX, rL, rWk, rG, rGs, rF, byT, lenT, endK, oflD, wipeD, List.getElem?_cons_zero, List.getElem?_cons_succ, List.set_cons_zero, List.set_cons_succ, Bool.not_true, Bool.not_false, Bool.false_eq_true, if_true, if_false, decide_true, decide_false, Bool.true_and, Bool.and_true, Bool.false_and, List.length_nil, List.length_cons, Nat.zero_add, Nat.reduceAdd, Rd.tr_bl, Rd.tr_non, Rd.tr_int, Rd.tr_str, Rd.tr_tup, Rd.tr_fl, Rd.tr_ref, Rd.eq_int, Rd.eq_str, Rd.eq_bl, Rd.sq_tup, Rd.sq_fl, Rd.sq_ref, Rd.cm_eq, Rd.cm_ne, Rd.cm_in, Rd.cm_ni, Rd.is_non, Rd.isn_non, Rd.is_bl, Rd.isn_bl, Rd.is_int, Rd.isn_int, Rd.is_str, Rd.isn_str, Rd.is_tup, Rd.isn_tup, Rd.is_fl, Rd.isn_fl, Rd.is_ref, Rd.isn_ref, Rd.cm_lt, Rd.cm_le, Rd.cm_gt, Rd.cm_ge, Rd.ix_tup, Rd.ix_fl, Rd.ix_str, Rd.ix_ref, Rd.sl_tup, Rd.sl_str, Rd.sl_fl, Rd.sl_ref, Rd.ln_str, Rd.ln_tup, Rd.ln_fl, Rd.ln_ref, Rd.nt_int, Rd.nt_str, Rd.st_int, Rd.ab_int, Rd.od_str, Rd.mx_int, Rd.mn_int, Rd.dm_int, Rd.tp_seq, Rd.ls_seq, Rd.rp_any, Rd.bn_ii, Rd.bn_ss, Rd.bn_tt, Rd.bn_rr, Rd.bn_sub, Rd.bn_mul, Rd.bn_fdv, Rd.bn_mod, Rd.bn_pow, Rd.mt_app, Rd.mt_joi, Rd.mt_spl, Rd.mt_par, Rd.mt_rpa, Rd.my_split, Rd.my_partition, Rd.my_rpartition, Rd.my_count, Rd.my_find, Rd.my_rfind, Rd.my_join, Rd.my_app, Rd.ty_non_int, Rd.ty_non_str, Rd.ty_non_bool, Rd.ty_non_tuple, Rd.ty_non_list, Rd.ty_bl_int, Rd.ty_bl_str, Rd.ty_bl_bool, Rd.ty_bl_tuple, Rd.ty_bl_list, Rd.ty_int_int, Rd.ty_int_str, Rd.ty_int_bool, Rd.ty_int_tuple, Rd.ty_int_list, Rd.ty_str_int, Rd.ty_str_str, Rd.ty_str_bool, Rd.ty_str_tuple, Rd.ty_str_list, Rd.ty_tup_int, Rd.ty_tup_str, Rd.ty_tup_bool, Rd.ty_tup_tuple, Rd.ty_tup_list, Rd.ty_fl_int, Rd.ty_fl_str, Rd.ty_fl_bool, Rd.ty_fl_tuple, Rd.ty_fl_list, Rd.fm_str, Rd.fm_int, Rd.it_t, Rd.it_f, Rd.it_s, Rd.it_r]
  exact drop_here q
end Jn
namespace Jn
open PySem PySem.Spec PyProof.Rows L2 Mx
def top (i : Nat) : Stmt := PySem.Challenge.pw_gentlerounds_k45_journals_there_and_back.main.body.getD i (.Pass ⟨0, 0, 0, 0⟩)
abbrev s_seal_in : Stmt := top 43
def d_seal_in : He.DefD := ⟨("seal_in", none), "seal_in", "seal_in", defArgs s_seal_in, defBody s_seal_in, defScope s_seal_in, [], []⟩
abbrev s_text_of : Stmt := top 19
def d_text_of : He.DefD := ⟨("text_of", none), "text_of", "text_of", defArgs s_text_of, defBody s_text_of, defScope s_text_of, [], []⟩
abbrev s__law_seal : Stmt := top 60
def d__law_seal : He.DefD := ⟨("_law_seal", none), "_law_seal", "_law_seal", defArgs s__law_seal, defBody s__law_seal, defScope s__law_seal, [], []⟩
abbrev s__law_line : Stmt := top 59
def d__law_line : He.DefD := ⟨("_law_line", none), "_law_line", "_law_line", defArgs s__law_line, defBody s__law_line, defScope s__law_line, [], []⟩
abbrev s__law_take : Stmt := top 53
def d__law_take : He.DefD := ⟨("_law_take", none), "_law_take", "_law_take", defArgs s__law_take, defBody s__law_take, defScope s__law_take, [], []⟩
abbrev s_is_path : Stmt := top 10
def d_is_path : He.DefD := ⟨("is_path", none), "is_path", "is_path", defArgs s_is_path, defBody s_is_path, defScope s_is_path, [], []⟩
abbrev s_is_name : Stmt := top 9
def d_is_name : He.DefD := ⟨("is_name", none), "is_name", "is_name", defArgs s_is_name, defBody s_is_name, defScope s_is_name, [], []⟩
abbrev s_is_tuple_up_to : Stmt := top 14
def d_is_tuple_up_to : He.DefD := ⟨("is_tuple_up_to", none), "is_tuple_up_to", "is_tuple_up_to", defArgs s_is_tuple_up_to, defBody s_is_tuple_up_to, defScope s_is_tuple_up_to, [], []⟩
abbrev s_is_whole : Stmt := top 12
def d_is_whole : He.DefD := ⟨("is_whole", none), "is_whole", "is_whole", defArgs s_is_whole, defBody s_is_whole, defScope s_is_whole, [], []⟩
abbrev s_is_numeral : Stmt := top 31
def d_is_numeral : He.DefD := ⟨("is_numeral", none), "is_numeral", "is_numeral", defArgs s_is_numeral, defBody s_is_numeral, defScope s_is_numeral, [], []⟩
abbrev s__law_well : Stmt := top 52
def d__law_well : He.DefD := ⟨("_law_well", none), "_law_well", "_law_well", defArgs s__law_well, defBody s__law_well, defScope s__law_well, [], []⟩
abbrev s_words_behind : Stmt := top 34
def d_words_behind : He.DefD := ⟨("words_behind", none), "words_behind", "words_behind", defArgs s_words_behind, defBody s_words_behind, defScope s_words_behind, [], []⟩
abbrev s__law_sealed : Stmt := top 61
def d__law_sealed : He.DefD := ⟨("_law_sealed", none), "_law_sealed", "_law_sealed", defArgs s__law_sealed, defBody s__law_sealed, defScope s__law_sealed, [], []⟩
abbrev s_seal_of : Stmt := top 44
def d_seal_of : He.DefD := ⟨("seal_of", none), "seal_of", "seal_of", defArgs s_seal_of, defBody s_seal_of, defScope s_seal_of, [], []⟩
abbrev s_is_short_path : Stmt := top 17
def d_is_short_path : He.DefD := ⟨("is_short_path", none), "is_short_path", "is_short_path", defArgs s_is_short_path, defBody s_is_short_path, defScope s_is_short_path, [], []⟩
abbrev s_is_between : Stmt := top 13
def d_is_between : He.DefD := ⟨("is_between", none), "is_between", "is_between", defArgs s_is_between, defBody s_is_between, defScope s_is_between, [], []⟩
abbrev s__law_one : Stmt := top 54
def d__law_one : He.DefD := ⟨("_law_one", none), "_law_one", "_law_one", defArgs s__law_one, defBody s__law_one, defScope s__law_one, [], []⟩
abbrev s_line_of : Stmt := top 39
def d_line_of : He.DefD := ⟨("line_of", none), "line_of", "line_of", defArgs s_line_of, defBody s_line_of, defScope s_line_of, [], []⟩
abbrev s_is_address : Stmt := top 18
def d_is_address : He.DefD := ⟨("is_address", none), "is_address", "is_address", defArgs s_is_address, defBody s_is_address, defScope s_is_address, [], []⟩
abbrev s__law_answer : Stmt := top 58
def d__law_answer : He.DefD := ⟨("_law_answer", none), "_law_answer", "_law_answer", defArgs s__law_answer, defBody s__law_answer, defScope s__law_answer, [], []⟩
abbrev s_is_moment : Stmt := top 25
def d_is_moment : He.DefD := ⟨("is_moment", none), "is_moment", "is_moment", defArgs s_is_moment, defBody s_is_moment, defScope s_is_moment, [], []⟩
abbrev s__law_signs : Stmt := top 63
def d__law_signs : He.DefD := ⟨("_law_signs", none), "_law_signs", "_law_signs", defArgs s__law_signs, defBody s__law_signs, defScope s__law_signs, [], []⟩
abbrev s__law_path : Stmt := top 56
def d__law_path : He.DefD := ⟨("_law_path", none), "_law_path", "_law_path", defArgs s__law_path, defBody s__law_path, defScope s__law_path, [], []⟩
abbrev s__law_name : Stmt := top 55
def d__law_name : He.DefD := ⟨("_law_name", none), "_law_name", "_law_name", defArgs s__law_name, defBody s__law_name, defScope s__law_name, [], []⟩
abbrev s_journal_line : Stmt := top 45
def d_journal_line : He.DefD := ⟨("journal_line", none), "journal_line", "journal_line", defArgs s_journal_line, defBody s_journal_line, defScope s_journal_line, [], []⟩
abbrev s_are_links : Stmt := top 26
def d_are_links : He.DefD := ⟨("are_links", none), "are_links", "are_links", defArgs s_are_links, defBody s_are_links, defScope s_are_links, [], []⟩
abbrev s_address_in : Stmt := top 20
def d_address_in : He.DefD := ⟨("address_in", none), "address_in", "address_in", defArgs s_address_in, defBody s_address_in, defScope s_address_in, [], []⟩
abbrev s__law_loose_rows : Stmt := top 62
def d__law_loose_rows : He.DefD := ⟨("_law_loose_rows", none), "_law_loose_rows", "_law_loose_rows", defArgs s__law_loose_rows, defBody s__law_loose_rows, defScope s__law_loose_rows, [], []⟩
abbrev s__law_spots : Stmt := top 57
def d__law_spots : He.DefD := ⟨("_law_spots", none), "_law_spots", "_law_spots", defArgs s__law_spots, defBody s__law_spots, defScope s__law_spots, [], []⟩
abbrev s_lines_in : Stmt := top 46
def d_lines_in : He.DefD := ⟨("lines_in", none), "lines_in", "lines_in", defArgs s_lines_in, defBody s_lines_in, defScope s_lines_in, [], []⟩
abbrev s_is_some_answer : Stmt := top 27
def d_is_some_answer : He.DefD := ⟨("is_some_answer", none), "is_some_answer", "is_some_answer", defArgs s_is_some_answer, defBody s_is_some_answer, defScope s_is_some_answer, [], []⟩
abbrev s_journal_of : Stmt := top 48
def d_journal_of : He.DefD := ⟨("journal_of", none), "journal_of", "journal_of", defArgs s_journal_of, defBody s_journal_of, defScope s_journal_of, [], []⟩
abbrev s_answer_of : Stmt := top 32
def d_answer_of : He.DefD := ⟨("answer_of", none), "answer_of", "answer_of", defArgs s_answer_of, defBody s_answer_of, defScope s_answer_of, [], []⟩
abbrev s_is_some_event : Stmt := top 36
def d_is_some_event : He.DefD := ⟨("is_some_event", none), "is_some_event", "is_some_event", defArgs s_is_some_event, defBody s_is_some_event, defScope s_is_some_event, [], []⟩
abbrev s_event_of : Stmt := top 33
def d_event_of : He.DefD := ⟨("event_of", none), "event_of", "event_of", defArgs s_event_of, defBody s_event_of, defScope s_event_of, [], []⟩
abbrev s_is_some_row : Stmt := top 37
def d_is_some_row : He.DefD := ⟨("is_some_row", none), "is_some_row", "is_some_row", defArgs s_is_some_row, defBody s_is_some_row, defScope s_is_some_row, [], []⟩
abbrev s_row_in : Stmt := top 40
def d_row_in : He.DefD := ⟨("row_in", none), "row_in", "row_in", defArgs s_row_in, defBody s_row_in, defScope s_row_in, [], []⟩
abbrev s_check_log : Stmt := top 38
def d_check_log : He.DefD := ⟨("check_log", none), "check_log", "check_log", defArgs s_check_log, defBody s_check_log, defScope s_check_log, [], []⟩
abbrev s_row_at : Stmt := top 47
def d_row_at : He.DefD := ⟨("row_at", none), "row_at", "row_at", defArgs s_row_at, defBody s_row_at, defScope s_row_at, [], []⟩
abbrev s_print_journal : Stmt := top 49
def d_print_journal : He.DefD := ⟨("print_journal", none), "print_journal", "print_journal", defArgs s_print_journal, defBody s_print_journal, defScope s_print_journal, [], []⟩
abbrev s_read_journal : Stmt := top 50
def d_read_journal : He.DefD := ⟨("read_journal", none), "read_journal", "read_journal", defArgs s_read_journal, defBody s_read_journal, defScope s_read_journal, [], []⟩
abbrev s__law_right : Stmt := top 64
def d__law_right : He.DefD := ⟨("_law_right", none), "_law_right", "_law_right", defArgs s__law_right, defBody s__law_right, defScope s__law_right, [], []⟩
abbrev s_law : Stmt := top 65
def d_law : He.DefD := ⟨("law", none), "law", "law", defArgs s_law, defBody s_law, defScope s_law, [], []⟩
def fn : List He.DefD := [d_seal_in, d_text_of, d__law_seal, d__law_line, d__law_take, d_is_path, d_is_name, d_is_tuple_up_to, d_is_whole, d_is_numeral, d__law_well, d_words_behind, d__law_sealed, d_seal_of, d_is_short_path, d_is_between, d__law_one, d_line_of, d_is_address, d__law_answer, d_is_moment, d__law_signs, d__law_path, d__law_name, d_journal_line, d_are_links, d_address_in, d__law_loose_rows, d__law_spots, d_lines_in, d_is_some_answer, d_journal_of, d_answer_of, d_is_some_event, d_event_of, d_is_some_row, d_row_in, d_check_log, d_row_at, d_print_journal, d_read_journal, d__law_right, d_law]
def fa : List He.Fa := [.glo "seal_in", .glo "text_of", .glo "_law_seal", .glo "_law_line", .glo "_law_take", .glo "is_path", .glo "is_name", .glo "is_tuple_up_to", .glo "is_whole", .glo "is_numeral", .glo "_law_well", .glo "words_behind", .glo "_law_sealed", .glo "seal_of", .glo "is_short_path", .glo "is_between", .glo "_law_one", .glo "line_of", .glo "is_address", .glo "_law_answer", .glo "is_moment", .glo "_law_signs", .glo "_law_path", .glo "_law_name", .glo "journal_line", .glo "are_links", .glo "address_in", .glo "_law_loose_rows", .glo "_law_spots", .glo "lines_in", .glo "is_some_answer", .glo "journal_of", .glo "answer_of", .glo "is_some_event", .glo "event_of", .glo "is_some_row", .glo "row_in", .glo "check_log", .glo "row_at", .glo "print_journal", .glo "read_journal", .glo "_law_right", .glo "law", .free "abs", .free "all", .free "bool", .free "divmod", .free "enumerate", .free "int", .free "isinstance", .free "len", .free "max", .free "min", .free "ord", .free "range", .free "repr", .free "str", .free "sum", .free "tuple", .str "DIGITS" "0123456789", .str "LETTERS" "abcdefghijklmnopqrstuvwxyz", .int "MOST_DIGITS" (12), .int "MOST_LETTERS" (12), .int "MOST_LINKS" (6), .int "MOST_MARK" (999999), .int "MOST_MOMENT" (999999999999), .int "MOST_SIGNS" (40), .int "SEALS" (999983), .str "SIGNS" "-./0123456789_abcdefghijklmnopqrstuvwxyz"]
def loose0 : List Str := ["CrawlError", "DIGITS", "InvalidJournal", "InvalidLine", "InvalidLog", "LETTERS", "MOST_DIGITS", "MOST_LETTERS", "MOST_LINKS", "MOST_MARK", "MOST_MOMENT", "MOST_SIGNS", "SEALS", "SIGNS", "_law_answer", "_law_line", "_law_loose_rows", "_law_name", "_law_one", "_law_path", "_law_right", "_law_seal", "_law_sealed", "_law_signs", "_law_spots", "_law_take", "_law_well", "address_in", "answer_of", "are_links"]
def loose1 : List Str := ["check_log", "event_of", "is_address", "is_between", "is_moment", "is_name", "is_numeral", "is_path", "is_short_path", "is_some_answer", "is_some_event", "is_some_row", "is_tuple_up_to", "is_whole", "journal_line", "journal_of", "line_of", "lines_in", "print_journal", "read_journal", "row_at", "row_in", "seal_in", "seal_of", "text_of", "words_behind"]
def loose : List Str := loose0 ++ loose1
abbrev R : PySem.W.OpenRow := PySem.W.OpenLaw.row PySem.Challenge.rw_gentlerounds_k45_journals_there_and_back
abbrev hk : PySem.W.Hook := He.hookD 5 fa fn
def ob (s : PySem.W.SharedT) : He.AlD := He.obsDG 5 fa fn (HandSHeadRun.getT s)
theorem ob_eq (s : PySem.W.SharedT) : ob s = hk.obs s.abs := He.obsDG_eq (HandSHeadRun.getT_eq s)
theorem run (w : World) : HandSHeadRun.RunEq R (PySem.W.view R.prog [65]) hk ob 20000 loose w := by
  intro os
  kernel_rfl
theorem sc_seal_in : C8.scC n_seal_in p_seal_in (defScope s_seal_in) = true := by decide +kernel
theorem ck_seal_in : ckB c_seal_in ⟨defScope s_seal_in, n_seal_in, fun _ => true⟩ (defBody s_seal_in) = true := by decide +kernel
theorem sc_text_of : C8.scC n_text_of p_text_of (defScope s_text_of) = true := by decide +kernel
theorem ck_text_of : ckB c_text_of ⟨defScope s_text_of, n_text_of, fun _ => true⟩ (defBody s_text_of) = true := by decide +kernel
theorem sc__law_seal : C8.scC n__law_seal p__law_seal (defScope s__law_seal) = true := by decide +kernel
theorem ck__law_seal : ckB c__law_seal ⟨defScope s__law_seal, n__law_seal, fun _ => true⟩ (defBody s__law_seal) = true := by decide +kernel
theorem sc__law_line : C8.scC n__law_line p__law_line (defScope s__law_line) = true := by decide +kernel
theorem ck__law_line : ckB c__law_line ⟨defScope s__law_line, n__law_line, fun _ => true⟩ (defBody s__law_line) = true := by decide +kernel
theorem sc__law_take : C8.scC n__law_take p__law_take (defScope s__law_take) = true := by decide +kernel
theorem ck__law_take : ckB c__law_take ⟨defScope s__law_take, n__law_take, fun _ => true⟩ (defBody s__law_take) = true := by decide +kernel
theorem sc_is_path : C8.scC n_is_path p_is_path (defScope s_is_path) = true := by decide +kernel
theorem ck_is_path : ckB c_is_path ⟨defScope s_is_path, n_is_path, fun _ => true⟩ (defBody s_is_path) = true := by decide +kernel
theorem sc_is_name : C8.scC n_is_name p_is_name (defScope s_is_name) = true := by decide +kernel
theorem ck_is_name : ckB c_is_name ⟨defScope s_is_name, n_is_name, fun _ => true⟩ (defBody s_is_name) = true := by decide +kernel
theorem sc_is_tuple_up_to : C8.scC n_is_tuple_up_to p_is_tuple_up_to (defScope s_is_tuple_up_to) = true := by decide +kernel
theorem ck_is_tuple_up_to : ckB c_is_tuple_up_to ⟨defScope s_is_tuple_up_to, n_is_tuple_up_to, fun _ => true⟩ (defBody s_is_tuple_up_to) = true := by decide +kernel
theorem sc_is_whole : C8.scC n_is_whole p_is_whole (defScope s_is_whole) = true := by decide +kernel
theorem ck_is_whole : ckB c_is_whole ⟨defScope s_is_whole, n_is_whole, fun _ => true⟩ (defBody s_is_whole) = true := by decide +kernel
theorem sc_is_numeral : C8.scC n_is_numeral p_is_numeral (defScope s_is_numeral) = true := by decide +kernel
theorem ck_is_numeral : ckB c_is_numeral ⟨defScope s_is_numeral, n_is_numeral, fun _ => true⟩ (defBody s_is_numeral) = true := by decide +kernel
theorem sc__law_well : C8.scC n__law_well p__law_well (defScope s__law_well) = true := by decide +kernel
theorem ck__law_well : ckB c__law_well ⟨defScope s__law_well, n__law_well, fun _ => true⟩ (defBody s__law_well) = true := by decide +kernel
theorem sc_words_behind : C8.scC n_words_behind p_words_behind (defScope s_words_behind) = true := by decide +kernel
theorem ck_words_behind : ckB c_words_behind ⟨defScope s_words_behind, n_words_behind, fun _ => true⟩ (defBody s_words_behind) = true := by decide +kernel
theorem sc__law_sealed : C8.scC n__law_sealed p__law_sealed (defScope s__law_sealed) = true := by decide +kernel
theorem ck__law_sealed : ckB c__law_sealed ⟨defScope s__law_sealed, n__law_sealed, fun _ => true⟩ (defBody s__law_sealed) = true := by decide +kernel
theorem sc_seal_of : C8.scC n_seal_of p_seal_of (defScope s_seal_of) = true := by decide +kernel
theorem ck_seal_of : ckB c_seal_of ⟨defScope s_seal_of, n_seal_of, fun _ => true⟩ (defBody s_seal_of) = true := by decide +kernel
theorem sc_is_short_path : C8.scC n_is_short_path p_is_short_path (defScope s_is_short_path) = true := by decide +kernel
theorem ck_is_short_path : ckB c_is_short_path ⟨defScope s_is_short_path, n_is_short_path, fun _ => true⟩ (defBody s_is_short_path) = true := by decide +kernel
theorem sc_is_between : C8.scC n_is_between p_is_between (defScope s_is_between) = true := by decide +kernel
theorem ck_is_between : ckB c_is_between ⟨defScope s_is_between, n_is_between, fun _ => true⟩ (defBody s_is_between) = true := by decide +kernel
theorem sc__law_one : C8.scC n__law_one p__law_one (defScope s__law_one) = true := by decide +kernel
theorem ck__law_one : ckB c__law_one ⟨defScope s__law_one, n__law_one, fun _ => true⟩ (defBody s__law_one) = true := by decide +kernel
theorem sc_line_of : C8.scC n_line_of p_line_of (defScope s_line_of) = true := by decide +kernel
theorem ck_line_of : ckB c_line_of ⟨defScope s_line_of, n_line_of, fun _ => true⟩ (defBody s_line_of) = true := by decide +kernel
theorem sc_is_address : C8.scC n_is_address p_is_address (defScope s_is_address) = true := by decide +kernel
theorem ck_is_address : ckB c_is_address ⟨defScope s_is_address, n_is_address, fun _ => true⟩ (defBody s_is_address) = true := by decide +kernel
theorem sc__law_answer : C8.scC n__law_answer p__law_answer (defScope s__law_answer) = true := by decide +kernel
theorem ck__law_answer : ckB c__law_answer ⟨defScope s__law_answer, n__law_answer, fun _ => true⟩ (defBody s__law_answer) = true := by decide +kernel
theorem sc_is_moment : C8.scC n_is_moment p_is_moment (defScope s_is_moment) = true := by decide +kernel
theorem ck_is_moment : ckB c_is_moment ⟨defScope s_is_moment, n_is_moment, fun _ => true⟩ (defBody s_is_moment) = true := by decide +kernel
theorem sc__law_signs : C8.scC n__law_signs p__law_signs (defScope s__law_signs) = true := by decide +kernel
theorem ck__law_signs : ckB c__law_signs ⟨defScope s__law_signs, n__law_signs, fun _ => true⟩ (defBody s__law_signs) = true := by decide +kernel
theorem sc__law_path : C8.scC n__law_path p__law_path (defScope s__law_path) = true := by decide +kernel
theorem ck__law_path : ckB c__law_path ⟨defScope s__law_path, n__law_path, fun _ => true⟩ (defBody s__law_path) = true := by decide +kernel
theorem sc__law_name : C8.scC n__law_name p__law_name (defScope s__law_name) = true := by decide +kernel
theorem ck__law_name : ckB c__law_name ⟨defScope s__law_name, n__law_name, fun _ => true⟩ (defBody s__law_name) = true := by decide +kernel
theorem sc_journal_line : C8.scC n_journal_line p_journal_line (defScope s_journal_line) = true := by decide +kernel
theorem ck_journal_line : ckB c_journal_line ⟨defScope s_journal_line, n_journal_line, fun _ => true⟩ (defBody s_journal_line) = true := by decide +kernel
theorem sc_are_links : C8.scC n_are_links p_are_links (defScope s_are_links) = true := by decide +kernel
theorem ck_are_links : ckB c_are_links ⟨defScope s_are_links, n_are_links, fun _ => true⟩ (defBody s_are_links) = true := by decide +kernel
theorem sc_address_in : C8.scC n_address_in p_address_in (defScope s_address_in) = true := by decide +kernel
theorem ck_address_in : ckB c_address_in ⟨defScope s_address_in, n_address_in, fun _ => true⟩ (defBody s_address_in) = true := by decide +kernel
theorem sc__law_loose_rows : C8.scC n__law_loose_rows p__law_loose_rows (defScope s__law_loose_rows) = true := by decide +kernel
theorem ck__law_loose_rows : ckB c__law_loose_rows ⟨defScope s__law_loose_rows, n__law_loose_rows, fun _ => true⟩ (defBody s__law_loose_rows) = true := by decide +kernel
theorem sc__law_spots : C8.scC n__law_spots p__law_spots (defScope s__law_spots) = true := by decide +kernel
theorem ck__law_spots : ckB c__law_spots ⟨defScope s__law_spots, n__law_spots, fun _ => true⟩ (defBody s__law_spots) = true := by decide +kernel
theorem sc_lines_in : C8.scC n_lines_in p_lines_in (defScope s_lines_in) = true := by decide +kernel
theorem ck_lines_in : ckB c_lines_in ⟨defScope s_lines_in, n_lines_in, fun _ => true⟩ (defBody s_lines_in) = true := by decide +kernel
theorem sc_is_some_answer : C8.scC n_is_some_answer p_is_some_answer (defScope s_is_some_answer) = true := by decide +kernel
theorem ck_is_some_answer : ckB c_is_some_answer ⟨defScope s_is_some_answer, n_is_some_answer, fun _ => true⟩ (defBody s_is_some_answer) = true := by decide +kernel
theorem sc_journal_of : C8.scC n_journal_of p_journal_of (defScope s_journal_of) = true := by decide +kernel
theorem ck_journal_of : ckB c_journal_of ⟨defScope s_journal_of, n_journal_of, fun _ => true⟩ (defBody s_journal_of) = true := by decide +kernel
theorem sc_answer_of : C8.scC n_answer_of p_answer_of (defScope s_answer_of) = true := by decide +kernel
theorem ck_answer_of : ckB c_answer_of ⟨defScope s_answer_of, n_answer_of, fun _ => true⟩ (defBody s_answer_of) = true := by decide +kernel
theorem sc_is_some_event : C8.scC n_is_some_event p_is_some_event (defScope s_is_some_event) = true := by decide +kernel
theorem ck_is_some_event : ckB c_is_some_event ⟨defScope s_is_some_event, n_is_some_event, fun _ => true⟩ (defBody s_is_some_event) = true := by decide +kernel
theorem sc_event_of : C8.scC n_event_of p_event_of (defScope s_event_of) = true := by decide +kernel
theorem ck_event_of : ckB c_event_of ⟨defScope s_event_of, n_event_of, fun _ => true⟩ (defBody s_event_of) = true := by decide +kernel
theorem sc_is_some_row : C8.scC n_is_some_row p_is_some_row (defScope s_is_some_row) = true := by decide +kernel
theorem ck_is_some_row : ckB c_is_some_row ⟨defScope s_is_some_row, n_is_some_row, fun _ => true⟩ (defBody s_is_some_row) = true := by decide +kernel
theorem sc_row_in : C8.scC n_row_in p_row_in (defScope s_row_in) = true := by decide +kernel
theorem ck_row_in : ckB c_row_in ⟨defScope s_row_in, n_row_in, fun _ => true⟩ (defBody s_row_in) = true := by decide +kernel
theorem sc_check_log : C8.scC n_check_log p_check_log (defScope s_check_log) = true := by decide +kernel
theorem ck_check_log : ckB c_check_log ⟨defScope s_check_log, n_check_log, fun _ => true⟩ (defBody s_check_log) = true := by decide +kernel
theorem sc_row_at : C8.scC n_row_at p_row_at (defScope s_row_at) = true := by decide +kernel
theorem ck_row_at : ckB c_row_at ⟨defScope s_row_at, n_row_at, fun _ => true⟩ (defBody s_row_at) = true := by decide +kernel
theorem sc_print_journal : C8.scC n_print_journal p_print_journal (defScope s_print_journal) = true := by decide +kernel
theorem ck_print_journal : ckB c_print_journal ⟨defScope s_print_journal, n_print_journal, fun _ => true⟩ (defBody s_print_journal) = true := by decide +kernel
theorem sc_read_journal : C8.scC n_read_journal p_read_journal (defScope s_read_journal) = true := by decide +kernel
theorem ck_read_journal : ckB c_read_journal ⟨defScope s_read_journal, n_read_journal, fun _ => true⟩ (defBody s_read_journal) = true := by decide +kernel
theorem sc__law_right : C8.scC n__law_right p__law_right (defScope s__law_right) = true := by decide +kernel
theorem ck__law_right : ckB c__law_right ⟨defScope s__law_right, n__law_right, fun _ => true⟩ (defBody s__law_right) = true := by decide +kernel
theorem sc_law : C8.scC n_law p_law (defScope s_law) = true := by decide +kernel
theorem ck_law : ckB c_law ⟨defScope s_law, n_law, fun _ => true⟩ (defBody s_law) = true := by decide +kernel
section
variable {P : Program} {w : World} {K : PySem.W.Frag} {h : Heap} {mg : Str → Option Value}
theorem ok_seal_in (co_SEALS : ConOk K mg "SEALS" (.int (999983))) (fr_enumerate : mg "enumerate" = none) (fr_ord : mg "ord" = none) (fr_sum : mg "sum" = none) : okB (tb P w K mg 0) c_seal_in := ⟨⟨⟨fr_sum, ⟨⟨fr_enumerate, trivial⟩, ⟨trivial, ⟨trivial, trivial⟩⟩, trivial, ⟨⟨trivial, trivial⟩, ⟨fr_ord, ⟨trivial, trivial⟩⟩⟩⟩⟩, co_SEALS⟩, trivial⟩
theorem fg_seal_in {fd : FuncData} (F : FunD K "seal_in" "seal_in" (defArgs s_seal_in) (defBody s_seal_in) (defScope s_seal_in) [] [] (He.ga K "seal_in") fd) (co_SEALS : ConOk K mg "SEALS" (.int (999983))) (fr_enumerate : mg "enumerate" = none) (fr_ord : mg "ord" = none) (fr_sum : mg "sum" = none) : ∀ base : Heap, K.In base → base.Ns mainGlobals mg → FnG P w K mg base 1 (He.ga K "seal_in") fd p_seal_in (liftSp K p_seal_in.length sp_seal_in) := fng_core c_seal_in F sc_seal_in ck_seal_in (ok_seal_in co_SEALS fr_enumerate fr_ord fr_sum) fun ds M Q _ hs => pl_seal_in ds M Q hs
theorem bi_seal_in {fd : FuncData} (F : FunD K "seal_in" "seal_in" (defArgs s_seal_in) (defBody s_seal_in) (defScope s_seal_in) [] [] (He.ga K "seal_in") fd) : Binds K fd p_seal_in [] := F.bindsN fun _ _ _ _ _ _ us hl => match us, hl with
  | [_], _ => rfl
theorem cg_seal_in (hm : mg "seal_in" = some (.ref (He.ga K "seal_in"))) {fd : FuncData} (F : FunD K "seal_in" "seal_in" (defArgs s_seal_in) (defBody s_seal_in) (defScope s_seal_in) [] [] (He.ga K "seal_in") fd) (co_SEALS : ConOk K mg "SEALS" (.int (999983))) (fr_enumerate : mg "enumerate" = none) (fr_ord : mg "ord" = none) (fr_sum : mg "sum" = none) : CallG P w K mg 1 "seal_in" p_seal_in.length sp_seal_in := ⟨_, fd, p_seal_in, rfl, fg_seal_in F co_SEALS fr_enumerate fr_ord fr_sum, hm, F.kp, bi_seal_in F⟩
theorem ok_text_of : okB (tb P w K mg 0) c_text_of := ⟨⟨⟨trivial, trivial⟩, ⟨trivial, trivial⟩⟩, trivial⟩
theorem fg_text_of {fd : FuncData} (F : FunD K "text_of" "text_of" (defArgs s_text_of) (defBody s_text_of) (defScope s_text_of) [] [] (He.ga K "text_of") fd) : ∀ base : Heap, K.In base → base.Ns mainGlobals mg → FnG P w K mg base 1 (He.ga K "text_of") fd p_text_of (liftSp K p_text_of.length sp_text_of) := fng_core c_text_of F sc_text_of ck_text_of (ok_text_of ) fun ds M Q _ hs => pl_text_of ds M Q hs
theorem bi_text_of {fd : FuncData} (F : FunD K "text_of" "text_of" (defArgs s_text_of) (defBody s_text_of) (defScope s_text_of) [] [] (He.ga K "text_of") fd) : Binds K fd p_text_of [] := F.bindsN fun _ _ _ _ _ _ us hl => match us, hl with
  | [_], _ => rfl
theorem cg_text_of (hm : mg "text_of" = some (.ref (He.ga K "text_of"))) {fd : FuncData} (F : FunD K "text_of" "text_of" (defArgs s_text_of) (defBody s_text_of) (defScope s_text_of) [] [] (He.ga K "text_of") fd) : CallG P w K mg 1 "text_of" p_text_of.length sp_text_of := ⟨_, fd, p_text_of, rfl, fg_text_of F , hm, F.kp, bi_text_of F⟩
theorem ok__law_seal (fr_int : mg "int" = none) (fr_len : mg "len" = none) (fr_ord : mg "ord" = none) (fr_range : mg "range" = none) : okB (tb P w K mg 0) c__law_seal := ⟨⟨trivial, trivial⟩, ⟨⟨trivial, ⟨fr_range, ⟨fr_len, ⟨trivial, trivial⟩⟩⟩, ⟨⟨trivial, ⟨trivial, ⟨⟨trivial, trivial⟩, ⟨fr_ord, ⟨⟨trivial, trivial⟩, trivial⟩⟩⟩⟩⟩, trivial⟩⟩, ⟨⟨⟨fr_int, ⟨trivial, trivial⟩⟩, trivial⟩, trivial⟩⟩⟩
theorem fg__law_seal {fd : FuncData} (F : FunD K "_law_seal" "_law_seal" (defArgs s__law_seal) (defBody s__law_seal) (defScope s__law_seal) [] [] (He.ga K "_law_seal") fd) (fr_int : mg "int" = none) (fr_len : mg "len" = none) (fr_ord : mg "ord" = none) (fr_range : mg "range" = none) : ∀ base : Heap, K.In base → base.Ns mainGlobals mg → FnG P w K mg base 1 (He.ga K "_law_seal") fd p__law_seal (liftSp K p__law_seal.length sp__law_seal) := fng_core c__law_seal F sc__law_seal ck__law_seal (ok__law_seal fr_int fr_len fr_ord fr_range) fun ds M Q _ hs => pl__law_seal ds M Q hs
theorem bi__law_seal {fd : FuncData} (F : FunD K "_law_seal" "_law_seal" (defArgs s__law_seal) (defBody s__law_seal) (defScope s__law_seal) [] [] (He.ga K "_law_seal") fd) : Binds K fd p__law_seal [] := F.bindsN fun _ _ _ _ _ _ us hl => match us, hl with
  | [_], _ => rfl
theorem cg__law_seal (hm : mg "_law_seal" = some (.ref (He.ga K "_law_seal"))) {fd : FuncData} (F : FunD K "_law_seal" "_law_seal" (defArgs s__law_seal) (defBody s__law_seal) (defScope s__law_seal) [] [] (He.ga K "_law_seal") fd) (fr_int : mg "int" = none) (fr_len : mg "len" = none) (fr_ord : mg "ord" = none) (fr_range : mg "range" = none) : CallG P w K mg 1 "_law_seal" p__law_seal.length sp__law_seal := ⟨_, fd, p__law_seal, rfl, fg__law_seal F fr_int fr_len fr_ord fr_range, hm, F.kp, bi__law_seal F⟩
theorem ok__law_line (fr_len : mg "len" = none) (fr_str : mg "str" = none) : okB (tb P w K mg 0) c__law_line := ⟨⟨⟨trivial, ⟨trivial, ⟨trivial, trivial⟩⟩⟩, trivial⟩, ⟨⟨trivial, ⟨⟨fr_str, ⟨trivial, trivial⟩⟩, ⟨⟨trivial, trivial⟩, ⟨⟨⟨trivial, trivial⟩, ⟨trivial, trivial⟩⟩, trivial⟩⟩⟩⟩, ⟨⟨⟨⟨trivial, trivial⟩, trivial⟩, ⟨⟨trivial, ⟨⟨trivial, ⟨⟨fr_str, ⟨⟨trivial, trivial⟩, trivial⟩⟩, trivial⟩⟩, ⟨⟨trivial, trivial⟩, trivial, trivial, ⟨⟨trivial, trivial⟩, ⟨trivial, trivial⟩⟩⟩⟩⟩, trivial⟩, ⟨⟨⟨⟨fr_len, ⟨trivial, trivial⟩⟩, trivial⟩, ⟨⟨trivial, ⟨⟨⟨⟨trivial, trivial⟩, trivial⟩, ⟨⟨trivial, trivial⟩, trivial⟩⟩, trivial⟩⟩, trivial⟩, trivial⟩, trivial⟩⟩, ⟨⟨trivial, ⟨trivial, trivial⟩⟩, trivial⟩⟩⟩⟩
theorem fg__law_line {fd : FuncData} (F : FunD K "_law_line" "_law_line" (defArgs s__law_line) (defBody s__law_line) (defScope s__law_line) [] [] (He.ga K "_law_line") fd) (fr_len : mg "len" = none) (fr_str : mg "str" = none) : ∀ base : Heap, K.In base → base.Ns mainGlobals mg → FnG P w K mg base 1 (He.ga K "_law_line") fd p__law_line (liftSp K p__law_line.length sp__law_line) := fng_core c__law_line F sc__law_line ck__law_line (ok__law_line fr_len fr_str) fun ds M Q _ hs => pl__law_line ds M Q hs
theorem bi__law_line {fd : FuncData} (F : FunD K "_law_line" "_law_line" (defArgs s__law_line) (defBody s__law_line) (defScope s__law_line) [] [] (He.ga K "_law_line") fd) : Binds K fd p__law_line [] := F.bindsN fun _ _ _ _ _ _ us hl => match us, hl with
  | [_], _ => rfl
theorem cg__law_line (hm : mg "_law_line" = some (.ref (He.ga K "_law_line"))) {fd : FuncData} (F : FunD K "_law_line" "_law_line" (defArgs s__law_line) (defBody s__law_line) (defScope s__law_line) [] [] (He.ga K "_law_line") fd) (fr_len : mg "len" = none) (fr_str : mg "str" = none) : CallG P w K mg 1 "_law_line" p__law_line.length sp__law_line := ⟨_, fd, p__law_line, rfl, fg__law_line F fr_len fr_str, hm, F.kp, bi__law_line F⟩
theorem ok__law_take (fr_divmod : mg "divmod" = none) (fr_int : mg "int" = none) : okB (tb P w K mg 0) c__law_take := ⟨⟨⟨⟨trivial, trivial⟩, trivial⟩, ⟨⟨⟨⟨trivial, trivial⟩, ⟨trivial, trivial⟩⟩, ⟨fr_divmod, ⟨⟨trivial, trivial⟩, ⟨trivial, trivial⟩⟩⟩⟩, ⟨trivial, trivial⟩⟩, trivial⟩, ⟨⟨⟨trivial, trivial⟩, ⟨⟨trivial, trivial⟩, trivial⟩⟩, ⟨⟨⟨trivial, trivial⟩, ⟨⟨fr_int, ⟨⟨⟨⟨⟨trivial, trivial⟩, ⟨trivial, ⟨trivial, ⟨trivial, trivial⟩⟩⟩⟩, ⟨trivial, ⟨trivial, trivial⟩⟩⟩, trivial⟩, trivial⟩⟩, trivial⟩⟩, ⟨⟨⟨fr_int, ⟨⟨⟨trivial, trivial⟩, trivial⟩, trivial⟩⟩, trivial⟩, trivial⟩⟩⟩⟩
theorem fg__law_take {fd : FuncData} (F : FunD K "_law_take" "_law_take" (defArgs s__law_take) (defBody s__law_take) (defScope s__law_take) [] [] (He.ga K "_law_take") fd) (fr_divmod : mg "divmod" = none) (fr_int : mg "int" = none) : ∀ base : Heap, K.In base → base.Ns mainGlobals mg → FnG P w K mg base 1 (He.ga K "_law_take") fd p__law_take (liftSp K p__law_take.length sp__law_take) := fng_core c__law_take F sc__law_take ck__law_take (ok__law_take fr_divmod fr_int) fun ds M Q _ hs => pl__law_take ds M Q hs
theorem bi__law_take {fd : FuncData} (F : FunD K "_law_take" "_law_take" (defArgs s__law_take) (defBody s__law_take) (defScope s__law_take) [] [] (He.ga K "_law_take") fd) : Binds K fd p__law_take [] := F.bindsN fun _ _ _ _ _ _ us hl => match us, hl with
  | [_, _], _ => rfl
theorem cg__law_take (hm : mg "_law_take" = some (.ref (He.ga K "_law_take"))) {fd : FuncData} (F : FunD K "_law_take" "_law_take" (defArgs s__law_take) (defBody s__law_take) (defScope s__law_take) [] [] (He.ga K "_law_take") fd) (fr_divmod : mg "divmod" = none) (fr_int : mg "int" = none) : CallG P w K mg 1 "_law_take" p__law_take.length sp__law_take := ⟨_, fd, p__law_take, rfl, fg__law_take F fr_divmod fr_int, hm, F.kp, bi__law_take F⟩
theorem ok_is_path (co_SIGNS : ConOk K mg "SIGNS" (.str "-./0123456789_abcdefghijklmnopqrstuvwxyz")) (fr_all : mg "all" = none) (fr_isinstance : mg "isinstance" = none) (fr_str : mg "str" = none) : okB (tb P w K mg 0) c_is_path := ⟨⟨⟨⟨fr_isinstance, fr_str, trivial⟩, ⟨⟨trivial, trivial, trivial⟩, trivial⟩⟩, ⟨trivial, trivial⟩, trivial⟩, ⟨⟨fr_all, ⟨trivial, trivial, trivial, ⟨trivial, co_SIGNS⟩⟩⟩, trivial⟩⟩
theorem fg_is_path {fd : FuncData} (F : FunD K "is_path" "is_path" (defArgs s_is_path) (defBody s_is_path) (defScope s_is_path) [] [] (He.ga K "is_path") fd) (co_SIGNS : ConOk K mg "SIGNS" (.str "-./0123456789_abcdefghijklmnopqrstuvwxyz")) (fr_all : mg "all" = none) (fr_isinstance : mg "isinstance" = none) (fr_str : mg "str" = none) : ∀ base : Heap, K.In base → base.Ns mainGlobals mg → FnG P w K mg base 1 (He.ga K "is_path") fd p_is_path (liftSp K p_is_path.length sp_is_path) := fng_core c_is_path F sc_is_path ck_is_path (ok_is_path co_SIGNS fr_all fr_isinstance fr_str) fun ds M Q _ hs => pl_is_path ds M Q hs
theorem bi_is_path {fd : FuncData} (F : FunD K "is_path" "is_path" (defArgs s_is_path) (defBody s_is_path) (defScope s_is_path) [] [] (He.ga K "is_path") fd) : Binds K fd p_is_path [] := F.bindsN fun _ _ _ _ _ _ us hl => match us, hl with
  | [_], _ => rfl
theorem cg_is_path (hm : mg "is_path" = some (.ref (He.ga K "is_path"))) {fd : FuncData} (F : FunD K "is_path" "is_path" (defArgs s_is_path) (defBody s_is_path) (defScope s_is_path) [] [] (He.ga K "is_path") fd) (co_SIGNS : ConOk K mg "SIGNS" (.str "-./0123456789_abcdefghijklmnopqrstuvwxyz")) (fr_all : mg "all" = none) (fr_isinstance : mg "isinstance" = none) (fr_str : mg "str" = none) : CallG P w K mg 1 "is_path" p_is_path.length sp_is_path := ⟨_, fd, p_is_path, rfl, fg_is_path F co_SIGNS fr_all fr_isinstance fr_str, hm, F.kp, bi_is_path F⟩
theorem ok_is_name (co_LETTERS : ConOk K mg "LETTERS" (.str "abcdefghijklmnopqrstuvwxyz")) (co_MOST_LETTERS : ConOk K mg "MOST_LETTERS" (.int (12))) (fr_all : mg "all" = none) (fr_isinstance : mg "isinstance" = none) (fr_len : mg "len" = none) (fr_str : mg "str" = none) : okB (tb P w K mg 0) c_is_name := ⟨⟨⟨⟨fr_isinstance, fr_str, trivial⟩, ⟨trivial, ⟨fr_len, ⟨trivial, trivial⟩⟩, co_MOST_LETTERS⟩⟩, ⟨trivial, trivial⟩, trivial⟩, ⟨⟨fr_all, ⟨trivial, trivial, trivial, ⟨trivial, co_LETTERS⟩⟩⟩, trivial⟩⟩
theorem fg_is_name {fd : FuncData} (F : FunD K "is_name" "is_name" (defArgs s_is_name) (defBody s_is_name) (defScope s_is_name) [] [] (He.ga K "is_name") fd) (co_LETTERS : ConOk K mg "LETTERS" (.str "abcdefghijklmnopqrstuvwxyz")) (co_MOST_LETTERS : ConOk K mg "MOST_LETTERS" (.int (12))) (fr_all : mg "all" = none) (fr_isinstance : mg "isinstance" = none) (fr_len : mg "len" = none) (fr_str : mg "str" = none) : ∀ base : Heap, K.In base → base.Ns mainGlobals mg → FnG P w K mg base 1 (He.ga K "is_name") fd p_is_name (liftSp K p_is_name.length sp_is_name) := fng_core c_is_name F sc_is_name ck_is_name (ok_is_name co_LETTERS co_MOST_LETTERS fr_all fr_isinstance fr_len fr_str) fun ds M Q _ hs => pl_is_name ds M Q hs
theorem bi_is_name {fd : FuncData} (F : FunD K "is_name" "is_name" (defArgs s_is_name) (defBody s_is_name) (defScope s_is_name) [] [] (He.ga K "is_name") fd) : Binds K fd p_is_name [] := F.bindsN fun _ _ _ _ _ _ us hl => match us, hl with
  | [_], _ => rfl
theorem cg_is_name (hm : mg "is_name" = some (.ref (He.ga K "is_name"))) {fd : FuncData} (F : FunD K "is_name" "is_name" (defArgs s_is_name) (defBody s_is_name) (defScope s_is_name) [] [] (He.ga K "is_name") fd) (co_LETTERS : ConOk K mg "LETTERS" (.str "abcdefghijklmnopqrstuvwxyz")) (co_MOST_LETTERS : ConOk K mg "MOST_LETTERS" (.int (12))) (fr_all : mg "all" = none) (fr_isinstance : mg "isinstance" = none) (fr_len : mg "len" = none) (fr_str : mg "str" = none) : CallG P w K mg 1 "is_name" p_is_name.length sp_is_name := ⟨_, fd, p_is_name, rfl, fg_is_name F co_LETTERS co_MOST_LETTERS fr_all fr_isinstance fr_len fr_str, hm, F.kp, bi_is_name F⟩
theorem ok_is_tuple_up_to (fr_isinstance : mg "isinstance" = none) (fr_len : mg "len" = none) (fr_tuple : mg "tuple" = none) : okB (tb P w K mg 0) c_is_tuple_up_to := ⟨⟨⟨fr_isinstance, fr_tuple, trivial⟩, ⟨trivial, ⟨fr_len, ⟨trivial, trivial⟩⟩, trivial⟩⟩, trivial⟩
theorem fg_is_tuple_up_to {fd : FuncData} (F : FunD K "is_tuple_up_to" "is_tuple_up_to" (defArgs s_is_tuple_up_to) (defBody s_is_tuple_up_to) (defScope s_is_tuple_up_to) [] [] (He.ga K "is_tuple_up_to") fd) (fr_isinstance : mg "isinstance" = none) (fr_len : mg "len" = none) (fr_tuple : mg "tuple" = none) : ∀ base : Heap, K.In base → base.Ns mainGlobals mg → FnG P w K mg base 1 (He.ga K "is_tuple_up_to") fd p_is_tuple_up_to (liftSp K p_is_tuple_up_to.length sp_is_tuple_up_to) := fng_core c_is_tuple_up_to F sc_is_tuple_up_to ck_is_tuple_up_to (ok_is_tuple_up_to fr_isinstance fr_len fr_tuple) fun ds M Q _ hs => pl_is_tuple_up_to ds M Q hs
theorem bi_is_tuple_up_to {fd : FuncData} (F : FunD K "is_tuple_up_to" "is_tuple_up_to" (defArgs s_is_tuple_up_to) (defBody s_is_tuple_up_to) (defScope s_is_tuple_up_to) [] [] (He.ga K "is_tuple_up_to") fd) : Binds K fd p_is_tuple_up_to [] := F.bindsN fun _ _ _ _ _ _ us hl => match us, hl with
  | [_, _, _], _ => rfl
theorem cg_is_tuple_up_to (hm : mg "is_tuple_up_to" = some (.ref (He.ga K "is_tuple_up_to"))) {fd : FuncData} (F : FunD K "is_tuple_up_to" "is_tuple_up_to" (defArgs s_is_tuple_up_to) (defBody s_is_tuple_up_to) (defScope s_is_tuple_up_to) [] [] (He.ga K "is_tuple_up_to") fd) (fr_isinstance : mg "isinstance" = none) (fr_len : mg "len" = none) (fr_tuple : mg "tuple" = none) : CallG P w K mg 1 "is_tuple_up_to" p_is_tuple_up_to.length sp_is_tuple_up_to := ⟨_, fd, p_is_tuple_up_to, rfl, fg_is_tuple_up_to F fr_isinstance fr_len fr_tuple, hm, F.kp, bi_is_tuple_up_to F⟩
theorem ok_is_whole (fr_bool : mg "bool" = none) (fr_int : mg "int" = none) (fr_isinstance : mg "isinstance" = none) : okB (tb P w K mg 0) c_is_whole := ⟨⟨⟨fr_isinstance, fr_int, trivial⟩, ⟨fr_isinstance, fr_bool, trivial⟩⟩, trivial⟩
theorem fg_is_whole {fd : FuncData} (F : FunD K "is_whole" "is_whole" (defArgs s_is_whole) (defBody s_is_whole) (defScope s_is_whole) [] [] (He.ga K "is_whole") fd) (fr_bool : mg "bool" = none) (fr_int : mg "int" = none) (fr_isinstance : mg "isinstance" = none) : ∀ base : Heap, K.In base → base.Ns mainGlobals mg → FnG P w K mg base 1 (He.ga K "is_whole") fd p_is_whole (liftSp K p_is_whole.length sp_is_whole) := fng_core c_is_whole F sc_is_whole ck_is_whole (ok_is_whole fr_bool fr_int fr_isinstance) fun ds M Q _ hs => pl_is_whole ds M Q hs
theorem bi_is_whole {fd : FuncData} (F : FunD K "is_whole" "is_whole" (defArgs s_is_whole) (defBody s_is_whole) (defScope s_is_whole) [] [] (He.ga K "is_whole") fd) : Binds K fd p_is_whole [] := F.bindsN fun _ _ _ _ _ _ us hl => match us, hl with
  | [_], _ => rfl
theorem cg_is_whole (hm : mg "is_whole" = some (.ref (He.ga K "is_whole"))) {fd : FuncData} (F : FunD K "is_whole" "is_whole" (defArgs s_is_whole) (defBody s_is_whole) (defScope s_is_whole) [] [] (He.ga K "is_whole") fd) (fr_bool : mg "bool" = none) (fr_int : mg "int" = none) (fr_isinstance : mg "isinstance" = none) : CallG P w K mg 1 "is_whole" p_is_whole.length sp_is_whole := ⟨_, fd, p_is_whole, rfl, fg_is_whole F fr_bool fr_int fr_isinstance, hm, F.kp, bi_is_whole F⟩
theorem ok_is_numeral (co_DIGITS : ConOk K mg "DIGITS" (.str "0123456789")) (co_MOST_DIGITS : ConOk K mg "MOST_DIGITS" (.int (12))) (fr_all : mg "all" = none) (fr_len : mg "len" = none) : okB (tb P w K mg 0) c_is_numeral := ⟨⟨⟨⟨trivial, ⟨fr_len, ⟨trivial, trivial⟩⟩, co_MOST_DIGITS⟩, ⟨fr_all, ⟨trivial, trivial, trivial, ⟨trivial, co_DIGITS⟩⟩⟩⟩, ⟨trivial, trivial⟩, trivial⟩, ⟨⟨⟨⟨fr_len, ⟨trivial, trivial⟩⟩, trivial⟩, ⟨⟨trivial, trivial⟩, trivial⟩⟩, trivial⟩⟩
theorem fg_is_numeral {fd : FuncData} (F : FunD K "is_numeral" "is_numeral" (defArgs s_is_numeral) (defBody s_is_numeral) (defScope s_is_numeral) [] [] (He.ga K "is_numeral") fd) (co_DIGITS : ConOk K mg "DIGITS" (.str "0123456789")) (co_MOST_DIGITS : ConOk K mg "MOST_DIGITS" (.int (12))) (fr_all : mg "all" = none) (fr_len : mg "len" = none) : ∀ base : Heap, K.In base → base.Ns mainGlobals mg → FnG P w K mg base 1 (He.ga K "is_numeral") fd p_is_numeral (liftSp K p_is_numeral.length sp_is_numeral) := fng_core c_is_numeral F sc_is_numeral ck_is_numeral (ok_is_numeral co_DIGITS co_MOST_DIGITS fr_all fr_len) fun ds M Q _ hs => pl_is_numeral ds M Q hs
theorem bi_is_numeral {fd : FuncData} (F : FunD K "is_numeral" "is_numeral" (defArgs s_is_numeral) (defBody s_is_numeral) (defScope s_is_numeral) [] [] (He.ga K "is_numeral") fd) : Binds K fd p_is_numeral [] := F.bindsN fun _ _ _ _ _ _ us hl => match us, hl with
  | [_], _ => rfl
theorem cg_is_numeral (hm : mg "is_numeral" = some (.ref (He.ga K "is_numeral"))) {fd : FuncData} (F : FunD K "is_numeral" "is_numeral" (defArgs s_is_numeral) (defBody s_is_numeral) (defScope s_is_numeral) [] [] (He.ga K "is_numeral") fd) (co_DIGITS : ConOk K mg "DIGITS" (.str "0123456789")) (co_MOST_DIGITS : ConOk K mg "MOST_DIGITS" (.int (12))) (fr_all : mg "all" = none) (fr_len : mg "len" = none) : CallG P w K mg 1 "is_numeral" p_is_numeral.length sp_is_numeral := ⟨_, fd, p_is_numeral, rfl, fg_is_numeral F co_DIGITS co_MOST_DIGITS fr_all fr_len, hm, F.kp, bi_is_numeral F⟩
theorem ok__law_well (fr_abs : mg "abs" = none) (fr_int : mg "int" = none) (fr_len : mg "len" = none) : okB (tb P w K mg 0) c__law_well := ⟨⟨trivial, ⟨trivial, ⟨trivial, trivial⟩⟩⟩, ⟨⟨trivial, ⟨trivial, trivial, trivial⟩, ⟨⟨trivial, ⟨⟨fr_int, ⟨⟨⟨⟨trivial, trivial⟩, ⟨⟨⟨fr_int, ⟨trivial, trivial⟩⟩, trivial⟩, trivial⟩⟩, trivial⟩, trivial⟩⟩, trivial⟩⟩, trivial⟩⟩, ⟨⟨trivial, ⟨⟨trivial, ⟨fr_len, ⟨trivial, trivial⟩⟩⟩, ⟨fr_abs, ⟨⟨fr_int, ⟨⟨trivial, trivial⟩, trivial⟩⟩, trivial⟩⟩, trivial⟩⟩, ⟨⟨⟨⟨trivial, ⟨trivial, trivial⟩⟩, trivial, trivial⟩, ⟨⟨⟨fr_int, ⟨⟨⟨⟨trivial, trivial⟩, ⟨⟨⟨fr_int, ⟨trivial, trivial⟩⟩, trivial⟩, trivial⟩⟩, trivial⟩, trivial⟩⟩, trivial⟩, ⟨trivial, trivial⟩⟩⟩, trivial⟩⟩⟩⟩
theorem fg__law_well {fd : FuncData} (F : FunD K "_law_well" "_law_well" (defArgs s__law_well) (defBody s__law_well) (defScope s__law_well) [] [] (He.ga K "_law_well") fd) (fr_abs : mg "abs" = none) (fr_int : mg "int" = none) (fr_len : mg "len" = none) : ∀ base : Heap, K.In base → base.Ns mainGlobals mg → FnG P w K mg base 1 (He.ga K "_law_well") fd p__law_well (liftSp K p__law_well.length sp__law_well) := fng_core c__law_well F sc__law_well ck__law_well (ok__law_well fr_abs fr_int fr_len) fun ds M Q _ hs => pl__law_well ds M Q hs
theorem bi__law_well {fd : FuncData} (F : FunD K "_law_well" "_law_well" (defArgs s__law_well) (defBody s__law_well) (defScope s__law_well) [] [] (He.ga K "_law_well") fd) : Binds K fd p__law_well [] := F.bindsN fun _ _ _ _ _ _ us hl => match us, hl with
  | [_, _], _ => rfl
theorem cg__law_well (hm : mg "_law_well" = some (.ref (He.ga K "_law_well"))) {fd : FuncData} (F : FunD K "_law_well" "_law_well" (defArgs s__law_well) (defBody s__law_well) (defScope s__law_well) [] [] (He.ga K "_law_well") fd) (fr_abs : mg "abs" = none) (fr_int : mg "int" = none) (fr_len : mg "len" = none) : CallG P w K mg 1 "_law_well" p__law_well.length sp__law_well := ⟨_, fd, p__law_well, rfl, fg__law_well F fr_abs fr_int fr_len, hm, F.kp, bi__law_well F⟩
theorem ok_words_behind (h_text_of : CallG P w K mg 1 "text_of" p_text_of.length sp_text_of) (fr_str : mg "str" = none) : okB (tb P w K mg 1) c_words_behind := ⟨⟨⟨⟨trivial, trivial⟩, trivial⟩, ⟨⟨⟨⟨fr_str, ⟨⟨trivial, trivial⟩, trivial⟩⟩, trivial⟩, ⟨⟨trivial, trivial⟩, trivial, trivial, ⟨h_text_of, ⟨trivial, trivial⟩⟩⟩⟩, trivial⟩, trivial⟩, ⟨⟨⟨⟨trivial, trivial⟩, ⟨trivial, ⟨trivial, trivial⟩⟩⟩, ⟨⟨h_text_of, ⟨⟨trivial, trivial⟩, trivial⟩⟩, trivial⟩, trivial⟩, trivial⟩⟩
theorem fg_words_behind {fd : FuncData} (F : FunD K "words_behind" "words_behind" (defArgs s_words_behind) (defBody s_words_behind) (defScope s_words_behind) [] [] (He.ga K "words_behind") fd) (h_text_of : CallG P w K mg 1 "text_of" p_text_of.length sp_text_of) (fr_str : mg "str" = none) : ∀ base : Heap, K.In base → base.Ns mainGlobals mg → FnG P w K mg base 2 (He.ga K "words_behind") fd p_words_behind (liftSp K p_words_behind.length sp_words_behind) := fng_core c_words_behind F sc_words_behind ck_words_behind (ok_words_behind h_text_of fr_str) fun ds M Q _ hs => pl_words_behind ds M Q hs
theorem bi_words_behind {fd : FuncData} (F : FunD K "words_behind" "words_behind" (defArgs s_words_behind) (defBody s_words_behind) (defScope s_words_behind) [] [] (He.ga K "words_behind") fd) : Binds K fd p_words_behind [] := F.bindsN fun _ _ _ _ _ _ us hl => match us, hl with
  | [_], _ => rfl
theorem cg_words_behind (hm : mg "words_behind" = some (.ref (He.ga K "words_behind"))) {fd : FuncData} (F : FunD K "words_behind" "words_behind" (defArgs s_words_behind) (defBody s_words_behind) (defScope s_words_behind) [] [] (He.ga K "words_behind") fd) (h_text_of : CallG P w K mg 1 "text_of" p_text_of.length sp_text_of) (fr_str : mg "str" = none) : CallG P w K mg 2 "words_behind" p_words_behind.length sp_words_behind := ⟨_, fd, p_words_behind, rfl, fg_words_behind F h_text_of fr_str, hm, F.kp, bi_words_behind F⟩
theorem ok__law_sealed (h__law_line : CallG P w K mg 1 "_law_line" p__law_line.length sp__law_line) (h__law_seal : CallG P w K mg 1 "_law_seal" p__law_seal.length sp__law_seal) (fr_str : mg "str" = none) : okB (tb P w K mg 1) c__law_sealed := ⟨⟨trivial, ⟨⟨⟨fr_str, ⟨trivial, trivial⟩⟩, trivial⟩, ⟨h__law_line, ⟨trivial, trivial⟩⟩⟩⟩, ⟨⟨⟨⟨trivial, trivial⟩, ⟨fr_str, ⟨⟨h__law_seal, ⟨trivial, trivial⟩⟩, trivial⟩⟩⟩, trivial⟩, trivial⟩⟩
theorem fg__law_sealed {fd : FuncData} (F : FunD K "_law_sealed" "_law_sealed" (defArgs s__law_sealed) (defBody s__law_sealed) (defScope s__law_sealed) [] [] (He.ga K "_law_sealed") fd) (h__law_line : CallG P w K mg 1 "_law_line" p__law_line.length sp__law_line) (h__law_seal : CallG P w K mg 1 "_law_seal" p__law_seal.length sp__law_seal) (fr_str : mg "str" = none) : ∀ base : Heap, K.In base → base.Ns mainGlobals mg → FnG P w K mg base 2 (He.ga K "_law_sealed") fd p__law_sealed (liftSp K p__law_sealed.length sp__law_sealed) := fng_core c__law_sealed F sc__law_sealed ck__law_sealed (ok__law_sealed h__law_line h__law_seal fr_str) fun ds M Q _ hs => pl__law_sealed ds M Q hs
theorem bi__law_sealed {fd : FuncData} (F : FunD K "_law_sealed" "_law_sealed" (defArgs s__law_sealed) (defBody s__law_sealed) (defScope s__law_sealed) [] [] (He.ga K "_law_sealed") fd) : Binds K fd p__law_sealed [] := F.bindsN fun _ _ _ _ _ _ us hl => match us, hl with
  | [_, _], _ => rfl
theorem cg__law_sealed (hm : mg "_law_sealed" = some (.ref (He.ga K "_law_sealed"))) {fd : FuncData} (F : FunD K "_law_sealed" "_law_sealed" (defArgs s__law_sealed) (defBody s__law_sealed) (defScope s__law_sealed) [] [] (He.ga K "_law_sealed") fd) (h__law_line : CallG P w K mg 1 "_law_line" p__law_line.length sp__law_line) (h__law_seal : CallG P w K mg 1 "_law_seal" p__law_seal.length sp__law_seal) (fr_str : mg "str" = none) : CallG P w K mg 2 "_law_sealed" p__law_sealed.length sp__law_sealed := ⟨_, fd, p__law_sealed, rfl, fg__law_sealed F h__law_line h__law_seal fr_str, hm, F.kp, bi__law_sealed F⟩
theorem ok_seal_of (h_seal_in : CallG P w K mg 1 "seal_in" p_seal_in.length sp_seal_in) (fr_isinstance : mg "isinstance" = none) (fr_str : mg "str" = none) : okB (tb P w K mg 1) c_seal_of := ⟨⟨⟨fr_isinstance, fr_str, trivial⟩, ⟨trivial, trivial⟩, trivial⟩, ⟨⟨h_seal_in, ⟨trivial, trivial⟩⟩, trivial⟩⟩
theorem fg_seal_of {fd : FuncData} (F : FunD K "seal_of" "seal_of" (defArgs s_seal_of) (defBody s_seal_of) (defScope s_seal_of) [] [] (He.ga K "seal_of") fd) (h_seal_in : CallG P w K mg 1 "seal_in" p_seal_in.length sp_seal_in) (fr_isinstance : mg "isinstance" = none) (fr_str : mg "str" = none) : ∀ base : Heap, K.In base → base.Ns mainGlobals mg → FnG P w K mg base 2 (He.ga K "seal_of") fd p_seal_of (liftSp K p_seal_of.length sp_seal_of) := fng_core c_seal_of F sc_seal_of ck_seal_of (ok_seal_of h_seal_in fr_isinstance fr_str) fun ds M Q _ hs => pl_seal_of ds M Q hs
theorem bi_seal_of {fd : FuncData} (F : FunD K "seal_of" "seal_of" (defArgs s_seal_of) (defBody s_seal_of) (defScope s_seal_of) [] [] (He.ga K "seal_of") fd) : Binds K fd p_seal_of [] := F.bindsN fun _ _ _ _ _ _ us hl => match us, hl with
  | [_], _ => rfl
theorem cg_seal_of (hm : mg "seal_of" = some (.ref (He.ga K "seal_of"))) {fd : FuncData} (F : FunD K "seal_of" "seal_of" (defArgs s_seal_of) (defBody s_seal_of) (defScope s_seal_of) [] [] (He.ga K "seal_of") fd) (h_seal_in : CallG P w K mg 1 "seal_in" p_seal_in.length sp_seal_in) (fr_isinstance : mg "isinstance" = none) (fr_str : mg "str" = none) : CallG P w K mg 2 "seal_of" p_seal_of.length sp_seal_of := ⟨_, fd, p_seal_of, rfl, fg_seal_of F h_seal_in fr_isinstance fr_str, hm, F.kp, bi_seal_of F⟩
theorem kg_seal_of_text (hm : mg "seal_of" = some (.ref (He.ga K "seal_of"))) {fd : FuncData} (F : FunD K "seal_of" "seal_of" (defArgs s_seal_of) (defBody s_seal_of) (defScope s_seal_of) [] [] (He.ga K "seal_of") fd) (h_seal_in : CallG P w K mg 1 "seal_in" p_seal_in.length sp_seal_in) (fr_isinstance : mg "isinstance" = none) (fr_str : mg "str" = none) : KwG P w K mg 2 "seal_of" 0 p_seal_of kw_seal_of_text := kw_of F hm (fg_seal_of F h_seal_in fr_isinstance fr_str) fun _ _ _ _ _ _ ws hl => match ws, hl with
  | [_], _ => rfl
theorem ok_is_short_path (h_is_path : CallG P w K mg 1 "is_path" p_is_path.length sp_is_path) (co_MOST_SIGNS : ConOk K mg "MOST_SIGNS" (.int (40))) (fr_len : mg "len" = none) : okB (tb P w K mg 1) c_is_short_path := ⟨⟨⟨h_is_path, ⟨trivial, trivial⟩⟩, ⟨⟨fr_len, ⟨trivial, trivial⟩⟩, co_MOST_SIGNS⟩⟩, trivial⟩
theorem fg_is_short_path {fd : FuncData} (F : FunD K "is_short_path" "is_short_path" (defArgs s_is_short_path) (defBody s_is_short_path) (defScope s_is_short_path) [] [] (He.ga K "is_short_path") fd) (h_is_path : CallG P w K mg 1 "is_path" p_is_path.length sp_is_path) (co_MOST_SIGNS : ConOk K mg "MOST_SIGNS" (.int (40))) (fr_len : mg "len" = none) : ∀ base : Heap, K.In base → base.Ns mainGlobals mg → FnG P w K mg base 2 (He.ga K "is_short_path") fd p_is_short_path (liftSp K p_is_short_path.length sp_is_short_path) := fng_core c_is_short_path F sc_is_short_path ck_is_short_path (ok_is_short_path h_is_path co_MOST_SIGNS fr_len) fun ds M Q _ hs => pl_is_short_path ds M Q hs
theorem bi_is_short_path {fd : FuncData} (F : FunD K "is_short_path" "is_short_path" (defArgs s_is_short_path) (defBody s_is_short_path) (defScope s_is_short_path) [] [] (He.ga K "is_short_path") fd) : Binds K fd p_is_short_path [] := F.bindsN fun _ _ _ _ _ _ us hl => match us, hl with
  | [_], _ => rfl
theorem cg_is_short_path (hm : mg "is_short_path" = some (.ref (He.ga K "is_short_path"))) {fd : FuncData} (F : FunD K "is_short_path" "is_short_path" (defArgs s_is_short_path) (defBody s_is_short_path) (defScope s_is_short_path) [] [] (He.ga K "is_short_path") fd) (h_is_path : CallG P w K mg 1 "is_path" p_is_path.length sp_is_path) (co_MOST_SIGNS : ConOk K mg "MOST_SIGNS" (.int (40))) (fr_len : mg "len" = none) : CallG P w K mg 2 "is_short_path" p_is_short_path.length sp_is_short_path := ⟨_, fd, p_is_short_path, rfl, fg_is_short_path F h_is_path co_MOST_SIGNS fr_len, hm, F.kp, bi_is_short_path F⟩
theorem ok_is_between (h_is_whole : CallG P w K mg 1 "is_whole" p_is_whole.length sp_is_whole) : okB (tb P w K mg 1) c_is_between := ⟨⟨⟨h_is_whole, ⟨trivial, trivial⟩⟩, ⟨trivial, trivial, trivial⟩⟩, trivial⟩
theorem fg_is_between {fd : FuncData} (F : FunD K "is_between" "is_between" (defArgs s_is_between) (defBody s_is_between) (defScope s_is_between) [] [] (He.ga K "is_between") fd) (h_is_whole : CallG P w K mg 1 "is_whole" p_is_whole.length sp_is_whole) : ∀ base : Heap, K.In base → base.Ns mainGlobals mg → FnG P w K mg base 2 (He.ga K "is_between") fd p_is_between (liftSp K p_is_between.length sp_is_between) := fng_core c_is_between F sc_is_between ck_is_between (ok_is_between h_is_whole) fun ds M Q _ hs => pl_is_between ds M Q hs
theorem bi_is_between {fd : FuncData} (F : FunD K "is_between" "is_between" (defArgs s_is_between) (defBody s_is_between) (defScope s_is_between) [] [] (He.ga K "is_between") fd) : Binds K fd p_is_between [] := F.bindsN fun _ _ _ _ _ _ us hl => match us, hl with
  | [_, _, _], _ => rfl
theorem cg_is_between (hm : mg "is_between" = some (.ref (He.ga K "is_between"))) {fd : FuncData} (F : FunD K "is_between" "is_between" (defArgs s_is_between) (defBody s_is_between) (defScope s_is_between) [] [] (He.ga K "is_between") fd) (h_is_whole : CallG P w K mg 1 "is_whole" p_is_whole.length sp_is_whole) : CallG P w K mg 2 "is_between" p_is_between.length sp_is_between := ⟨_, fd, p_is_between, rfl, fg_is_between F h_is_whole, hm, F.kp, bi_is_between F⟩
theorem ok__law_one (h__law_take : CallG P w K mg 1 "_law_take" p__law_take.length sp__law_take) (fr_len : mg "len" = none) : okB (tb P w K mg 1) c__law_one := ⟨⟨trivial, ⟨h__law_take, ⟨trivial, ⟨⟨fr_len, ⟨trivial, trivial⟩⟩, trivial⟩⟩⟩⟩, trivial⟩
theorem fg__law_one {fd : FuncData} (F : FunD K "_law_one" "_law_one" (defArgs s__law_one) (defBody s__law_one) (defScope s__law_one) [] [] (He.ga K "_law_one") fd) (h__law_take : CallG P w K mg 1 "_law_take" p__law_take.length sp__law_take) (fr_len : mg "len" = none) : ∀ base : Heap, K.In base → base.Ns mainGlobals mg → FnG P w K mg base 2 (He.ga K "_law_one") fd p__law_one (liftSp K p__law_one.length sp__law_one) := fng_core c__law_one F sc__law_one ck__law_one (ok__law_one h__law_take fr_len) fun ds M Q _ hs => pl__law_one ds M Q hs
theorem bi__law_one {fd : FuncData} (F : FunD K "_law_one" "_law_one" (defArgs s__law_one) (defBody s__law_one) (defScope s__law_one) [] [] (He.ga K "_law_one") fd) : Binds K fd p__law_one [] := F.bindsN fun _ _ _ _ _ _ us hl => match us, hl with
  | [_, _], _ => rfl
theorem cg__law_one (hm : mg "_law_one" = some (.ref (He.ga K "_law_one"))) {fd : FuncData} (F : FunD K "_law_one" "_law_one" (defArgs s__law_one) (defBody s__law_one) (defScope s__law_one) [] [] (He.ga K "_law_one") fd) (h__law_take : CallG P w K mg 1 "_law_take" p__law_take.length sp__law_take) (fr_len : mg "len" = none) : CallG P w K mg 2 "_law_one" p__law_one.length sp__law_one := ⟨_, fd, p__law_one, rfl, fg__law_one F h__law_take fr_len, hm, F.kp, bi__law_one F⟩
theorem ok_line_of (h_text_of : CallG P w K mg 2 "text_of" p_text_of.length sp_text_of) (h_words_behind : CallG P w K mg 2 "words_behind" p_words_behind.length sp_words_behind) (fr_str : mg "str" = none) : okB (tb P w K mg 2) c_line_of := ⟨⟨⟨trivial, ⟨trivial, ⟨trivial, trivial⟩⟩⟩, trivial⟩, ⟨⟨trivial, ⟨⟨⟨⟨fr_str, ⟨trivial, trivial⟩⟩, ⟨⟨trivial, trivial⟩, ⟨⟨h_text_of, ⟨trivial, trivial⟩⟩, trivial⟩⟩⟩, ⟨h_words_behind, ⟨trivial, trivial⟩⟩⟩, trivial⟩⟩, trivial⟩⟩
theorem fg_line_of {fd : FuncData} (F : FunD K "line_of" "line_of" (defArgs s_line_of) (defBody s_line_of) (defScope s_line_of) [] [] (He.ga K "line_of") fd) (h_text_of : CallG P w K mg 2 "text_of" p_text_of.length sp_text_of) (h_words_behind : CallG P w K mg 2 "words_behind" p_words_behind.length sp_words_behind) (fr_str : mg "str" = none) : ∀ base : Heap, K.In base → base.Ns mainGlobals mg → FnG P w K mg base 3 (He.ga K "line_of") fd p_line_of (liftSp K p_line_of.length sp_line_of) := fng_core c_line_of F sc_line_of ck_line_of (ok_line_of h_text_of h_words_behind fr_str) fun ds M Q _ hs => pl_line_of ds M Q hs
theorem bi_line_of {fd : FuncData} (F : FunD K "line_of" "line_of" (defArgs s_line_of) (defBody s_line_of) (defScope s_line_of) [] [] (He.ga K "line_of") fd) : Binds K fd p_line_of [] := F.bindsN fun _ _ _ _ _ _ us hl => match us, hl with
  | [_], _ => rfl
theorem cg_line_of (hm : mg "line_of" = some (.ref (He.ga K "line_of"))) {fd : FuncData} (F : FunD K "line_of" "line_of" (defArgs s_line_of) (defBody s_line_of) (defScope s_line_of) [] [] (He.ga K "line_of") fd) (h_text_of : CallG P w K mg 2 "text_of" p_text_of.length sp_text_of) (h_words_behind : CallG P w K mg 2 "words_behind" p_words_behind.length sp_words_behind) (fr_str : mg "str" = none) : CallG P w K mg 3 "line_of" p_line_of.length sp_line_of := ⟨_, fd, p_line_of, rfl, fg_line_of F h_text_of h_words_behind fr_str, hm, F.kp, bi_line_of F⟩
theorem ok_is_address (h_is_name : CallG P w K mg 2 "is_name" p_is_name.length sp_is_name) (h_is_short_path : CallG P w K mg 2 "is_short_path" p_is_short_path.length sp_is_short_path) (h_is_tuple_up_to : CallG P w K mg 2 "is_tuple_up_to" p_is_tuple_up_to.length sp_is_tuple_up_to) : okB (tb P w K mg 2) c_is_address := ⟨⟨⟨h_is_tuple_up_to, ⟨trivial, ⟨trivial, ⟨trivial, trivial⟩⟩⟩⟩, ⟨⟨h_is_name, ⟨⟨trivial, trivial⟩, trivial⟩⟩, ⟨h_is_short_path, ⟨⟨trivial, trivial⟩, trivial⟩⟩⟩⟩, trivial⟩
theorem fg_is_address {fd : FuncData} (F : FunD K "is_address" "is_address" (defArgs s_is_address) (defBody s_is_address) (defScope s_is_address) [] [] (He.ga K "is_address") fd) (h_is_name : CallG P w K mg 2 "is_name" p_is_name.length sp_is_name) (h_is_short_path : CallG P w K mg 2 "is_short_path" p_is_short_path.length sp_is_short_path) (h_is_tuple_up_to : CallG P w K mg 2 "is_tuple_up_to" p_is_tuple_up_to.length sp_is_tuple_up_to) : ∀ base : Heap, K.In base → base.Ns mainGlobals mg → FnG P w K mg base 3 (He.ga K "is_address") fd p_is_address (liftSp K p_is_address.length sp_is_address) := fng_core c_is_address F sc_is_address ck_is_address (ok_is_address h_is_name h_is_short_path h_is_tuple_up_to) fun ds M Q _ hs => pl_is_address ds M Q hs
theorem bi_is_address {fd : FuncData} (F : FunD K "is_address" "is_address" (defArgs s_is_address) (defBody s_is_address) (defScope s_is_address) [] [] (He.ga K "is_address") fd) : Binds K fd p_is_address [] := F.bindsN fun _ _ _ _ _ _ us hl => match us, hl with
  | [_], _ => rfl
theorem cg_is_address (hm : mg "is_address" = some (.ref (He.ga K "is_address"))) {fd : FuncData} (F : FunD K "is_address" "is_address" (defArgs s_is_address) (defBody s_is_address) (defScope s_is_address) [] [] (He.ga K "is_address") fd) (h_is_name : CallG P w K mg 2 "is_name" p_is_name.length sp_is_name) (h_is_short_path : CallG P w K mg 2 "is_short_path" p_is_short_path.length sp_is_short_path) (h_is_tuple_up_to : CallG P w K mg 2 "is_tuple_up_to" p_is_tuple_up_to.length sp_is_tuple_up_to) : CallG P w K mg 3 "is_address" p_is_address.length sp_is_address := ⟨_, fd, p_is_address, rfl, fg_is_address F h_is_name h_is_short_path h_is_tuple_up_to, hm, F.kp, bi_is_address F⟩
theorem ok__law_answer (h__law_one : CallG P w K mg 2 "_law_one" p__law_one.length sp__law_one) (h__law_take : CallG P w K mg 2 "_law_take" p__law_take.length sp__law_take) (fr_range : mg "range" = none) (fr_tuple : mg "tuple" = none) : okB (tb P w K mg 2) c__law_answer := ⟨⟨trivial, ⟨h__law_take, ⟨trivial, ⟨trivial, trivial⟩⟩⟩⟩, ⟨⟨⟨trivial, trivial⟩, ⟨⟨trivial, ⟨⟨fr_range, ⟨h__law_one, ⟨trivial, ⟨⟨trivial, ⟨trivial, ⟨trivial, ⟨trivial, ⟨trivial, trivial⟩⟩⟩⟩⟩, trivial⟩⟩⟩⟩, trivial, trivial, ⟨h__law_one, ⟨trivial, ⟨trivial, trivial⟩⟩⟩⟩⟩, ⟨⟨trivial, ⟨⟨h__law_one, ⟨trivial, ⟨⟨trivial, ⟨trivial, ⟨trivial, ⟨trivial, ⟨⟨h__law_take, ⟨trivial, ⟨trivial, trivial⟩⟩⟩, trivial⟩⟩⟩⟩⟩, trivial⟩⟩⟩, ⟨⟨fr_tuple, ⟨trivial, trivial⟩⟩, trivial⟩⟩⟩, trivial⟩⟩, trivial⟩, ⟨⟨⟨trivial, trivial⟩, ⟨⟨trivial, trivial⟩, trivial⟩, trivial⟩, ⟨⟨⟨h__law_one, ⟨trivial, ⟨⟨trivial, ⟨trivial, trivial⟩⟩, trivial⟩⟩⟩, ⟨⟨h__law_one, ⟨trivial, ⟨trivial, trivial⟩⟩⟩, trivial⟩⟩, trivial⟩⟩⟩⟩
theorem fg__law_answer {fd : FuncData} (F : FunD K "_law_answer" "_law_answer" (defArgs s__law_answer) (defBody s__law_answer) (defScope s__law_answer) [] [] (He.ga K "_law_answer") fd) (h__law_one : CallG P w K mg 2 "_law_one" p__law_one.length sp__law_one) (h__law_take : CallG P w K mg 2 "_law_take" p__law_take.length sp__law_take) (fr_range : mg "range" = none) (fr_tuple : mg "tuple" = none) : ∀ base : Heap, K.In base → base.Ns mainGlobals mg → FnG P w K mg base 3 (He.ga K "_law_answer") fd p__law_answer (liftSp K p__law_answer.length sp__law_answer) := fng_core c__law_answer F sc__law_answer ck__law_answer (ok__law_answer h__law_one h__law_take fr_range fr_tuple) fun ds M Q _ hs => pl__law_answer ds M Q hs
theorem bi__law_answer {fd : FuncData} (F : FunD K "_law_answer" "_law_answer" (defArgs s__law_answer) (defBody s__law_answer) (defScope s__law_answer) [] [] (He.ga K "_law_answer") fd) : Binds K fd p__law_answer [] := F.bindsN fun _ _ _ _ _ _ us hl => match us, hl with
  | [_, _], _ => rfl
theorem cg__law_answer (hm : mg "_law_answer" = some (.ref (He.ga K "_law_answer"))) {fd : FuncData} (F : FunD K "_law_answer" "_law_answer" (defArgs s__law_answer) (defBody s__law_answer) (defScope s__law_answer) [] [] (He.ga K "_law_answer") fd) (h__law_one : CallG P w K mg 2 "_law_one" p__law_one.length sp__law_one) (h__law_take : CallG P w K mg 2 "_law_take" p__law_take.length sp__law_take) (fr_range : mg "range" = none) (fr_tuple : mg "tuple" = none) : CallG P w K mg 3 "_law_answer" p__law_answer.length sp__law_answer := ⟨_, fd, p__law_answer, rfl, fg__law_answer F h__law_one h__law_take fr_range fr_tuple, hm, F.kp, bi__law_answer F⟩
theorem ok_is_moment (h_is_between : CallG P w K mg 2 "is_between" p_is_between.length sp_is_between) (co_MOST_MOMENT : ConOk K mg "MOST_MOMENT" (.int (999999999999))) : okB (tb P w K mg 2) c_is_moment := ⟨⟨h_is_between, ⟨trivial, ⟨trivial, ⟨co_MOST_MOMENT, trivial⟩⟩⟩⟩, trivial⟩
theorem fg_is_moment {fd : FuncData} (F : FunD K "is_moment" "is_moment" (defArgs s_is_moment) (defBody s_is_moment) (defScope s_is_moment) [] [] (He.ga K "is_moment") fd) (h_is_between : CallG P w K mg 2 "is_between" p_is_between.length sp_is_between) (co_MOST_MOMENT : ConOk K mg "MOST_MOMENT" (.int (999999999999))) : ∀ base : Heap, K.In base → base.Ns mainGlobals mg → FnG P w K mg base 3 (He.ga K "is_moment") fd p_is_moment (liftSp K p_is_moment.length sp_is_moment) := fng_core c_is_moment F sc_is_moment ck_is_moment (ok_is_moment h_is_between co_MOST_MOMENT) fun ds M Q _ hs => pl_is_moment ds M Q hs
theorem bi_is_moment {fd : FuncData} (F : FunD K "is_moment" "is_moment" (defArgs s_is_moment) (defBody s_is_moment) (defScope s_is_moment) [] [] (He.ga K "is_moment") fd) : Binds K fd p_is_moment [] := F.bindsN fun _ _ _ _ _ _ us hl => match us, hl with
  | [_], _ => rfl
theorem cg_is_moment (hm : mg "is_moment" = some (.ref (He.ga K "is_moment"))) {fd : FuncData} (F : FunD K "is_moment" "is_moment" (defArgs s_is_moment) (defBody s_is_moment) (defScope s_is_moment) [] [] (He.ga K "is_moment") fd) (h_is_between : CallG P w K mg 2 "is_between" p_is_between.length sp_is_between) (co_MOST_MOMENT : ConOk K mg "MOST_MOMENT" (.int (999999999999))) : CallG P w K mg 3 "is_moment" p_is_moment.length sp_is_moment := ⟨_, fd, p_is_moment, rfl, fg_is_moment F h_is_between co_MOST_MOMENT, hm, F.kp, bi_is_moment F⟩
theorem ok__law_signs (h__law_one : CallG P w K mg 2 "_law_one" p__law_one.length sp__law_one) (fr_range : mg "range" = none) : okB (tb P w K mg 2) c__law_signs := ⟨⟨trivial, trivial⟩, ⟨⟨trivial, ⟨⟨fr_range, trivial⟩, trivial, trivial, ⟨h__law_one, ⟨trivial, ⟨trivial, trivial⟩⟩⟩⟩⟩, trivial⟩⟩
theorem fg__law_signs {fd : FuncData} (F : FunD K "_law_signs" "_law_signs" (defArgs s__law_signs) (defBody s__law_signs) (defScope s__law_signs) [] [] (He.ga K "_law_signs") fd) (h__law_one : CallG P w K mg 2 "_law_one" p__law_one.length sp__law_one) (fr_range : mg "range" = none) : ∀ base : Heap, K.In base → base.Ns mainGlobals mg → FnG P w K mg base 3 (He.ga K "_law_signs") fd p__law_signs (liftSp K p__law_signs.length sp__law_signs) := fng_core c__law_signs F sc__law_signs ck__law_signs (ok__law_signs h__law_one fr_range) fun ds M Q _ hs => pl__law_signs ds M Q hs
theorem bi__law_signs {fd : FuncData} (F : FunD K "_law_signs" "_law_signs" (defArgs s__law_signs) (defBody s__law_signs) (defScope s__law_signs) [] [] (He.ga K "_law_signs") fd) : Binds K fd p__law_signs [] := F.bindsN fun _ _ _ _ _ _ us hl => match us, hl with
  | [_, _], _ => rfl
theorem cg__law_signs (hm : mg "_law_signs" = some (.ref (He.ga K "_law_signs"))) {fd : FuncData} (F : FunD K "_law_signs" "_law_signs" (defArgs s__law_signs) (defBody s__law_signs) (defScope s__law_signs) [] [] (He.ga K "_law_signs") fd) (h__law_one : CallG P w K mg 2 "_law_one" p__law_one.length sp__law_one) (fr_range : mg "range" = none) : CallG P w K mg 3 "_law_signs" p__law_signs.length sp__law_signs := ⟨_, fd, p__law_signs, rfl, fg__law_signs F h__law_one fr_range, hm, F.kp, bi__law_signs F⟩
theorem ok__law_path (h__law_one : CallG P w K mg 2 "_law_one" p__law_one.length sp__law_one) (h__law_take : CallG P w K mg 2 "_law_take" p__law_take.length sp__law_take) (fr_range : mg "range" = none) : okB (tb P w K mg 2) c__law_path := ⟨⟨⟨⟨h__law_take, ⟨trivial, ⟨trivial, trivial⟩⟩⟩, trivial⟩, ⟨⟨h__law_one, ⟨trivial, ⟨⟨trivial, ⟨trivial, ⟨trivial, ⟨trivial, ⟨trivial, ⟨trivial, ⟨trivial, ⟨trivial, trivial⟩⟩⟩⟩⟩⟩⟩⟩, trivial⟩⟩⟩, trivial⟩, trivial⟩, ⟨⟨trivial, ⟨h__law_one, ⟨trivial, ⟨⟨trivial, ⟨trivial, ⟨trivial, ⟨trivial, ⟨trivial, ⟨trivial, ⟨trivial, ⟨trivial, trivial⟩⟩⟩⟩⟩⟩⟩⟩, trivial⟩⟩⟩⟩, ⟨⟨trivial, ⟨trivial, ⟨⟨fr_range, trivial⟩, trivial, trivial, ⟨h__law_one, ⟨trivial, ⟨trivial, trivial⟩⟩⟩⟩⟩⟩, trivial⟩⟩⟩
theorem fg__law_path {fd : FuncData} (F : FunD K "_law_path" "_law_path" (defArgs s__law_path) (defBody s__law_path) (defScope s__law_path) [] [] (He.ga K "_law_path") fd) (h__law_one : CallG P w K mg 2 "_law_one" p__law_one.length sp__law_one) (h__law_take : CallG P w K mg 2 "_law_take" p__law_take.length sp__law_take) (fr_range : mg "range" = none) : ∀ base : Heap, K.In base → base.Ns mainGlobals mg → FnG P w K mg base 3 (He.ga K "_law_path") fd p__law_path (liftSp K p__law_path.length sp__law_path) := fng_core c__law_path F sc__law_path ck__law_path (ok__law_path h__law_one h__law_take fr_range) fun ds M Q _ hs => pl__law_path ds M Q hs
theorem bi__law_path {fd : FuncData} (F : FunD K "_law_path" "_law_path" (defArgs s__law_path) (defBody s__law_path) (defScope s__law_path) [] [] (He.ga K "_law_path") fd) : Binds K fd p__law_path [] := F.bindsN fun _ _ _ _ _ _ us hl => match us, hl with
  | [_], _ => rfl
theorem cg__law_path (hm : mg "_law_path" = some (.ref (He.ga K "_law_path"))) {fd : FuncData} (F : FunD K "_law_path" "_law_path" (defArgs s__law_path) (defBody s__law_path) (defScope s__law_path) [] [] (He.ga K "_law_path") fd) (h__law_one : CallG P w K mg 2 "_law_one" p__law_one.length sp__law_one) (h__law_take : CallG P w K mg 2 "_law_take" p__law_take.length sp__law_take) (fr_range : mg "range" = none) : CallG P w K mg 3 "_law_path" p__law_path.length sp__law_path := ⟨_, fd, p__law_path, rfl, fg__law_path F h__law_one h__law_take fr_range, hm, F.kp, bi__law_path F⟩
theorem ok__law_name (h__law_one : CallG P w K mg 2 "_law_one" p__law_one.length sp__law_one) (fr_range : mg "range" = none) : okB (tb P w K mg 2) c__law_name := ⟨⟨trivial, ⟨h__law_one, ⟨trivial, ⟨⟨trivial, ⟨trivial, ⟨trivial, ⟨trivial, ⟨trivial, ⟨trivial, trivial⟩⟩⟩⟩⟩⟩, trivial⟩⟩⟩⟩, ⟨⟨trivial, ⟨⟨fr_range, trivial⟩, trivial, trivial, ⟨h__law_one, ⟨trivial, ⟨trivial, trivial⟩⟩⟩⟩⟩, trivial⟩⟩
theorem fg__law_name {fd : FuncData} (F : FunD K "_law_name" "_law_name" (defArgs s__law_name) (defBody s__law_name) (defScope s__law_name) [] [] (He.ga K "_law_name") fd) (h__law_one : CallG P w K mg 2 "_law_one" p__law_one.length sp__law_one) (fr_range : mg "range" = none) : ∀ base : Heap, K.In base → base.Ns mainGlobals mg → FnG P w K mg base 3 (He.ga K "_law_name") fd p__law_name (liftSp K p__law_name.length sp__law_name) := fng_core c__law_name F sc__law_name ck__law_name (ok__law_name h__law_one fr_range) fun ds M Q _ hs => pl__law_name ds M Q hs
theorem bi__law_name {fd : FuncData} (F : FunD K "_law_name" "_law_name" (defArgs s__law_name) (defBody s__law_name) (defScope s__law_name) [] [] (He.ga K "_law_name") fd) : Binds K fd p__law_name [] := F.bindsN fun _ _ _ _ _ _ us hl => match us, hl with
  | [_], _ => rfl
theorem cg__law_name (hm : mg "_law_name" = some (.ref (He.ga K "_law_name"))) {fd : FuncData} (F : FunD K "_law_name" "_law_name" (defArgs s__law_name) (defBody s__law_name) (defScope s__law_name) [] [] (He.ga K "_law_name") fd) (h__law_one : CallG P w K mg 2 "_law_one" p__law_one.length sp__law_one) (fr_range : mg "range" = none) : CallG P w K mg 3 "_law_name" p__law_name.length sp__law_name := ⟨_, fd, p__law_name, rfl, fg__law_name F h__law_one fr_range, hm, F.kp, bi__law_name F⟩
theorem ok_journal_line (h_line_of : CallG P w K mg 3 "line_of" p_line_of.length sp_line_of) (h_seal_in : CallG P w K mg 3 "seal_in" p_seal_in.length sp_seal_in) : okB (tb P w K mg 3) c_journal_line := ⟨⟨trivial, ⟨trivial, ⟨⟨h_line_of, ⟨trivial, trivial⟩⟩, trivial⟩⟩⟩, ⟨⟨trivial, ⟨⟨h_seal_in, ⟨trivial, trivial⟩⟩, trivial⟩⟩, trivial⟩⟩
theorem fg_journal_line {fd : FuncData} (F : FunD K "journal_line" "journal_line" (defArgs s_journal_line) (defBody s_journal_line) (defScope s_journal_line) [] [] (He.ga K "journal_line") fd) (h_line_of : CallG P w K mg 3 "line_of" p_line_of.length sp_line_of) (h_seal_in : CallG P w K mg 3 "seal_in" p_seal_in.length sp_seal_in) : ∀ base : Heap, K.In base → base.Ns mainGlobals mg → FnG P w K mg base 4 (He.ga K "journal_line") fd p_journal_line (liftSp K p_journal_line.length sp_journal_line) := fng_core c_journal_line F sc_journal_line ck_journal_line (ok_journal_line h_line_of h_seal_in) fun ds M Q _ hs => pl_journal_line ds M Q hs
theorem bi_journal_line {fd : FuncData} (F : FunD K "journal_line" "journal_line" (defArgs s_journal_line) (defBody s_journal_line) (defScope s_journal_line) [] [] (He.ga K "journal_line") fd) : Binds K fd p_journal_line [] := F.bindsN fun _ _ _ _ _ _ us hl => match us, hl with
  | [_, _], _ => rfl
theorem cg_journal_line (hm : mg "journal_line" = some (.ref (He.ga K "journal_line"))) {fd : FuncData} (F : FunD K "journal_line" "journal_line" (defArgs s_journal_line) (defBody s_journal_line) (defScope s_journal_line) [] [] (He.ga K "journal_line") fd) (h_line_of : CallG P w K mg 3 "line_of" p_line_of.length sp_line_of) (h_seal_in : CallG P w K mg 3 "seal_in" p_seal_in.length sp_seal_in) : CallG P w K mg 4 "journal_line" p_journal_line.length sp_journal_line := ⟨_, fd, p_journal_line, rfl, fg_journal_line F h_line_of h_seal_in, hm, F.kp, bi_journal_line F⟩
theorem ok_are_links (h_is_address : CallG P w K mg 3 "is_address" p_is_address.length sp_is_address) (h_is_tuple_up_to : CallG P w K mg 3 "is_tuple_up_to" p_is_tuple_up_to.length sp_is_tuple_up_to) (co_MOST_LINKS : ConOk K mg "MOST_LINKS" (.int (6))) (fr_all : mg "all" = none) : okB (tb P w K mg 3) c_are_links := ⟨⟨⟨h_is_tuple_up_to, ⟨trivial, ⟨trivial, ⟨co_MOST_LINKS, trivial⟩⟩⟩⟩, ⟨fr_all, ⟨trivial, trivial, trivial, ⟨h_is_address, ⟨trivial, trivial⟩⟩⟩⟩⟩, trivial⟩
theorem fg_are_links {fd : FuncData} (F : FunD K "are_links" "are_links" (defArgs s_are_links) (defBody s_are_links) (defScope s_are_links) [] [] (He.ga K "are_links") fd) (h_is_address : CallG P w K mg 3 "is_address" p_is_address.length sp_is_address) (h_is_tuple_up_to : CallG P w K mg 3 "is_tuple_up_to" p_is_tuple_up_to.length sp_is_tuple_up_to) (co_MOST_LINKS : ConOk K mg "MOST_LINKS" (.int (6))) (fr_all : mg "all" = none) : ∀ base : Heap, K.In base → base.Ns mainGlobals mg → FnG P w K mg base 4 (He.ga K "are_links") fd p_are_links (liftSp K p_are_links.length sp_are_links) := fng_core c_are_links F sc_are_links ck_are_links (ok_are_links h_is_address h_is_tuple_up_to co_MOST_LINKS fr_all) fun ds M Q _ hs => pl_are_links ds M Q hs
theorem bi_are_links {fd : FuncData} (F : FunD K "are_links" "are_links" (defArgs s_are_links) (defBody s_are_links) (defScope s_are_links) [] [] (He.ga K "are_links") fd) : Binds K fd p_are_links [] := F.bindsN fun _ _ _ _ _ _ us hl => match us, hl with
  | [_], _ => rfl
theorem cg_are_links (hm : mg "are_links" = some (.ref (He.ga K "are_links"))) {fd : FuncData} (F : FunD K "are_links" "are_links" (defArgs s_are_links) (defBody s_are_links) (defScope s_are_links) [] [] (He.ga K "are_links") fd) (h_is_address : CallG P w K mg 3 "is_address" p_is_address.length sp_is_address) (h_is_tuple_up_to : CallG P w K mg 3 "is_tuple_up_to" p_is_tuple_up_to.length sp_is_tuple_up_to) (co_MOST_LINKS : ConOk K mg "MOST_LINKS" (.int (6))) (fr_all : mg "all" = none) : CallG P w K mg 4 "are_links" p_are_links.length sp_are_links := ⟨_, fd, p_are_links, rfl, fg_are_links F h_is_address h_is_tuple_up_to co_MOST_LINKS fr_all, hm, F.kp, bi_are_links F⟩
theorem ok_address_in (h_is_address : CallG P w K mg 3 "is_address" p_is_address.length sp_is_address) : okB (tb P w K mg 3) c_address_in := ⟨⟨⟨trivial, ⟨trivial, ⟨trivial, trivial⟩⟩⟩, ⟨trivial, ⟨trivial, trivial⟩⟩⟩, ⟨⟨trivial, ⟨trivial, ⟨⟨trivial, trivial⟩, trivial⟩⟩⟩, ⟨⟨⟨h_is_address, ⟨trivial, trivial⟩⟩, trivial, trivial⟩, trivial⟩⟩⟩
theorem fg_address_in {fd : FuncData} (F : FunD K "address_in" "address_in" (defArgs s_address_in) (defBody s_address_in) (defScope s_address_in) [] [] (He.ga K "address_in") fd) (h_is_address : CallG P w K mg 3 "is_address" p_is_address.length sp_is_address) : ∀ base : Heap, K.In base → base.Ns mainGlobals mg → FnG P w K mg base 4 (He.ga K "address_in") fd p_address_in (liftSp K p_address_in.length sp_address_in) := fng_core c_address_in F sc_address_in ck_address_in (ok_address_in h_is_address) fun ds M Q _ hs => pl_address_in ds M Q hs
theorem bi_address_in {fd : FuncData} (F : FunD K "address_in" "address_in" (defArgs s_address_in) (defBody s_address_in) (defScope s_address_in) [] [] (He.ga K "address_in") fd) : Binds K fd p_address_in [] := F.bindsN fun _ _ _ _ _ _ us hl => match us, hl with
  | [_], _ => rfl
theorem cg_address_in (hm : mg "address_in" = some (.ref (He.ga K "address_in"))) {fd : FuncData} (F : FunD K "address_in" "address_in" (defArgs s_address_in) (defBody s_address_in) (defScope s_address_in) [] [] (He.ga K "address_in") fd) (h_is_address : CallG P w K mg 3 "is_address" p_is_address.length sp_is_address) : CallG P w K mg 4 "address_in" p_address_in.length sp_address_in := ⟨_, fd, p_address_in, rfl, fg_address_in F h_is_address, hm, F.kp, bi_address_in F⟩
theorem ok__law_loose_rows (h__law_answer : CallG P w K mg 3 "_law_answer" p__law_answer.length sp__law_answer) (h__law_one : CallG P w K mg 3 "_law_one" p__law_one.length sp__law_one) (h__law_take : CallG P w K mg 3 "_law_take" p__law_take.length sp__law_take) (fr_range : mg "range" = none) (fr_tuple : mg "tuple" = none) : okB (tb P w K mg 3) c__law_loose_rows := ⟨⟨trivial, trivial⟩, ⟨⟨trivial, ⟨fr_range, trivial⟩, ⟨⟨trivial, ⟨h__law_one, ⟨trivial, ⟨⟨trivial, ⟨trivial, ⟨trivial, ⟨trivial, ⟨⟨h__law_take, ⟨trivial, ⟨⟨trivial, trivial⟩, trivial⟩⟩⟩, trivial⟩⟩⟩⟩⟩, trivial⟩⟩⟩⟩, ⟨⟨trivial, ⟨h__law_one, ⟨trivial, ⟨⟨⟨trivial, trivial⟩, ⟨⟨trivial, trivial⟩, ⟨⟨trivial, trivial⟩, ⟨⟨h__law_answer, ⟨trivial, ⟨trivial, trivial⟩⟩⟩, ⟨⟨h__law_answer, ⟨trivial, ⟨trivial, trivial⟩⟩⟩, trivial⟩⟩⟩⟩⟩, trivial⟩⟩⟩⟩, ⟨⟨trivial, ⟨⟨trivial, ⟨⟨h__law_one, ⟨trivial, ⟨trivial, trivial⟩⟩⟩, ⟨trivial, trivial⟩⟩⟩, trivial⟩⟩, trivial⟩⟩⟩⟩, ⟨⟨fr_tuple, ⟨trivial, trivial⟩⟩, trivial⟩⟩⟩
theorem fg__law_loose_rows {fd : FuncData} (F : FunD K "_law_loose_rows" "_law_loose_rows" (defArgs s__law_loose_rows) (defBody s__law_loose_rows) (defScope s__law_loose_rows) [] [] (He.ga K "_law_loose_rows") fd) (h__law_answer : CallG P w K mg 3 "_law_answer" p__law_answer.length sp__law_answer) (h__law_one : CallG P w K mg 3 "_law_one" p__law_one.length sp__law_one) (h__law_take : CallG P w K mg 3 "_law_take" p__law_take.length sp__law_take) (fr_range : mg "range" = none) (fr_tuple : mg "tuple" = none) : ∀ base : Heap, K.In base → base.Ns mainGlobals mg → FnG P w K mg base 4 (He.ga K "_law_loose_rows") fd p__law_loose_rows (liftSp K p__law_loose_rows.length sp__law_loose_rows) := fng_core c__law_loose_rows F sc__law_loose_rows ck__law_loose_rows (ok__law_loose_rows h__law_answer h__law_one h__law_take fr_range fr_tuple) fun ds M Q _ hs => pl__law_loose_rows ds M Q hs
theorem bi__law_loose_rows {fd : FuncData} (F : FunD K "_law_loose_rows" "_law_loose_rows" (defArgs s__law_loose_rows) (defBody s__law_loose_rows) (defScope s__law_loose_rows) [] [] (He.ga K "_law_loose_rows") fd) : Binds K fd p__law_loose_rows [] := F.bindsN fun _ _ _ _ _ _ us hl => match us, hl with
  | [_, _, _], _ => rfl
theorem cg__law_loose_rows (hm : mg "_law_loose_rows" = some (.ref (He.ga K "_law_loose_rows"))) {fd : FuncData} (F : FunD K "_law_loose_rows" "_law_loose_rows" (defArgs s__law_loose_rows) (defBody s__law_loose_rows) (defScope s__law_loose_rows) [] [] (He.ga K "_law_loose_rows") fd) (h__law_answer : CallG P w K mg 3 "_law_answer" p__law_answer.length sp__law_answer) (h__law_one : CallG P w K mg 3 "_law_one" p__law_one.length sp__law_one) (h__law_take : CallG P w K mg 3 "_law_take" p__law_take.length sp__law_take) (fr_range : mg "range" = none) (fr_tuple : mg "tuple" = none) : CallG P w K mg 4 "_law_loose_rows" p__law_loose_rows.length sp__law_loose_rows := ⟨_, fd, p__law_loose_rows, rfl, fg__law_loose_rows F h__law_answer h__law_one h__law_take fr_range fr_tuple, hm, F.kp, bi__law_loose_rows F⟩
theorem ok__law_spots (h__law_one : CallG P w K mg 3 "_law_one" p__law_one.length sp__law_one) (h__law_path : CallG P w K mg 3 "_law_path" p__law_path.length sp__law_path) (h__law_take : CallG P w K mg 3 "_law_take" p__law_take.length sp__law_take) (fr_range : mg "range" = none) : okB (tb P w K mg 3) c__law_spots := ⟨⟨trivial, trivial⟩, ⟨⟨trivial, ⟨fr_range, ⟨trivial, ⟨h__law_take, ⟨trivial, ⟨trivial, trivial⟩⟩⟩⟩⟩, ⟨⟨trivial, ⟨⟨h__law_one, ⟨trivial, ⟨trivial, trivial⟩⟩⟩, ⟨⟨h__law_path, ⟨trivial, trivial⟩⟩, trivial⟩⟩⟩, ⟨⟨⟨trivial, trivial⟩, ⟨⟨trivial, ⟨trivial, trivial⟩⟩, trivial⟩, trivial⟩, trivial⟩⟩⟩, ⟨trivial, trivial⟩⟩⟩
theorem fg__law_spots {fd : FuncData} (F : FunD K "_law_spots" "_law_spots" (defArgs s__law_spots) (defBody s__law_spots) (defScope s__law_spots) [] [] (He.ga K "_law_spots") fd) (h__law_one : CallG P w K mg 3 "_law_one" p__law_one.length sp__law_one) (h__law_path : CallG P w K mg 3 "_law_path" p__law_path.length sp__law_path) (h__law_take : CallG P w K mg 3 "_law_take" p__law_take.length sp__law_take) (fr_range : mg "range" = none) : ∀ base : Heap, K.In base → base.Ns mainGlobals mg → FnG P w K mg base 4 (He.ga K "_law_spots") fd p__law_spots (liftSp K p__law_spots.length sp__law_spots) := fng_core c__law_spots F sc__law_spots ck__law_spots (ok__law_spots h__law_one h__law_path h__law_take fr_range) fun ds M Q _ hs => pl__law_spots ds M Q hs
theorem bi__law_spots {fd : FuncData} (F : FunD K "_law_spots" "_law_spots" (defArgs s__law_spots) (defBody s__law_spots) (defScope s__law_spots) [] [] (He.ga K "_law_spots") fd) : Binds K fd p__law_spots [] := F.bindsN fun _ _ _ _ _ _ us hl => match us, hl with
  | [_, _], _ => rfl
theorem cg__law_spots (hm : mg "_law_spots" = some (.ref (He.ga K "_law_spots"))) {fd : FuncData} (F : FunD K "_law_spots" "_law_spots" (defArgs s__law_spots) (defBody s__law_spots) (defScope s__law_spots) [] [] (He.ga K "_law_spots") fd) (h__law_one : CallG P w K mg 3 "_law_one" p__law_one.length sp__law_one) (h__law_path : CallG P w K mg 3 "_law_path" p__law_path.length sp__law_path) (h__law_take : CallG P w K mg 3 "_law_take" p__law_take.length sp__law_take) (fr_range : mg "range" = none) : CallG P w K mg 4 "_law_spots" p__law_spots.length sp__law_spots := ⟨_, fd, p__law_spots, rfl, fg__law_spots F h__law_one h__law_path h__law_take fr_range, hm, F.kp, bi__law_spots F⟩
theorem ok_lines_in (h_journal_line : CallG P w K mg 4 "journal_line" p_journal_line.length sp_journal_line) (fr_enumerate : mg "enumerate" = none) : okB (tb P w K mg 4) c_lines_in := ⟨⟨⟨fr_enumerate, trivial⟩, ⟨trivial, ⟨trivial, trivial⟩⟩, trivial, ⟨h_journal_line, ⟨trivial, ⟨trivial, trivial⟩⟩⟩⟩, trivial⟩
theorem fg_lines_in {fd : FuncData} (F : FunD K "lines_in" "lines_in" (defArgs s_lines_in) (defBody s_lines_in) (defScope s_lines_in) [] [] (He.ga K "lines_in") fd) (h_journal_line : CallG P w K mg 4 "journal_line" p_journal_line.length sp_journal_line) (fr_enumerate : mg "enumerate" = none) : ∀ base : Heap, K.In base → base.Ns mainGlobals mg → FnG P w K mg base 5 (He.ga K "lines_in") fd p_lines_in (liftSp K p_lines_in.length sp_lines_in) := fng_core c_lines_in F sc_lines_in ck_lines_in (ok_lines_in h_journal_line fr_enumerate) fun ds M Q _ hs => pl_lines_in ds M Q hs
theorem bi_lines_in {fd : FuncData} (F : FunD K "lines_in" "lines_in" (defArgs s_lines_in) (defBody s_lines_in) (defScope s_lines_in) [] [] (He.ga K "lines_in") fd) : Binds K fd p_lines_in [] := F.bindsN fun _ _ _ _ _ _ us hl => match us, hl with
  | [_], _ => rfl
theorem cg_lines_in (hm : mg "lines_in" = some (.ref (He.ga K "lines_in"))) {fd : FuncData} (F : FunD K "lines_in" "lines_in" (defArgs s_lines_in) (defBody s_lines_in) (defScope s_lines_in) [] [] (He.ga K "lines_in") fd) (h_journal_line : CallG P w K mg 4 "journal_line" p_journal_line.length sp_journal_line) (fr_enumerate : mg "enumerate" = none) : CallG P w K mg 5 "lines_in" p_lines_in.length sp_lines_in := ⟨_, fd, p_lines_in, rfl, fg_lines_in F h_journal_line fr_enumerate, hm, F.kp, bi_lines_in F⟩
theorem ok_is_some_answer (h_are_links : CallG P w K mg 4 "are_links" p_are_links.length sp_are_links) (h_is_address : CallG P w K mg 4 "is_address" p_is_address.length sp_is_address) (h_is_between : CallG P w K mg 4 "is_between" p_is_between.length sp_is_between) (h_is_tuple_up_to : CallG P w K mg 4 "is_tuple_up_to" p_is_tuple_up_to.length sp_is_tuple_up_to) (co_MOST_MARK : ConOk K mg "MOST_MARK" (.int (999999))) (fr_isinstance : mg "isinstance" = none) (fr_len : mg "len" = none) (fr_str : mg "str" = none) : okB (tb P w K mg 4) c_is_some_answer := ⟨⟨⟨⟨h_is_tuple_up_to, ⟨trivial, ⟨trivial, ⟨trivial, trivial⟩⟩⟩⟩, ⟨fr_isinstance, fr_str, ⟨trivial, trivial⟩⟩⟩, ⟨trivial, trivial⟩, trivial⟩, ⟨⟨⟨⟨trivial, trivial⟩, trivial⟩, ⟨⟨⟨fr_len, ⟨trivial, trivial⟩⟩, trivial⟩, trivial⟩, trivial⟩, ⟨⟨⟨⟨trivial, trivial⟩, ⟨trivial, ⟨trivial, trivial⟩⟩⟩, ⟨⟨⟨⟨fr_len, ⟨trivial, trivial⟩⟩, trivial⟩, ⟨h_is_address, ⟨⟨trivial, trivial⟩, trivial⟩⟩⟩, trivial⟩, trivial⟩, ⟨⟨⟨⟨trivial, trivial⟩, trivial⟩, ⟨⟨⟨fr_len, ⟨trivial, trivial⟩⟩, trivial⟩, ⟨⟨h_is_between, ⟨⟨trivial, trivial⟩, ⟨trivial, ⟨co_MOST_MARK, trivial⟩⟩⟩⟩, ⟨h_are_links, ⟨⟨trivial, trivial⟩, trivial⟩⟩⟩⟩⟩, trivial⟩⟩⟩⟩
theorem fg_is_some_answer {fd : FuncData} (F : FunD K "is_some_answer" "is_some_answer" (defArgs s_is_some_answer) (defBody s_is_some_answer) (defScope s_is_some_answer) [] [] (He.ga K "is_some_answer") fd) (h_are_links : CallG P w K mg 4 "are_links" p_are_links.length sp_are_links) (h_is_address : CallG P w K mg 4 "is_address" p_is_address.length sp_is_address) (h_is_between : CallG P w K mg 4 "is_between" p_is_between.length sp_is_between) (h_is_tuple_up_to : CallG P w K mg 4 "is_tuple_up_to" p_is_tuple_up_to.length sp_is_tuple_up_to) (co_MOST_MARK : ConOk K mg "MOST_MARK" (.int (999999))) (fr_isinstance : mg "isinstance" = none) (fr_len : mg "len" = none) (fr_str : mg "str" = none) : ∀ base : Heap, K.In base → base.Ns mainGlobals mg → FnG P w K mg base 5 (He.ga K "is_some_answer") fd p_is_some_answer (liftSp K p_is_some_answer.length sp_is_some_answer) := fng_core c_is_some_answer F sc_is_some_answer ck_is_some_answer (ok_is_some_answer h_are_links h_is_address h_is_between h_is_tuple_up_to co_MOST_MARK fr_isinstance fr_len fr_str) fun ds M Q _ hs => pl_is_some_answer ds M Q hs
theorem bi_is_some_answer {fd : FuncData} (F : FunD K "is_some_answer" "is_some_answer" (defArgs s_is_some_answer) (defBody s_is_some_answer) (defScope s_is_some_answer) [] [] (He.ga K "is_some_answer") fd) : Binds K fd p_is_some_answer [] := F.bindsN fun _ _ _ _ _ _ us hl => match us, hl with
  | [_], _ => rfl
theorem cg_is_some_answer (hm : mg "is_some_answer" = some (.ref (He.ga K "is_some_answer"))) {fd : FuncData} (F : FunD K "is_some_answer" "is_some_answer" (defArgs s_is_some_answer) (defBody s_is_some_answer) (defScope s_is_some_answer) [] [] (He.ga K "is_some_answer") fd) (h_are_links : CallG P w K mg 4 "are_links" p_are_links.length sp_are_links) (h_is_address : CallG P w K mg 4 "is_address" p_is_address.length sp_is_address) (h_is_between : CallG P w K mg 4 "is_between" p_is_between.length sp_is_between) (h_is_tuple_up_to : CallG P w K mg 4 "is_tuple_up_to" p_is_tuple_up_to.length sp_is_tuple_up_to) (co_MOST_MARK : ConOk K mg "MOST_MARK" (.int (999999))) (fr_isinstance : mg "isinstance" = none) (fr_len : mg "len" = none) (fr_str : mg "str" = none) : CallG P w K mg 5 "is_some_answer" p_is_some_answer.length sp_is_some_answer := ⟨_, fd, p_is_some_answer, rfl, fg_is_some_answer F h_are_links h_is_address h_is_between h_is_tuple_up_to co_MOST_MARK fr_isinstance fr_len fr_str, hm, F.kp, bi_is_some_answer F⟩
theorem ok_journal_of (h_lines_in : CallG P w K mg 5 "lines_in" p_lines_in.length sp_lines_in) : okB (tb P w K mg 5) c_journal_of := ⟨⟨trivial, ⟨⟨h_lines_in, ⟨⟨trivial, trivial⟩, trivial⟩⟩, trivial⟩⟩, trivial⟩
theorem fg_journal_of {fd : FuncData} (F : FunD K "journal_of" "journal_of" (defArgs s_journal_of) (defBody s_journal_of) (defScope s_journal_of) [] [] (He.ga K "journal_of") fd) (h_lines_in : CallG P w K mg 5 "lines_in" p_lines_in.length sp_lines_in) : ∀ base : Heap, K.In base → base.Ns mainGlobals mg → FnG P w K mg base 6 (He.ga K "journal_of") fd p_journal_of (liftSp K p_journal_of.length sp_journal_of) := fng_core c_journal_of F sc_journal_of ck_journal_of (ok_journal_of h_lines_in) fun ds M Q _ hs => pl_journal_of ds M Q hs
theorem bi_journal_of {fd : FuncData} (F : FunD K "journal_of" "journal_of" (defArgs s_journal_of) (defBody s_journal_of) (defScope s_journal_of) [] [] (He.ga K "journal_of") fd) : Binds K fd p_journal_of [] := F.bindsN fun _ _ _ _ _ _ us hl => match us, hl with
  | [_], _ => rfl
theorem cg_journal_of (hm : mg "journal_of" = some (.ref (He.ga K "journal_of"))) {fd : FuncData} (F : FunD K "journal_of" "journal_of" (defArgs s_journal_of) (defBody s_journal_of) (defScope s_journal_of) [] [] (He.ga K "journal_of") fd) (h_lines_in : CallG P w K mg 5 "lines_in" p_lines_in.length sp_lines_in) : CallG P w K mg 6 "journal_of" p_journal_of.length sp_journal_of := ⟨_, fd, p_journal_of, rfl, fg_journal_of F h_lines_in, hm, F.kp, bi_journal_of F⟩
theorem ok_answer_of (h_address_in : CallG P w K mg 5 "address_in" p_address_in.length sp_address_in) (h_is_numeral : CallG P w K mg 5 "is_numeral" p_is_numeral.length sp_is_numeral) (h_is_some_answer : CallG P w K mg 5 "is_some_answer" p_is_some_answer.length sp_is_some_answer) (co_MOST_LINKS : ConOk K mg "MOST_LINKS" (.int (6))) (fr_int : mg "int" = none) (fr_len : mg "len" = none) (fr_tuple : mg "tuple" = none) : okB (tb P w K mg 5) c_answer_of := ⟨⟨⟨trivial, ⟨trivial, trivial⟩⟩, ⟨⟨trivial, trivial⟩, trivial⟩, trivial⟩, ⟨⟨⟨⟨⟨fr_len, ⟨trivial, trivial⟩⟩, trivial⟩, ⟨⟨trivial, trivial⟩, ⟨trivial, ⟨trivial, trivial⟩⟩⟩⟩, ⟨⟨trivial, ⟨⟨trivial, trivial⟩, ⟨⟨h_address_in, ⟨⟨trivial, trivial⟩, trivial⟩⟩, trivial⟩⟩⟩, trivial⟩, ⟨⟨⟨⟨trivial, ⟨fr_len, ⟨trivial, trivial⟩⟩, ⟨co_MOST_LINKS, trivial⟩⟩, ⟨⟨⟨trivial, trivial⟩, trivial⟩, ⟨h_is_numeral, ⟨⟨trivial, trivial⟩, trivial⟩⟩⟩⟩, ⟨⟨trivial, ⟨trivial, ⟨⟨fr_int, ⟨⟨trivial, trivial⟩, trivial⟩⟩, ⟨⟨fr_tuple, ⟨⟨trivial, trivial, trivial⟩, trivial, trivial, ⟨h_address_in, ⟨trivial, trivial⟩⟩⟩⟩, trivial⟩⟩⟩⟩, trivial⟩, ⟨trivial, trivial⟩⟩, trivial⟩⟩, ⟨⟨⟨h_is_some_answer, ⟨trivial, trivial⟩⟩, trivial, trivial⟩, trivial⟩⟩⟩
theorem fg_answer_of {fd : FuncData} (F : FunD K "answer_of" "answer_of" (defArgs s_answer_of) (defBody s_answer_of) (defScope s_answer_of) [] [] (He.ga K "answer_of") fd) (h_address_in : CallG P w K mg 5 "address_in" p_address_in.length sp_address_in) (h_is_numeral : CallG P w K mg 5 "is_numeral" p_is_numeral.length sp_is_numeral) (h_is_some_answer : CallG P w K mg 5 "is_some_answer" p_is_some_answer.length sp_is_some_answer) (co_MOST_LINKS : ConOk K mg "MOST_LINKS" (.int (6))) (fr_int : mg "int" = none) (fr_len : mg "len" = none) (fr_tuple : mg "tuple" = none) : ∀ base : Heap, K.In base → base.Ns mainGlobals mg → FnG P w K mg base 6 (He.ga K "answer_of") fd p_answer_of (liftSp K p_answer_of.length sp_answer_of) := fng_core c_answer_of F sc_answer_of ck_answer_of (ok_answer_of h_address_in h_is_numeral h_is_some_answer co_MOST_LINKS fr_int fr_len fr_tuple) fun ds M Q _ hs => pl_answer_of ds M Q hs
theorem bi_answer_of {fd : FuncData} (F : FunD K "answer_of" "answer_of" (defArgs s_answer_of) (defBody s_answer_of) (defScope s_answer_of) [] [] (He.ga K "answer_of") fd) : Binds K fd p_answer_of [] := F.bindsN fun _ _ _ _ _ _ us hl => match us, hl with
  | [_], _ => rfl
theorem cg_answer_of (hm : mg "answer_of" = some (.ref (He.ga K "answer_of"))) {fd : FuncData} (F : FunD K "answer_of" "answer_of" (defArgs s_answer_of) (defBody s_answer_of) (defScope s_answer_of) [] [] (He.ga K "answer_of") fd) (h_address_in : CallG P w K mg 5 "address_in" p_address_in.length sp_address_in) (h_is_numeral : CallG P w K mg 5 "is_numeral" p_is_numeral.length sp_is_numeral) (h_is_some_answer : CallG P w K mg 5 "is_some_answer" p_is_some_answer.length sp_is_some_answer) (co_MOST_LINKS : ConOk K mg "MOST_LINKS" (.int (6))) (fr_int : mg "int" = none) (fr_len : mg "len" = none) (fr_tuple : mg "tuple" = none) : CallG P w K mg 6 "answer_of" p_answer_of.length sp_answer_of := ⟨_, fd, p_answer_of, rfl, fg_answer_of F h_address_in h_is_numeral h_is_some_answer co_MOST_LINKS fr_int fr_len fr_tuple, hm, F.kp, bi_answer_of F⟩
theorem ok_is_some_event (h_is_some_answer : CallG P w K mg 5 "is_some_answer" p_is_some_answer.length sp_is_some_answer) (h_is_tuple_up_to : CallG P w K mg 5 "is_tuple_up_to" p_is_tuple_up_to.length sp_is_tuple_up_to) (fr_isinstance : mg "isinstance" = none) (fr_len : mg "len" = none) (fr_str : mg "str" = none) : okB (tb P w K mg 5) c_is_some_event := ⟨⟨⟨⟨h_is_tuple_up_to, ⟨trivial, ⟨trivial, ⟨trivial, trivial⟩⟩⟩⟩, ⟨fr_isinstance, fr_str, ⟨trivial, trivial⟩⟩⟩, ⟨trivial, trivial⟩, trivial⟩, ⟨⟨⟨⟨⟨fr_len, ⟨trivial, trivial⟩⟩, trivial⟩, ⟨⟨trivial, trivial⟩, ⟨trivial, ⟨trivial, ⟨trivial, trivial⟩⟩⟩⟩⟩, ⟨h_is_some_answer, ⟨trivial, trivial⟩⟩⟩, trivial⟩⟩
theorem fg_is_some_event {fd : FuncData} (F : FunD K "is_some_event" "is_some_event" (defArgs s_is_some_event) (defBody s_is_some_event) (defScope s_is_some_event) [] [] (He.ga K "is_some_event") fd) (h_is_some_answer : CallG P w K mg 5 "is_some_answer" p_is_some_answer.length sp_is_some_answer) (h_is_tuple_up_to : CallG P w K mg 5 "is_tuple_up_to" p_is_tuple_up_to.length sp_is_tuple_up_to) (fr_isinstance : mg "isinstance" = none) (fr_len : mg "len" = none) (fr_str : mg "str" = none) : ∀ base : Heap, K.In base → base.Ns mainGlobals mg → FnG P w K mg base 6 (He.ga K "is_some_event") fd p_is_some_event (liftSp K p_is_some_event.length sp_is_some_event) := fng_core c_is_some_event F sc_is_some_event ck_is_some_event (ok_is_some_event h_is_some_answer h_is_tuple_up_to fr_isinstance fr_len fr_str) fun ds M Q _ hs => pl_is_some_event ds M Q hs
theorem bi_is_some_event {fd : FuncData} (F : FunD K "is_some_event" "is_some_event" (defArgs s_is_some_event) (defBody s_is_some_event) (defScope s_is_some_event) [] [] (He.ga K "is_some_event") fd) : Binds K fd p_is_some_event [] := F.bindsN fun _ _ _ _ _ _ us hl => match us, hl with
  | [_], _ => rfl
theorem cg_is_some_event (hm : mg "is_some_event" = some (.ref (He.ga K "is_some_event"))) {fd : FuncData} (F : FunD K "is_some_event" "is_some_event" (defArgs s_is_some_event) (defBody s_is_some_event) (defScope s_is_some_event) [] [] (He.ga K "is_some_event") fd) (h_is_some_answer : CallG P w K mg 5 "is_some_answer" p_is_some_answer.length sp_is_some_answer) (h_is_tuple_up_to : CallG P w K mg 5 "is_tuple_up_to" p_is_tuple_up_to.length sp_is_tuple_up_to) (fr_isinstance : mg "isinstance" = none) (fr_len : mg "len" = none) (fr_str : mg "str" = none) : CallG P w K mg 6 "is_some_event" p_is_some_event.length sp_is_some_event := ⟨_, fd, p_is_some_event, rfl, fg_is_some_event F h_is_some_answer h_is_tuple_up_to fr_isinstance fr_len fr_str, hm, F.kp, bi_is_some_event F⟩
theorem ok_event_of (h_answer_of : CallG P w K mg 6 "answer_of" p_answer_of.length sp_answer_of) (fr_len : mg "len" = none) : okB (tb P w K mg 6) c_event_of := ⟨⟨⟨⟨⟨fr_len, ⟨trivial, trivial⟩⟩, trivial⟩, ⟨⟨trivial, trivial⟩, ⟨trivial, ⟨trivial, ⟨trivial, trivial⟩⟩⟩⟩⟩, ⟨⟨⟨trivial, trivial⟩, trivial⟩, trivial⟩, trivial⟩, ⟨⟨h_answer_of, ⟨trivial, trivial⟩⟩, trivial⟩⟩
theorem fg_event_of {fd : FuncData} (F : FunD K "event_of" "event_of" (defArgs s_event_of) (defBody s_event_of) (defScope s_event_of) [] [] (He.ga K "event_of") fd) (h_answer_of : CallG P w K mg 6 "answer_of" p_answer_of.length sp_answer_of) (fr_len : mg "len" = none) : ∀ base : Heap, K.In base → base.Ns mainGlobals mg → FnG P w K mg base 7 (He.ga K "event_of") fd p_event_of (liftSp K p_event_of.length sp_event_of) := fng_core c_event_of F sc_event_of ck_event_of (ok_event_of h_answer_of fr_len) fun ds M Q _ hs => pl_event_of ds M Q hs
theorem bi_event_of {fd : FuncData} (F : FunD K "event_of" "event_of" (defArgs s_event_of) (defBody s_event_of) (defScope s_event_of) [] [] (He.ga K "event_of") fd) : Binds K fd p_event_of [] := F.bindsN fun _ _ _ _ _ _ us hl => match us, hl with
  | [_], _ => rfl
theorem cg_event_of (hm : mg "event_of" = some (.ref (He.ga K "event_of"))) {fd : FuncData} (F : FunD K "event_of" "event_of" (defArgs s_event_of) (defBody s_event_of) (defScope s_event_of) [] [] (He.ga K "event_of") fd) (h_answer_of : CallG P w K mg 6 "answer_of" p_answer_of.length sp_answer_of) (fr_len : mg "len" = none) : CallG P w K mg 7 "event_of" p_event_of.length sp_event_of := ⟨_, fd, p_event_of, rfl, fg_event_of F h_answer_of fr_len, hm, F.kp, bi_event_of F⟩
theorem ok_is_some_row (h_is_address : CallG P w K mg 6 "is_address" p_is_address.length sp_is_address) (h_is_moment : CallG P w K mg 6 "is_moment" p_is_moment.length sp_is_moment) (h_is_some_event : CallG P w K mg 6 "is_some_event" p_is_some_event.length sp_is_some_event) (h_is_tuple_up_to : CallG P w K mg 6 "is_tuple_up_to" p_is_tuple_up_to.length sp_is_tuple_up_to) : okB (tb P w K mg 6) c_is_some_row := ⟨⟨⟨h_is_tuple_up_to, ⟨trivial, ⟨trivial, ⟨trivial, trivial⟩⟩⟩⟩, ⟨trivial, trivial⟩, trivial⟩, ⟨⟨⟨h_is_moment, ⟨⟨trivial, trivial⟩, trivial⟩⟩, ⟨⟨h_is_address, ⟨⟨trivial, trivial⟩, trivial⟩⟩, ⟨h_is_some_event, ⟨⟨trivial, trivial⟩, trivial⟩⟩⟩⟩, trivial⟩⟩
theorem fg_is_some_row {fd : FuncData} (F : FunD K "is_some_row" "is_some_row" (defArgs s_is_some_row) (defBody s_is_some_row) (defScope s_is_some_row) [] [] (He.ga K "is_some_row") fd) (h_is_address : CallG P w K mg 6 "is_address" p_is_address.length sp_is_address) (h_is_moment : CallG P w K mg 6 "is_moment" p_is_moment.length sp_is_moment) (h_is_some_event : CallG P w K mg 6 "is_some_event" p_is_some_event.length sp_is_some_event) (h_is_tuple_up_to : CallG P w K mg 6 "is_tuple_up_to" p_is_tuple_up_to.length sp_is_tuple_up_to) : ∀ base : Heap, K.In base → base.Ns mainGlobals mg → FnG P w K mg base 7 (He.ga K "is_some_row") fd p_is_some_row (liftSp K p_is_some_row.length sp_is_some_row) := fng_core c_is_some_row F sc_is_some_row ck_is_some_row (ok_is_some_row h_is_address h_is_moment h_is_some_event h_is_tuple_up_to) fun ds M Q _ hs => pl_is_some_row ds M Q hs
theorem bi_is_some_row {fd : FuncData} (F : FunD K "is_some_row" "is_some_row" (defArgs s_is_some_row) (defBody s_is_some_row) (defScope s_is_some_row) [] [] (He.ga K "is_some_row") fd) : Binds K fd p_is_some_row [] := F.bindsN fun _ _ _ _ _ _ us hl => match us, hl with
  | [_], _ => rfl
theorem cg_is_some_row (hm : mg "is_some_row" = some (.ref (He.ga K "is_some_row"))) {fd : FuncData} (F : FunD K "is_some_row" "is_some_row" (defArgs s_is_some_row) (defBody s_is_some_row) (defScope s_is_some_row) [] [] (He.ga K "is_some_row") fd) (h_is_address : CallG P w K mg 6 "is_address" p_is_address.length sp_is_address) (h_is_moment : CallG P w K mg 6 "is_moment" p_is_moment.length sp_is_moment) (h_is_some_event : CallG P w K mg 6 "is_some_event" p_is_some_event.length sp_is_some_event) (h_is_tuple_up_to : CallG P w K mg 6 "is_tuple_up_to" p_is_tuple_up_to.length sp_is_tuple_up_to) : CallG P w K mg 7 "is_some_row" p_is_some_row.length sp_is_some_row := ⟨_, fd, p_is_some_row, rfl, fg_is_some_row F h_is_address h_is_moment h_is_some_event h_is_tuple_up_to, hm, F.kp, bi_is_some_row F⟩
theorem ok_row_in (h_address_in : CallG P w K mg 7 "address_in" p_address_in.length sp_address_in) (h_event_of : CallG P w K mg 7 "event_of" p_event_of.length sp_event_of) (h_is_numeral : CallG P w K mg 7 "is_numeral" p_is_numeral.length sp_is_numeral) (fr_int : mg "int" = none) (fr_len : mg "len" = none) : okB (tb P w K mg 7) c_row_in := ⟨⟨trivial, ⟨trivial, ⟨trivial, trivial⟩⟩⟩, ⟨⟨⟨⟨⟨fr_len, ⟨trivial, trivial⟩⟩, trivial⟩, ⟨h_is_numeral, ⟨⟨trivial, trivial⟩, trivial⟩⟩⟩, ⟨trivial, trivial⟩, trivial⟩, ⟨⟨trivial, ⟨h_address_in, ⟨⟨trivial, trivial⟩, trivial⟩⟩⟩, ⟨⟨trivial, ⟨h_event_of, ⟨⟨⟨⟨trivial, trivial⟩, trivial⟩, ⟨trivial, trivial, trivial⟩⟩, trivial⟩⟩⟩, ⟨⟨⟨⟨trivial, trivial⟩, ⟨trivial, trivial⟩⟩, trivial, ⟨⟨fr_int, ⟨⟨trivial, trivial⟩, trivial⟩⟩, ⟨trivial, ⟨trivial, trivial⟩⟩⟩⟩, trivial⟩⟩⟩⟩⟩
theorem fg_row_in {fd : FuncData} (F : FunD K "row_in" "row_in" (defArgs s_row_in) (defBody s_row_in) (defScope s_row_in) [] [] (He.ga K "row_in") fd) (h_address_in : CallG P w K mg 7 "address_in" p_address_in.length sp_address_in) (h_event_of : CallG P w K mg 7 "event_of" p_event_of.length sp_event_of) (h_is_numeral : CallG P w K mg 7 "is_numeral" p_is_numeral.length sp_is_numeral) (fr_int : mg "int" = none) (fr_len : mg "len" = none) : ∀ base : Heap, K.In base → base.Ns mainGlobals mg → FnG P w K mg base 8 (He.ga K "row_in") fd p_row_in (liftSp K p_row_in.length sp_row_in) := fng_core c_row_in F sc_row_in ck_row_in (ok_row_in h_address_in h_event_of h_is_numeral fr_int fr_len) fun ds M Q _ hs => pl_row_in ds M Q hs
theorem bi_row_in {fd : FuncData} (F : FunD K "row_in" "row_in" (defArgs s_row_in) (defBody s_row_in) (defScope s_row_in) [] [] (He.ga K "row_in") fd) : Binds K fd p_row_in [] := F.bindsN fun _ _ _ _ _ _ us hl => match us, hl with
  | [_], _ => rfl
theorem cg_row_in (hm : mg "row_in" = some (.ref (He.ga K "row_in"))) {fd : FuncData} (F : FunD K "row_in" "row_in" (defArgs s_row_in) (defBody s_row_in) (defScope s_row_in) [] [] (He.ga K "row_in") fd) (h_address_in : CallG P w K mg 7 "address_in" p_address_in.length sp_address_in) (h_event_of : CallG P w K mg 7 "event_of" p_event_of.length sp_event_of) (h_is_numeral : CallG P w K mg 7 "is_numeral" p_is_numeral.length sp_is_numeral) (fr_int : mg "int" = none) (fr_len : mg "len" = none) : CallG P w K mg 8 "row_in" p_row_in.length sp_row_in := ⟨_, fd, p_row_in, rfl, fg_row_in F h_address_in h_event_of h_is_numeral fr_int fr_len, hm, F.kp, bi_row_in F⟩
theorem ok_check_log (h_is_some_row : CallG P w K mg 7 "is_some_row" p_is_some_row.length sp_is_some_row) (fr_enumerate : mg "enumerate" = none) (fr_isinstance : mg "isinstance" = none) (fr_tuple : mg "tuple" = none) : okB (tb P w K mg 7) c_check_log := ⟨⟨⟨fr_isinstance, fr_tuple, trivial⟩, ⟨trivial, trivial⟩, trivial⟩, ⟨⟨⟨trivial, ⟨trivial, trivial⟩⟩, ⟨fr_enumerate, trivial⟩, ⟨⟨⟨h_is_some_row, ⟨trivial, trivial⟩⟩, ⟨trivial, trivial⟩, trivial⟩, trivial⟩⟩, trivial⟩⟩
theorem fg_check_log {fd : FuncData} (F : FunD K "check_log" "check_log" (defArgs s_check_log) (defBody s_check_log) (defScope s_check_log) [] [] (He.ga K "check_log") fd) (h_is_some_row : CallG P w K mg 7 "is_some_row" p_is_some_row.length sp_is_some_row) (fr_enumerate : mg "enumerate" = none) (fr_isinstance : mg "isinstance" = none) (fr_tuple : mg "tuple" = none) : ∀ base : Heap, K.In base → base.Ns mainGlobals mg → FnG P w K mg base 8 (He.ga K "check_log") fd p_check_log (liftSp K p_check_log.length sp_check_log) := fng_core c_check_log F sc_check_log ck_check_log (ok_check_log h_is_some_row fr_enumerate fr_isinstance fr_tuple) fun ds M Q _ hs => pl_check_log ds M Q hs
theorem bi_check_log {fd : FuncData} (F : FunD K "check_log" "check_log" (defArgs s_check_log) (defBody s_check_log) (defScope s_check_log) [] [] (He.ga K "check_log") fd) : Binds K fd p_check_log [] := F.bindsN fun _ _ _ _ _ _ us hl => match us, hl with
  | [_], _ => rfl
theorem cg_check_log (hm : mg "check_log" = some (.ref (He.ga K "check_log"))) {fd : FuncData} (F : FunD K "check_log" "check_log" (defArgs s_check_log) (defBody s_check_log) (defScope s_check_log) [] [] (He.ga K "check_log") fd) (h_is_some_row : CallG P w K mg 7 "is_some_row" p_is_some_row.length sp_is_some_row) (fr_enumerate : mg "enumerate" = none) (fr_isinstance : mg "isinstance" = none) (fr_tuple : mg "tuple" = none) : CallG P w K mg 8 "check_log" p_check_log.length sp_check_log := ⟨_, fd, p_check_log, rfl, fg_check_log F h_is_some_row fr_enumerate fr_isinstance fr_tuple, hm, F.kp, bi_check_log F⟩
theorem ok_row_at (h_row_in : CallG P w K mg 8 "row_in" p_row_in.length sp_row_in) (h_seal_in : CallG P w K mg 8 "seal_in" p_seal_in.length sp_seal_in) (fr_str : mg "str" = none) : okB (tb P w K mg 8) c_row_at := ⟨⟨⟨trivial, ⟨trivial, ⟨trivial, trivial⟩⟩⟩, ⟨trivial, ⟨trivial, trivial⟩⟩⟩, ⟨⟨⟨trivial, ⟨fr_str, ⟨⟨h_seal_in, ⟨trivial, trivial⟩⟩, trivial⟩⟩⟩, ⟨trivial, trivial⟩, trivial⟩, ⟨⟨⟨trivial, ⟨trivial, ⟨trivial, trivial⟩⟩⟩, ⟨trivial, ⟨trivial, trivial⟩⟩⟩, ⟨⟨⟨trivial, ⟨fr_str, ⟨trivial, trivial⟩⟩⟩, ⟨h_row_in, ⟨trivial, trivial⟩⟩, trivial⟩, trivial⟩⟩⟩⟩
theorem fg_row_at {fd : FuncData} (F : FunD K "row_at" "row_at" (defArgs s_row_at) (defBody s_row_at) (defScope s_row_at) [] [] (He.ga K "row_at") fd) (h_row_in : CallG P w K mg 8 "row_in" p_row_in.length sp_row_in) (h_seal_in : CallG P w K mg 8 "seal_in" p_seal_in.length sp_seal_in) (fr_str : mg "str" = none) : ∀ base : Heap, K.In base → base.Ns mainGlobals mg → FnG P w K mg base 9 (He.ga K "row_at") fd p_row_at (liftSp K p_row_at.length sp_row_at) := fng_core c_row_at F sc_row_at ck_row_at (ok_row_at h_row_in h_seal_in fr_str) fun ds M Q _ hs => pl_row_at ds M Q hs
theorem bi_row_at {fd : FuncData} (F : FunD K "row_at" "row_at" (defArgs s_row_at) (defBody s_row_at) (defScope s_row_at) [] [] (He.ga K "row_at") fd) : Binds K fd p_row_at [] := F.bindsN fun _ _ _ _ _ _ us hl => match us, hl with
  | [_, _], _ => rfl
theorem cg_row_at (hm : mg "row_at" = some (.ref (He.ga K "row_at"))) {fd : FuncData} (F : FunD K "row_at" "row_at" (defArgs s_row_at) (defBody s_row_at) (defScope s_row_at) [] [] (He.ga K "row_at") fd) (h_row_in : CallG P w K mg 8 "row_in" p_row_in.length sp_row_in) (h_seal_in : CallG P w K mg 8 "seal_in" p_seal_in.length sp_seal_in) (fr_str : mg "str" = none) : CallG P w K mg 9 "row_at" p_row_at.length sp_row_at := ⟨_, fd, p_row_at, rfl, fg_row_at F h_row_in h_seal_in fr_str, hm, F.kp, bi_row_at F⟩
theorem ok_print_journal (h_check_log : CallG P w K mg 8 "check_log" p_check_log.length sp_check_log) (h_lines_in : CallG P w K mg 8 "lines_in" p_lines_in.length sp_lines_in) : okB (tb P w K mg 8) c_print_journal := ⟨⟨h_check_log, ⟨trivial, trivial⟩⟩, ⟨⟨trivial, ⟨⟨h_lines_in, ⟨trivial, trivial⟩⟩, trivial⟩⟩, trivial⟩⟩
theorem fg_print_journal {fd : FuncData} (F : FunD K "print_journal" "print_journal" (defArgs s_print_journal) (defBody s_print_journal) (defScope s_print_journal) [] [] (He.ga K "print_journal") fd) (h_check_log : CallG P w K mg 8 "check_log" p_check_log.length sp_check_log) (h_lines_in : CallG P w K mg 8 "lines_in" p_lines_in.length sp_lines_in) : ∀ base : Heap, K.In base → base.Ns mainGlobals mg → FnG P w K mg base 9 (He.ga K "print_journal") fd p_print_journal (liftSp K p_print_journal.length sp_print_journal) := fng_core c_print_journal F sc_print_journal ck_print_journal (ok_print_journal h_check_log h_lines_in) fun ds M Q _ hs => pl_print_journal ds M Q hs
theorem bi_print_journal {fd : FuncData} (F : FunD K "print_journal" "print_journal" (defArgs s_print_journal) (defBody s_print_journal) (defScope s_print_journal) [] [] (He.ga K "print_journal") fd) : Binds K fd p_print_journal [] := F.bindsN fun _ _ _ _ _ _ us hl => match us, hl with
  | [_], _ => rfl
theorem cg_print_journal (hm : mg "print_journal" = some (.ref (He.ga K "print_journal"))) {fd : FuncData} (F : FunD K "print_journal" "print_journal" (defArgs s_print_journal) (defBody s_print_journal) (defScope s_print_journal) [] [] (He.ga K "print_journal") fd) (h_check_log : CallG P w K mg 8 "check_log" p_check_log.length sp_check_log) (h_lines_in : CallG P w K mg 8 "lines_in" p_lines_in.length sp_lines_in) : CallG P w K mg 9 "print_journal" p_print_journal.length sp_print_journal := ⟨_, fd, p_print_journal, rfl, fg_print_journal F h_check_log h_lines_in, hm, F.kp, bi_print_journal F⟩
theorem kg_print_journal_log (hm : mg "print_journal" = some (.ref (He.ga K "print_journal"))) {fd : FuncData} (F : FunD K "print_journal" "print_journal" (defArgs s_print_journal) (defBody s_print_journal) (defScope s_print_journal) [] [] (He.ga K "print_journal") fd) (h_check_log : CallG P w K mg 8 "check_log" p_check_log.length sp_check_log) (h_lines_in : CallG P w K mg 8 "lines_in" p_lines_in.length sp_lines_in) : KwG P w K mg 9 "print_journal" 0 p_print_journal kw_print_journal_log := kw_of F hm (fg_print_journal F h_check_log h_lines_in) fun _ _ _ _ _ _ ws hl => match ws, hl with
  | [_], _ => rfl
theorem ok_read_journal (h_row_at : CallG P w K mg 9 "row_at" p_row_at.length sp_row_at) (fr_isinstance : mg "isinstance" = none) (fr_len : mg "len" = none) (fr_range : mg "range" = none) (fr_str : mg "str" = none) (fr_tuple : mg "tuple" = none) : okB (tb P w K mg 9) c_read_journal := ⟨⟨⟨fr_isinstance, fr_str, trivial⟩, ⟨trivial, trivial⟩, trivial⟩, ⟨⟨trivial, ⟨trivial, ⟨trivial, trivial⟩⟩⟩, ⟨⟨trivial, trivial⟩, ⟨⟨trivial, ⟨fr_range, ⟨⟨fr_len, ⟨trivial, trivial⟩⟩, trivial⟩⟩, ⟨⟨trivial, ⟨h_row_at, ⟨⟨trivial, trivial⟩, ⟨trivial, trivial⟩⟩⟩⟩, ⟨⟨⟨trivial, trivial⟩, ⟨trivial, trivial⟩, trivial⟩, ⟨⟨trivial, ⟨trivial, trivial⟩⟩, trivial⟩⟩⟩⟩, ⟨⟨fr_tuple, ⟨trivial, trivial⟩⟩, trivial⟩⟩⟩⟩⟩
theorem fg_read_journal {fd : FuncData} (F : FunD K "read_journal" "read_journal" (defArgs s_read_journal) (defBody s_read_journal) (defScope s_read_journal) [] [] (He.ga K "read_journal") fd) (h_row_at : CallG P w K mg 9 "row_at" p_row_at.length sp_row_at) (fr_isinstance : mg "isinstance" = none) (fr_len : mg "len" = none) (fr_range : mg "range" = none) (fr_str : mg "str" = none) (fr_tuple : mg "tuple" = none) : ∀ base : Heap, K.In base → base.Ns mainGlobals mg → FnG P w K mg base 10 (He.ga K "read_journal") fd p_read_journal (liftSp K p_read_journal.length sp_read_journal) := fng_core c_read_journal F sc_read_journal ck_read_journal (ok_read_journal h_row_at fr_isinstance fr_len fr_range fr_str fr_tuple) fun ds M Q _ hs => pl_read_journal ds M Q hs
theorem bi_read_journal {fd : FuncData} (F : FunD K "read_journal" "read_journal" (defArgs s_read_journal) (defBody s_read_journal) (defScope s_read_journal) [] [] (He.ga K "read_journal") fd) : Binds K fd p_read_journal [] := F.bindsN fun _ _ _ _ _ _ us hl => match us, hl with
  | [_], _ => rfl
theorem cg_read_journal (hm : mg "read_journal" = some (.ref (He.ga K "read_journal"))) {fd : FuncData} (F : FunD K "read_journal" "read_journal" (defArgs s_read_journal) (defBody s_read_journal) (defScope s_read_journal) [] [] (He.ga K "read_journal") fd) (h_row_at : CallG P w K mg 9 "row_at" p_row_at.length sp_row_at) (fr_isinstance : mg "isinstance" = none) (fr_len : mg "len" = none) (fr_range : mg "range" = none) (fr_str : mg "str" = none) (fr_tuple : mg "tuple" = none) : CallG P w K mg 10 "read_journal" p_read_journal.length sp_read_journal := ⟨_, fd, p_read_journal, rfl, fg_read_journal F h_row_at fr_isinstance fr_len fr_range fr_str fr_tuple, hm, F.kp, bi_read_journal F⟩
theorem kg_read_journal_text (hm : mg "read_journal" = some (.ref (He.ga K "read_journal"))) {fd : FuncData} (F : FunD K "read_journal" "read_journal" (defArgs s_read_journal) (defBody s_read_journal) (defScope s_read_journal) [] [] (He.ga K "read_journal") fd) (h_row_at : CallG P w K mg 9 "row_at" p_row_at.length sp_row_at) (fr_isinstance : mg "isinstance" = none) (fr_len : mg "len" = none) (fr_range : mg "range" = none) (fr_str : mg "str" = none) (fr_tuple : mg "tuple" = none) : KwG P w K mg 10 "read_journal" 0 p_read_journal kw_read_journal_text := kw_of F hm (fg_read_journal F h_row_at fr_isinstance fr_len fr_range fr_str fr_tuple) fun _ _ _ _ _ _ ws hl => match ws, hl with
  | [_], _ => rfl
theorem ok__law_right (h__law_loose_rows : CallG P w K mg 10 "_law_loose_rows" p__law_loose_rows.length sp__law_loose_rows) (h__law_name : CallG P w K mg 10 "_law_name" p__law_name.length sp__law_name) (h__law_one : CallG P w K mg 10 "_law_one" p__law_one.length sp__law_one) (h__law_seal : CallG P w K mg 10 "_law_seal" p__law_seal.length sp__law_seal) (h__law_sealed : CallG P w K mg 10 "_law_sealed" p__law_sealed.length sp__law_sealed) (h__law_signs : CallG P w K mg 10 "_law_signs" p__law_signs.length sp__law_signs) (h__law_spots : CallG P w K mg 10 "_law_spots" p__law_spots.length sp__law_spots) (h__law_take : CallG P w K mg 10 "_law_take" p__law_take.length sp__law_take) (h_journal_of : CallG P w K mg 10 "journal_of" p_journal_of.length sp_journal_of) (h_print_journal : CallG P w K mg 10 "print_journal" p_print_journal.length sp_print_journal) (h_read_journal : CallG P w K mg 10 "read_journal" p_read_journal.length sp_read_journal) (h_seal_of : CallG P w K mg 10 "seal_of" p_seal_of.length sp_seal_of) (hk_print_journal_log : KwG P w K mg 10 "print_journal" 0 p_print_journal kw_print_journal_log) (hk_read_journal_text : KwG P w K mg 10 "read_journal" 0 p_read_journal kw_read_journal_text) (hk_seal_of_text : KwG P w K mg 10 "seal_of" 0 p_seal_of kw_seal_of_text) (fr_len : mg "len" = none) (fr_range : mg "range" = none) (fr_repr : mg "repr" = none) : okB (tb P w K mg 10) c__law_right := ⟨⟨trivial, ⟨h__law_spots, ⟨trivial, ⟨⟨⟨h__law_name, ⟨trivial, trivial⟩⟩, ⟨⟨h__law_name, ⟨trivial, trivial⟩⟩, trivial⟩⟩, trivial⟩⟩⟩⟩, ⟨⟨trivial, ⟨h__law_signs, ⟨trivial, ⟨⟨h__law_one, ⟨trivial, ⟨⟨trivial, ⟨trivial, ⟨trivial, ⟨trivial, ⟨trivial, ⟨trivial, trivial⟩⟩⟩⟩⟩⟩, trivial⟩⟩⟩, trivial⟩⟩⟩⟩, ⟨⟨⟨⟨fr_repr, ⟨⟨⟨h_seal_of, ⟨trivial, trivial⟩⟩, ⟨⟨hk_seal_of_text, trivial, ⟨⟨trivial, trivial⟩, trivial⟩⟩, trivial⟩⟩, trivial⟩⟩, ⟨fr_repr, ⟨⟨⟨h__law_seal, ⟨trivial, trivial⟩⟩, ⟨⟨h__law_seal, ⟨⟨trivial, trivial⟩, trivial⟩⟩, trivial⟩⟩, trivial⟩⟩⟩, ⟨trivial, trivial⟩, trivial⟩, ⟨⟨trivial, ⟨h__law_loose_rows, ⟨trivial, ⟨trivial, ⟨⟨h__law_one, ⟨trivial, ⟨⟨trivial, ⟨trivial, ⟨trivial, ⟨trivial, ⟨trivial, trivial⟩⟩⟩⟩⟩, trivial⟩⟩⟩, trivial⟩⟩⟩⟩⟩, ⟨⟨trivial, ⟨trivial, ⟨⟨fr_range, ⟨fr_len, ⟨trivial, trivial⟩⟩⟩, trivial, trivial, ⟨h__law_sealed, ⟨trivial, ⟨⟨trivial, trivial⟩, trivial⟩⟩⟩⟩⟩⟩, ⟨⟨⟨⟨fr_repr, ⟨⟨⟨h_print_journal, ⟨trivial, trivial⟩⟩, ⟨⟨hk_print_journal_log, trivial, ⟨trivial, trivial⟩⟩, trivial⟩⟩, trivial⟩⟩, ⟨fr_repr, ⟨⟨trivial, ⟨trivial, trivial⟩⟩, trivial⟩⟩⟩, ⟨trivial, trivial⟩, trivial⟩, ⟨⟨trivial, ⟨h__law_sealed, ⟨⟨fr_len, ⟨trivial, trivial⟩⟩, ⟨⟨⟨h__law_loose_rows, ⟨trivial, ⟨trivial, ⟨trivial, trivial⟩⟩⟩⟩, trivial⟩, trivial⟩⟩⟩⟩, ⟨⟨trivial, ⟨h__law_one, ⟨trivial, ⟨⟨trivial, ⟨trivial, ⟨⟨trivial, trivial, ⟨h__law_take, ⟨trivial, ⟨⟨fr_len, ⟨trivial, trivial⟩⟩, trivial⟩⟩⟩⟩, ⟨⟨trivial, trivial, trivial⟩, trivial⟩⟩⟩⟩, trivial⟩⟩⟩⟩, ⟨⟨⟨⟨fr_repr, ⟨⟨⟨h_read_journal, ⟨trivial, trivial⟩⟩, ⟨⟨hk_read_journal_text, trivial, ⟨⟨trivial, trivial⟩, trivial⟩⟩, trivial⟩⟩, trivial⟩⟩, ⟨fr_repr, ⟨⟨trivial, ⟨trivial, trivial⟩⟩, trivial⟩⟩⟩, ⟨trivial, trivial⟩, trivial⟩, ⟨⟨⟨⟨fr_repr, ⟨⟨⟨h_read_journal, ⟨trivial, trivial⟩⟩, ⟨⟨h_seal_of, ⟨trivial, trivial⟩⟩, trivial⟩⟩, trivial⟩⟩, ⟨fr_repr, ⟨⟨trivial, ⟨⟨h__law_seal, ⟨trivial, trivial⟩⟩, trivial⟩⟩, trivial⟩⟩⟩, ⟨trivial, trivial⟩, trivial⟩, ⟨⟨⟨trivial, ⟨h__law_take, ⟨trivial, ⟨trivial, trivial⟩⟩⟩⟩, ⟨⟨trivial, trivial⟩, trivial⟩⟩, ⟨⟨trivial, ⟨⟨trivial, ⟨⟨trivial, trivial⟩, ⟨⟨trivial, trivial⟩, trivial⟩⟩⟩, ⟨⟨⟨trivial, trivial⟩, ⟨⟨trivial, trivial⟩, ⟨⟨trivial, trivial⟩, trivial⟩⟩⟩, trivial⟩⟩⟩, ⟨⟨trivial, ⟨⟨⟨trivial, ⟨trivial, ⟨trivial, ⟨trivial, ⟨trivial, trivial⟩⟩⟩⟩⟩, trivial⟩, ⟨⟨trivial, ⟨⟨⟨trivial, trivial⟩, trivial⟩, ⟨trivial, ⟨trivial, ⟨trivial, trivial⟩⟩⟩⟩⟩, ⟨trivial, ⟨⟨trivial, trivial⟩, trivial⟩⟩⟩⟩⟩, ⟨⟨⟨fr_repr, ⟨⟨h_journal_of, ⟨trivial, trivial⟩⟩, trivial⟩⟩, ⟨fr_repr, ⟨⟨⟨h__law_sealed, ⟨trivial, ⟨⟨trivial, trivial⟩, trivial⟩⟩⟩, ⟨h__law_sealed, ⟨trivial, ⟨⟨trivial, trivial⟩, trivial⟩⟩⟩⟩, trivial⟩⟩⟩, trivial⟩⟩⟩⟩⟩⟩⟩⟩⟩⟩⟩⟩⟩⟩
theorem fg__law_right {fd : FuncData} (F : FunD K "_law_right" "_law_right" (defArgs s__law_right) (defBody s__law_right) (defScope s__law_right) [] [] (He.ga K "_law_right") fd) (h__law_loose_rows : CallG P w K mg 10 "_law_loose_rows" p__law_loose_rows.length sp__law_loose_rows) (h__law_name : CallG P w K mg 10 "_law_name" p__law_name.length sp__law_name) (h__law_one : CallG P w K mg 10 "_law_one" p__law_one.length sp__law_one) (h__law_seal : CallG P w K mg 10 "_law_seal" p__law_seal.length sp__law_seal) (h__law_sealed : CallG P w K mg 10 "_law_sealed" p__law_sealed.length sp__law_sealed) (h__law_signs : CallG P w K mg 10 "_law_signs" p__law_signs.length sp__law_signs) (h__law_spots : CallG P w K mg 10 "_law_spots" p__law_spots.length sp__law_spots) (h__law_take : CallG P w K mg 10 "_law_take" p__law_take.length sp__law_take) (h_journal_of : CallG P w K mg 10 "journal_of" p_journal_of.length sp_journal_of) (h_print_journal : CallG P w K mg 10 "print_journal" p_print_journal.length sp_print_journal) (h_read_journal : CallG P w K mg 10 "read_journal" p_read_journal.length sp_read_journal) (h_seal_of : CallG P w K mg 10 "seal_of" p_seal_of.length sp_seal_of) (hk_print_journal_log : KwG P w K mg 10 "print_journal" 0 p_print_journal kw_print_journal_log) (hk_read_journal_text : KwG P w K mg 10 "read_journal" 0 p_read_journal kw_read_journal_text) (hk_seal_of_text : KwG P w K mg 10 "seal_of" 0 p_seal_of kw_seal_of_text) (fr_len : mg "len" = none) (fr_range : mg "range" = none) (fr_repr : mg "repr" = none) : ∀ base : Heap, K.In base → base.Ns mainGlobals mg → FnG P w K mg base 11 (He.ga K "_law_right") fd p__law_right (liftSp K p__law_right.length sp__law_right) := fng_core c__law_right F sc__law_right ck__law_right (ok__law_right h__law_loose_rows h__law_name h__law_one h__law_seal h__law_sealed h__law_signs h__law_spots h__law_take h_journal_of h_print_journal h_read_journal h_seal_of hk_print_journal_log hk_read_journal_text hk_seal_of_text fr_len fr_range fr_repr) fun ds M Q _ hs => pl__law_right ds M Q hs
theorem bi__law_right {fd : FuncData} (F : FunD K "_law_right" "_law_right" (defArgs s__law_right) (defBody s__law_right) (defScope s__law_right) [] [] (He.ga K "_law_right") fd) : Binds K fd p__law_right [] := F.bindsN fun _ _ _ _ _ _ us hl => match us, hl with
  | [_], _ => rfl
theorem cg__law_right (hm : mg "_law_right" = some (.ref (He.ga K "_law_right"))) {fd : FuncData} (F : FunD K "_law_right" "_law_right" (defArgs s__law_right) (defBody s__law_right) (defScope s__law_right) [] [] (He.ga K "_law_right") fd) (h__law_loose_rows : CallG P w K mg 10 "_law_loose_rows" p__law_loose_rows.length sp__law_loose_rows) (h__law_name : CallG P w K mg 10 "_law_name" p__law_name.length sp__law_name) (h__law_one : CallG P w K mg 10 "_law_one" p__law_one.length sp__law_one) (h__law_seal : CallG P w K mg 10 "_law_seal" p__law_seal.length sp__law_seal) (h__law_sealed : CallG P w K mg 10 "_law_sealed" p__law_sealed.length sp__law_sealed) (h__law_signs : CallG P w K mg 10 "_law_signs" p__law_signs.length sp__law_signs) (h__law_spots : CallG P w K mg 10 "_law_spots" p__law_spots.length sp__law_spots) (h__law_take : CallG P w K mg 10 "_law_take" p__law_take.length sp__law_take) (h_journal_of : CallG P w K mg 10 "journal_of" p_journal_of.length sp_journal_of) (h_print_journal : CallG P w K mg 10 "print_journal" p_print_journal.length sp_print_journal) (h_read_journal : CallG P w K mg 10 "read_journal" p_read_journal.length sp_read_journal) (h_seal_of : CallG P w K mg 10 "seal_of" p_seal_of.length sp_seal_of) (hk_print_journal_log : KwG P w K mg 10 "print_journal" 0 p_print_journal kw_print_journal_log) (hk_read_journal_text : KwG P w K mg 10 "read_journal" 0 p_read_journal kw_read_journal_text) (hk_seal_of_text : KwG P w K mg 10 "seal_of" 0 p_seal_of kw_seal_of_text) (fr_len : mg "len" = none) (fr_range : mg "range" = none) (fr_repr : mg "repr" = none) : CallG P w K mg 11 "_law_right" p__law_right.length sp__law_right := ⟨_, fd, p__law_right, rfl, fg__law_right F h__law_loose_rows h__law_name h__law_one h__law_seal h__law_sealed h__law_signs h__law_spots h__law_take h_journal_of h_print_journal h_read_journal h_seal_of hk_print_journal_log hk_read_journal_text hk_seal_of_text fr_len fr_range fr_repr, hm, F.kp, bi__law_right F⟩
theorem ok_law (h__law_right : CallG P w K mg 11 "_law_right" p__law_right.length sp__law_right) (h__law_well : CallG P w K mg 11 "_law_well" p__law_well.length sp__law_well) (fr_all : mg "all" = none) (fr_len : mg "len" = none) (fr_max : mg "max" = none) (fr_min : mg "min" = none) (fr_range : mg "range" = none) : okB (tb P w K mg 11) c_law := ⟨⟨fr_all, ⟨⟨fr_range, ⟨fr_max, ⟨trivial, ⟨⟨fr_min, ⟨⟨fr_len, ⟨trivial, trivial⟩⟩, ⟨trivial, trivial⟩⟩⟩, trivial⟩⟩⟩⟩, trivial, trivial, ⟨h__law_right, ⟨⟨h__law_well, ⟨trivial, ⟨trivial, trivial⟩⟩⟩, trivial⟩⟩⟩⟩, trivial⟩
theorem fg_law {fd : FuncData} (F : FunD K "law" "law" (defArgs s_law) (defBody s_law) (defScope s_law) [] [] (He.ga K "law") fd) (h__law_right : CallG P w K mg 11 "_law_right" p__law_right.length sp__law_right) (h__law_well : CallG P w K mg 11 "_law_well" p__law_well.length sp__law_well) (fr_all : mg "all" = none) (fr_len : mg "len" = none) (fr_max : mg "max" = none) (fr_min : mg "min" = none) (fr_range : mg "range" = none) : ∀ base : Heap, K.In base → base.Ns mainGlobals mg → FnG P w K mg base 12 (He.ga K "law") fd p_law (liftSp K p_law.length sp_law) := fng_core c_law F sc_law ck_law (ok_law h__law_right h__law_well fr_all fr_len fr_max fr_min fr_range) fun ds M Q _ hs => pl_law ds M Q hs
theorem bi_law {fd : FuncData} (F : FunD K "law" "law" (defArgs s_law) (defBody s_law) (defScope s_law) [] [] (He.ga K "law") fd) : Binds K fd p_law [] := F.bindsN fun _ _ _ _ _ _ us hl => match us, hl with
  | [_], _ => rfl
theorem cg_law (hm : mg "law" = some (.ref (He.ga K "law"))) {fd : FuncData} (F : FunD K "law" "law" (defArgs s_law) (defBody s_law) (defScope s_law) [] [] (He.ga K "law") fd) (h__law_right : CallG P w K mg 11 "_law_right" p__law_right.length sp__law_right) (h__law_well : CallG P w K mg 11 "_law_well" p__law_well.length sp__law_well) (fr_all : mg "all" = none) (fr_len : mg "len" = none) (fr_max : mg "max" = none) (fr_min : mg "min" = none) (fr_range : mg "range" = none) : CallG P w K mg 12 "law" p_law.length sp_law := ⟨_, fd, p_law, rfl, fg_law F h__law_right h__law_well fr_all fr_len fr_max fr_min fr_range, hm, F.kp, bi_law F⟩
theorem con_int {x : Str} {i : Int} (e : ∃ t, mg x = some (.int i t)) : ConOk K mg x (.int i) := let ⟨t, e⟩ := e; ⟨_, .int i, e, ⟨t, rfl⟩, fun _ => mk_int⟩
theorem con_str {x z : Str} (e : ∃ t, mg x = some (.str z t)) : ConOk K mg x (.str z) := let ⟨t, e⟩ := e; ⟨_, .str z, e, ⟨t, rfl⟩, fun _ => mk_str⟩
theorem facts (X : K.In h) (G : h.Ns mainGlobals mg) {f : Addr} (hfa : mg ("law" : Str) = some (.ref f)) (c : He.SaysD fa fn K) :
    ∃ fd : FuncData, (∀ (s : Shared) (v : Value), BindsTo s fd ⟨[v], []⟩ [("_law_script", v)]) ∧ ∀ base : Heap, K.In base → base.Ns mainGlobals mg → FnG P w K mg base 12 f fd ["_law_script"] (liftSp K 1 sp_law) := by
  have fr_abs := He.free_ok X G (c.fact 43 (f := .free "abs") rfl)
  have fr_all := He.free_ok X G (c.fact 44 (f := .free "all") rfl)
  have fr_bool := He.free_ok X G (c.fact 45 (f := .free "bool") rfl)
  have fr_divmod := He.free_ok X G (c.fact 46 (f := .free "divmod") rfl)
  have fr_enumerate := He.free_ok X G (c.fact 47 (f := .free "enumerate") rfl)
  have fr_int := He.free_ok X G (c.fact 48 (f := .free "int") rfl)
  have fr_isinstance := He.free_ok X G (c.fact 49 (f := .free "isinstance") rfl)
  have fr_len := He.free_ok X G (c.fact 50 (f := .free "len") rfl)
  have fr_max := He.free_ok X G (c.fact 51 (f := .free "max") rfl)
  have fr_min := He.free_ok X G (c.fact 52 (f := .free "min") rfl)
  have fr_ord := He.free_ok X G (c.fact 53 (f := .free "ord") rfl)
  have fr_range := He.free_ok X G (c.fact 54 (f := .free "range") rfl)
  have fr_repr := He.free_ok X G (c.fact 55 (f := .free "repr") rfl)
  have fr_str := He.free_ok X G (c.fact 56 (f := .free "str") rfl)
  have fr_sum := He.free_ok X G (c.fact 57 (f := .free "sum") rfl)
  have fr_tuple := He.free_ok X G (c.fact 58 (f := .free "tuple") rfl)
  have co_DIGITS : ConOk K mg "DIGITS" (.str "0123456789") := con_str (He.str_ok X G (c.fact 59 (f := .str "DIGITS" "0123456789") rfl))
  have co_LETTERS : ConOk K mg "LETTERS" (.str "abcdefghijklmnopqrstuvwxyz") := con_str (He.str_ok X G (c.fact 60 (f := .str "LETTERS" "abcdefghijklmnopqrstuvwxyz") rfl))
  have co_MOST_DIGITS : ConOk K mg "MOST_DIGITS" (.int (12)) := con_int (He.int_ok X G (c.fact 61 (f := .int "MOST_DIGITS" (12)) rfl))
  have co_MOST_LETTERS : ConOk K mg "MOST_LETTERS" (.int (12)) := con_int (He.int_ok X G (c.fact 62 (f := .int "MOST_LETTERS" (12)) rfl))
  have co_MOST_LINKS : ConOk K mg "MOST_LINKS" (.int (6)) := con_int (He.int_ok X G (c.fact 63 (f := .int "MOST_LINKS" (6)) rfl))
  have co_MOST_MARK : ConOk K mg "MOST_MARK" (.int (999999)) := con_int (He.int_ok X G (c.fact 64 (f := .int "MOST_MARK" (999999)) rfl))
  have co_MOST_MOMENT : ConOk K mg "MOST_MOMENT" (.int (999999999999)) := con_int (He.int_ok X G (c.fact 65 (f := .int "MOST_MOMENT" (999999999999)) rfl))
  have co_MOST_SIGNS : ConOk K mg "MOST_SIGNS" (.int (40)) := con_int (He.int_ok X G (c.fact 66 (f := .int "MOST_SIGNS" (40)) rfl))
  have co_SEALS : ConOk K mg "SEALS" (.int (999983)) := con_int (He.int_ok X G (c.fact 67 (f := .int "SEALS" (999983)) rfl))
  have co_SIGNS : ConOk K mg "SIGNS" (.str "-./0123456789_abcdefghijklmnopqrstuvwxyz") := con_str (He.str_ok X G (c.fact 68 (f := .str "SIGNS" "-./0123456789_abcdefghijklmnopqrstuvwxyz") rfl))
  obtain ⟨fd_seal_in, F_seal_in⟩ := c.def_ 0 (d := d_seal_in) rfl
  have g_seal_in := He.glo_ok X G (c.fact 0 (f := .glo "seal_in") rfl)
  have h_seal_in : CallG P w K mg 1 "seal_in" p_seal_in.length sp_seal_in := cg_seal_in g_seal_in F_seal_in co_SEALS fr_enumerate fr_ord fr_sum
  obtain ⟨fd_text_of, F_text_of⟩ := c.def_ 1 (d := d_text_of) rfl
  have g_text_of := He.glo_ok X G (c.fact 1 (f := .glo "text_of") rfl)
  have h_text_of : CallG P w K mg 1 "text_of" p_text_of.length sp_text_of := cg_text_of g_text_of F_text_of 
  obtain ⟨fd__law_seal, F__law_seal⟩ := c.def_ 2 (d := d__law_seal) rfl
  have g__law_seal := He.glo_ok X G (c.fact 2 (f := .glo "_law_seal") rfl)
  have h__law_seal : CallG P w K mg 1 "_law_seal" p__law_seal.length sp__law_seal := cg__law_seal g__law_seal F__law_seal fr_int fr_len fr_ord fr_range
  obtain ⟨fd__law_line, F__law_line⟩ := c.def_ 3 (d := d__law_line) rfl
  have g__law_line := He.glo_ok X G (c.fact 3 (f := .glo "_law_line") rfl)
  have h__law_line : CallG P w K mg 1 "_law_line" p__law_line.length sp__law_line := cg__law_line g__law_line F__law_line fr_len fr_str
  obtain ⟨fd__law_take, F__law_take⟩ := c.def_ 4 (d := d__law_take) rfl
  have g__law_take := He.glo_ok X G (c.fact 4 (f := .glo "_law_take") rfl)
  have h__law_take : CallG P w K mg 1 "_law_take" p__law_take.length sp__law_take := cg__law_take g__law_take F__law_take fr_divmod fr_int
  obtain ⟨fd_is_path, F_is_path⟩ := c.def_ 5 (d := d_is_path) rfl
  have g_is_path := He.glo_ok X G (c.fact 5 (f := .glo "is_path") rfl)
  have h_is_path : CallG P w K mg 1 "is_path" p_is_path.length sp_is_path := cg_is_path g_is_path F_is_path co_SIGNS fr_all fr_isinstance fr_str
  obtain ⟨fd_is_name, F_is_name⟩ := c.def_ 6 (d := d_is_name) rfl
  have g_is_name := He.glo_ok X G (c.fact 6 (f := .glo "is_name") rfl)
  have h_is_name : CallG P w K mg 1 "is_name" p_is_name.length sp_is_name := cg_is_name g_is_name F_is_name co_LETTERS co_MOST_LETTERS fr_all fr_isinstance fr_len fr_str
  obtain ⟨fd_is_tuple_up_to, F_is_tuple_up_to⟩ := c.def_ 7 (d := d_is_tuple_up_to) rfl
  have g_is_tuple_up_to := He.glo_ok X G (c.fact 7 (f := .glo "is_tuple_up_to") rfl)
  have h_is_tuple_up_to : CallG P w K mg 1 "is_tuple_up_to" p_is_tuple_up_to.length sp_is_tuple_up_to := cg_is_tuple_up_to g_is_tuple_up_to F_is_tuple_up_to fr_isinstance fr_len fr_tuple
  obtain ⟨fd_is_whole, F_is_whole⟩ := c.def_ 8 (d := d_is_whole) rfl
  have g_is_whole := He.glo_ok X G (c.fact 8 (f := .glo "is_whole") rfl)
  have h_is_whole : CallG P w K mg 1 "is_whole" p_is_whole.length sp_is_whole := cg_is_whole g_is_whole F_is_whole fr_bool fr_int fr_isinstance
  obtain ⟨fd_is_numeral, F_is_numeral⟩ := c.def_ 9 (d := d_is_numeral) rfl
  have g_is_numeral := He.glo_ok X G (c.fact 9 (f := .glo "is_numeral") rfl)
  have h_is_numeral : CallG P w K mg 1 "is_numeral" p_is_numeral.length sp_is_numeral := cg_is_numeral g_is_numeral F_is_numeral co_DIGITS co_MOST_DIGITS fr_all fr_len
  obtain ⟨fd__law_well, F__law_well⟩ := c.def_ 10 (d := d__law_well) rfl
  have g__law_well := He.glo_ok X G (c.fact 10 (f := .glo "_law_well") rfl)
  have h__law_well : CallG P w K mg 1 "_law_well" p__law_well.length sp__law_well := cg__law_well g__law_well F__law_well fr_abs fr_int fr_len
  obtain ⟨fd_words_behind, F_words_behind⟩ := c.def_ 11 (d := d_words_behind) rfl
  have g_words_behind := He.glo_ok X G (c.fact 11 (f := .glo "words_behind") rfl)
  have h_words_behind : CallG P w K mg 2 "words_behind" p_words_behind.length sp_words_behind := cg_words_behind g_words_behind F_words_behind (h_text_of.mono (by decide)) fr_str
  obtain ⟨fd__law_sealed, F__law_sealed⟩ := c.def_ 12 (d := d__law_sealed) rfl
  have g__law_sealed := He.glo_ok X G (c.fact 12 (f := .glo "_law_sealed") rfl)
  have h__law_sealed : CallG P w K mg 2 "_law_sealed" p__law_sealed.length sp__law_sealed := cg__law_sealed g__law_sealed F__law_sealed (h__law_line.mono (by decide)) (h__law_seal.mono (by decide)) fr_str
  obtain ⟨fd_seal_of, F_seal_of⟩ := c.def_ 13 (d := d_seal_of) rfl
  have g_seal_of := He.glo_ok X G (c.fact 13 (f := .glo "seal_of") rfl)
  have h_seal_of : CallG P w K mg 2 "seal_of" p_seal_of.length sp_seal_of := cg_seal_of g_seal_of F_seal_of (h_seal_in.mono (by decide)) fr_isinstance fr_str
  have hk_seal_of_text : KwG P w K mg 2 "seal_of" 0 p_seal_of kw_seal_of_text := kg_seal_of_text g_seal_of F_seal_of (h_seal_in.mono (by decide)) fr_isinstance fr_str
  obtain ⟨fd_is_short_path, F_is_short_path⟩ := c.def_ 14 (d := d_is_short_path) rfl
  have g_is_short_path := He.glo_ok X G (c.fact 14 (f := .glo "is_short_path") rfl)
  have h_is_short_path : CallG P w K mg 2 "is_short_path" p_is_short_path.length sp_is_short_path := cg_is_short_path g_is_short_path F_is_short_path (h_is_path.mono (by decide)) co_MOST_SIGNS fr_len
  obtain ⟨fd_is_between, F_is_between⟩ := c.def_ 15 (d := d_is_between) rfl
  have g_is_between := He.glo_ok X G (c.fact 15 (f := .glo "is_between") rfl)
  have h_is_between : CallG P w K mg 2 "is_between" p_is_between.length sp_is_between := cg_is_between g_is_between F_is_between (h_is_whole.mono (by decide))
  obtain ⟨fd__law_one, F__law_one⟩ := c.def_ 16 (d := d__law_one) rfl
  have g__law_one := He.glo_ok X G (c.fact 16 (f := .glo "_law_one") rfl)
  have h__law_one : CallG P w K mg 2 "_law_one" p__law_one.length sp__law_one := cg__law_one g__law_one F__law_one (h__law_take.mono (by decide)) fr_len
  obtain ⟨fd_line_of, F_line_of⟩ := c.def_ 17 (d := d_line_of) rfl
  have g_line_of := He.glo_ok X G (c.fact 17 (f := .glo "line_of") rfl)
  have h_line_of : CallG P w K mg 3 "line_of" p_line_of.length sp_line_of := cg_line_of g_line_of F_line_of (h_text_of.mono (by decide)) (h_words_behind.mono (by decide)) fr_str
  obtain ⟨fd_is_address, F_is_address⟩ := c.def_ 18 (d := d_is_address) rfl
  have g_is_address := He.glo_ok X G (c.fact 18 (f := .glo "is_address") rfl)
  have h_is_address : CallG P w K mg 3 "is_address" p_is_address.length sp_is_address := cg_is_address g_is_address F_is_address (h_is_name.mono (by decide)) (h_is_short_path.mono (by decide)) (h_is_tuple_up_to.mono (by decide))
  obtain ⟨fd__law_answer, F__law_answer⟩ := c.def_ 19 (d := d__law_answer) rfl
  have g__law_answer := He.glo_ok X G (c.fact 19 (f := .glo "_law_answer") rfl)
  have h__law_answer : CallG P w K mg 3 "_law_answer" p__law_answer.length sp__law_answer := cg__law_answer g__law_answer F__law_answer (h__law_one.mono (by decide)) (h__law_take.mono (by decide)) fr_range fr_tuple
  obtain ⟨fd_is_moment, F_is_moment⟩ := c.def_ 20 (d := d_is_moment) rfl
  have g_is_moment := He.glo_ok X G (c.fact 20 (f := .glo "is_moment") rfl)
  have h_is_moment : CallG P w K mg 3 "is_moment" p_is_moment.length sp_is_moment := cg_is_moment g_is_moment F_is_moment (h_is_between.mono (by decide)) co_MOST_MOMENT
  obtain ⟨fd__law_signs, F__law_signs⟩ := c.def_ 21 (d := d__law_signs) rfl
  have g__law_signs := He.glo_ok X G (c.fact 21 (f := .glo "_law_signs") rfl)
  have h__law_signs : CallG P w K mg 3 "_law_signs" p__law_signs.length sp__law_signs := cg__law_signs g__law_signs F__law_signs (h__law_one.mono (by decide)) fr_range
  obtain ⟨fd__law_path, F__law_path⟩ := c.def_ 22 (d := d__law_path) rfl
  have g__law_path := He.glo_ok X G (c.fact 22 (f := .glo "_law_path") rfl)
  have h__law_path : CallG P w K mg 3 "_law_path" p__law_path.length sp__law_path := cg__law_path g__law_path F__law_path (h__law_one.mono (by decide)) (h__law_take.mono (by decide)) fr_range
  obtain ⟨fd__law_name, F__law_name⟩ := c.def_ 23 (d := d__law_name) rfl
  have g__law_name := He.glo_ok X G (c.fact 23 (f := .glo "_law_name") rfl)
  have h__law_name : CallG P w K mg 3 "_law_name" p__law_name.length sp__law_name := cg__law_name g__law_name F__law_name (h__law_one.mono (by decide)) fr_range
  obtain ⟨fd_journal_line, F_journal_line⟩ := c.def_ 24 (d := d_journal_line) rfl
  have g_journal_line := He.glo_ok X G (c.fact 24 (f := .glo "journal_line") rfl)
  have h_journal_line : CallG P w K mg 4 "journal_line" p_journal_line.length sp_journal_line := cg_journal_line g_journal_line F_journal_line (h_line_of.mono (by decide)) (h_seal_in.mono (by decide))
  obtain ⟨fd_are_links, F_are_links⟩ := c.def_ 25 (d := d_are_links) rfl
  have g_are_links := He.glo_ok X G (c.fact 25 (f := .glo "are_links") rfl)
  have h_are_links : CallG P w K mg 4 "are_links" p_are_links.length sp_are_links := cg_are_links g_are_links F_are_links (h_is_address.mono (by decide)) (h_is_tuple_up_to.mono (by decide)) co_MOST_LINKS fr_all
  obtain ⟨fd_address_in, F_address_in⟩ := c.def_ 26 (d := d_address_in) rfl
  have g_address_in := He.glo_ok X G (c.fact 26 (f := .glo "address_in") rfl)
  have h_address_in : CallG P w K mg 4 "address_in" p_address_in.length sp_address_in := cg_address_in g_address_in F_address_in (h_is_address.mono (by decide))
  obtain ⟨fd__law_loose_rows, F__law_loose_rows⟩ := c.def_ 27 (d := d__law_loose_rows) rfl
  have g__law_loose_rows := He.glo_ok X G (c.fact 27 (f := .glo "_law_loose_rows") rfl)
  have h__law_loose_rows : CallG P w K mg 4 "_law_loose_rows" p__law_loose_rows.length sp__law_loose_rows := cg__law_loose_rows g__law_loose_rows F__law_loose_rows (h__law_answer.mono (by decide)) (h__law_one.mono (by decide)) (h__law_take.mono (by decide)) fr_range fr_tuple
  obtain ⟨fd__law_spots, F__law_spots⟩ := c.def_ 28 (d := d__law_spots) rfl
  have g__law_spots := He.glo_ok X G (c.fact 28 (f := .glo "_law_spots") rfl)
  have h__law_spots : CallG P w K mg 4 "_law_spots" p__law_spots.length sp__law_spots := cg__law_spots g__law_spots F__law_spots (h__law_one.mono (by decide)) (h__law_path.mono (by decide)) (h__law_take.mono (by decide)) fr_range
  obtain ⟨fd_lines_in, F_lines_in⟩ := c.def_ 29 (d := d_lines_in) rfl
  have g_lines_in := He.glo_ok X G (c.fact 29 (f := .glo "lines_in") rfl)
  have h_lines_in : CallG P w K mg 5 "lines_in" p_lines_in.length sp_lines_in := cg_lines_in g_lines_in F_lines_in (h_journal_line.mono (by decide)) fr_enumerate
  obtain ⟨fd_is_some_answer, F_is_some_answer⟩ := c.def_ 30 (d := d_is_some_answer) rfl
  have g_is_some_answer := He.glo_ok X G (c.fact 30 (f := .glo "is_some_answer") rfl)
  have h_is_some_answer : CallG P w K mg 5 "is_some_answer" p_is_some_answer.length sp_is_some_answer := cg_is_some_answer g_is_some_answer F_is_some_answer (h_are_links.mono (by decide)) (h_is_address.mono (by decide)) (h_is_between.mono (by decide)) (h_is_tuple_up_to.mono (by decide)) co_MOST_MARK fr_isinstance fr_len fr_str
  obtain ⟨fd_journal_of, F_journal_of⟩ := c.def_ 31 (d := d_journal_of) rfl
  have g_journal_of := He.glo_ok X G (c.fact 31 (f := .glo "journal_of") rfl)
  have h_journal_of : CallG P w K mg 6 "journal_of" p_journal_of.length sp_journal_of := cg_journal_of g_journal_of F_journal_of (h_lines_in.mono (by decide))
  obtain ⟨fd_answer_of, F_answer_of⟩ := c.def_ 32 (d := d_answer_of) rfl
  have g_answer_of := He.glo_ok X G (c.fact 32 (f := .glo "answer_of") rfl)
  have h_answer_of : CallG P w K mg 6 "answer_of" p_answer_of.length sp_answer_of := cg_answer_of g_answer_of F_answer_of (h_address_in.mono (by decide)) (h_is_numeral.mono (by decide)) (h_is_some_answer.mono (by decide)) co_MOST_LINKS fr_int fr_len fr_tuple
  obtain ⟨fd_is_some_event, F_is_some_event⟩ := c.def_ 33 (d := d_is_some_event) rfl
  have g_is_some_event := He.glo_ok X G (c.fact 33 (f := .glo "is_some_event") rfl)
  have h_is_some_event : CallG P w K mg 6 "is_some_event" p_is_some_event.length sp_is_some_event := cg_is_some_event g_is_some_event F_is_some_event (h_is_some_answer.mono (by decide)) (h_is_tuple_up_to.mono (by decide)) fr_isinstance fr_len fr_str
  obtain ⟨fd_event_of, F_event_of⟩ := c.def_ 34 (d := d_event_of) rfl
  have g_event_of := He.glo_ok X G (c.fact 34 (f := .glo "event_of") rfl)
  have h_event_of : CallG P w K mg 7 "event_of" p_event_of.length sp_event_of := cg_event_of g_event_of F_event_of (h_answer_of.mono (by decide)) fr_len
  obtain ⟨fd_is_some_row, F_is_some_row⟩ := c.def_ 35 (d := d_is_some_row) rfl
  have g_is_some_row := He.glo_ok X G (c.fact 35 (f := .glo "is_some_row") rfl)
  have h_is_some_row : CallG P w K mg 7 "is_some_row" p_is_some_row.length sp_is_some_row := cg_is_some_row g_is_some_row F_is_some_row (h_is_address.mono (by decide)) (h_is_moment.mono (by decide)) (h_is_some_event.mono (by decide)) (h_is_tuple_up_to.mono (by decide))
  obtain ⟨fd_row_in, F_row_in⟩ := c.def_ 36 (d := d_row_in) rfl
  have g_row_in := He.glo_ok X G (c.fact 36 (f := .glo "row_in") rfl)
  have h_row_in : CallG P w K mg 8 "row_in" p_row_in.length sp_row_in := cg_row_in g_row_in F_row_in (h_address_in.mono (by decide)) (h_event_of.mono (by decide)) (h_is_numeral.mono (by decide)) fr_int fr_len
  obtain ⟨fd_check_log, F_check_log⟩ := c.def_ 37 (d := d_check_log) rfl
  have g_check_log := He.glo_ok X G (c.fact 37 (f := .glo "check_log") rfl)
  have h_check_log : CallG P w K mg 8 "check_log" p_check_log.length sp_check_log := cg_check_log g_check_log F_check_log (h_is_some_row.mono (by decide)) fr_enumerate fr_isinstance fr_tuple
  obtain ⟨fd_row_at, F_row_at⟩ := c.def_ 38 (d := d_row_at) rfl
  have g_row_at := He.glo_ok X G (c.fact 38 (f := .glo "row_at") rfl)
  have h_row_at : CallG P w K mg 9 "row_at" p_row_at.length sp_row_at := cg_row_at g_row_at F_row_at (h_row_in.mono (by decide)) (h_seal_in.mono (by decide)) fr_str
  obtain ⟨fd_print_journal, F_print_journal⟩ := c.def_ 39 (d := d_print_journal) rfl
  have g_print_journal := He.glo_ok X G (c.fact 39 (f := .glo "print_journal") rfl)
  have h_print_journal : CallG P w K mg 9 "print_journal" p_print_journal.length sp_print_journal := cg_print_journal g_print_journal F_print_journal (h_check_log.mono (by decide)) (h_lines_in.mono (by decide))
  have hk_print_journal_log : KwG P w K mg 9 "print_journal" 0 p_print_journal kw_print_journal_log := kg_print_journal_log g_print_journal F_print_journal (h_check_log.mono (by decide)) (h_lines_in.mono (by decide))
  obtain ⟨fd_read_journal, F_read_journal⟩ := c.def_ 40 (d := d_read_journal) rfl
  have g_read_journal := He.glo_ok X G (c.fact 40 (f := .glo "read_journal") rfl)
  have h_read_journal : CallG P w K mg 10 "read_journal" p_read_journal.length sp_read_journal := cg_read_journal g_read_journal F_read_journal (h_row_at.mono (by decide)) fr_isinstance fr_len fr_range fr_str fr_tuple
  have hk_read_journal_text : KwG P w K mg 10 "read_journal" 0 p_read_journal kw_read_journal_text := kg_read_journal_text g_read_journal F_read_journal (h_row_at.mono (by decide)) fr_isinstance fr_len fr_range fr_str fr_tuple
  obtain ⟨fd__law_right, F__law_right⟩ := c.def_ 41 (d := d__law_right) rfl
  have g__law_right := He.glo_ok X G (c.fact 41 (f := .glo "_law_right") rfl)
  have h__law_right : CallG P w K mg 11 "_law_right" p__law_right.length sp__law_right := cg__law_right g__law_right F__law_right (h__law_loose_rows.mono (by decide)) (h__law_name.mono (by decide)) (h__law_one.mono (by decide)) (h__law_seal.mono (by decide)) (h__law_sealed.mono (by decide)) (h__law_signs.mono (by decide)) (h__law_spots.mono (by decide)) (h__law_take.mono (by decide)) (h_journal_of.mono (by decide)) (h_print_journal.mono (by decide)) (h_read_journal.mono (by decide)) (h_seal_of.mono (by decide)) (hk_print_journal_log.mono (by decide)) (hk_read_journal_text.mono (by decide)) (hk_seal_of_text.mono (by decide)) fr_len fr_range fr_repr
  obtain ⟨fd_law, F_law⟩ := c.def_ 42 (d := d_law) rfl
  have g_law := He.glo_ok X G (c.fact 42 (f := .glo "law") rfl)
  have e := hfa.symm.trans g_law
  cases e
  have b := FunD.bindsA (ps := ["_law_script"]) F_law fun _ _ _ _ _ _ us hl => match us, hl with
    | [_], _ => rfl
  exact ⟨fd_law, fun s v => b s [v] rfl, fg_law F_law (h__law_right.mono (by decide)) (h__law_well.mono (by decide)) fr_all fr_len fr_max fr_min fr_range⟩
end
end Jn
open PySem PySem.W PySem.Calls PyProof.Rows
theorem PySem.Challenge.cw_gentlerounds_k45_journals_there_and_back_holds : PySem.Challenge.rw_gentlerounds_k45_journals_there_and_back.Holds := by
  w_on; o_law
  refine HandSHeadRun.head_any (r := OpenLaw.row PySem.Challenge.rw_gentlerounds_k45_journals_there_and_back) (q := view (OpenLaw.row PySem.Challenge.rw_gentlerounds_k45_journals_there_and_back).prog [65]) (H := Jn.hk) (ob := Jn.ob) (M := 20000) (loose := Jn.loose) (d := HandSHeadRun.topDef (OpenLaw.row PySem.Challenge.rw_gentlerounds_k45_journals_there_and_back).prog 65) (kwd := []) Jn.ob_eq (by kernel_rfl) (fun s => by kernel_rfl) Jn.run
    (by kernel_rfl) (by kernel_rfl) (by kernel_rfl) (by rfl) (by first | assumption | decide +kernel) (by decide +kernel) ⟨rfl, rfl, rfl, rfl, rfl, by decide +kernel⟩ ?hw ?hc
  case hw => w_witness2
  case hc =>
    refine Mx.walk_end (l := PySem.Challenge.rw_gentlerounds_k45_journals_there_and_back) (n := 63) (k := 12) (x := "_law_script") (sp := Jn.sp_law) rfl (by decide) (by kernel_rfl) ⟨rfl, by decide, by decide⟩ ?F fun ns h1 h2 => ⟨ns, rfl, h1, rfl⟩
    intro w mg fa h Y G hmg0
    obtain ⟨K, KX, c⟩ := Y
    have hmg : mg ("law" : PySem.Str) = some (.ref fa) := by
      have e : (HandSHeadRun.topDef (OpenLaw.row PySem.Challenge.rw_gentlerounds_k45_journals_there_and_back).prog 65).name = ("law" : PySem.Str) := by kernel_rfl
      rw [← e]
      exact hmg0
    obtain ⟨fd, hb, hF⟩ := Jn.facts (P := (PySem.Challenge.rw_gentlerounds_k45_journals_there_and_back).prog) (w := w) KX G hmg c
    exact ⟨K, fd, KX, hb, hF⟩
