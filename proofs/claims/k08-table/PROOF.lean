import PyProof.Rows.All
import HandS.ForMost
import HandS.Exc
import HandS.TryOnly
import HandS.ExcOwn
import HandS.WordsExc
import HandS.CallSlots
import HandS.Wide
import HandS.WideBits
import HandS.Flow
import HandS.Style
import HandS.EndBits
import HandS.IsInst
import HandS.Defaults
import HandS.TupAny
import HandS.TupMul
import HandS.TupLe
import HandS.Zip
import HandS.Rev
import HandS.WideMore
import KE.GoesEnum
import KE.GoesMore
import HandS.MakeKwOnly
import HandS.Ends
import HandS.HeadEnd
import HandS.Head2
import HandS.HeadHook2
import KE.KUnpackStar
import HandS.SortKw
import KE.GoesEnumKw
import HandS.WrittenGet
import HandS.HeadHook3
import HandS.HeadHook4
import HandS.SortInts
import HandS.SortRule
import PyProof.WalkInts
import PyProof.TupleIter
import PySem.Challenge.RW_restarith_k08_by_a_table
set_option Elab.async false
set_option linter.all false
set_option maxRecDepth 100000
section
set_option maxHeartbeats 4000000
/-! Zed: data that never change stand as data, what changes stands in a small store; rules over HandS. -/
namespace Zed
open PySem PySem.Spec PyProof.Rows L2

/-- a value as data -/
inductive D where
  | non | bl (b : Bool) | int (i : Int) | str (x : Str) | ty (n : String) | ref (a : Addr)
  | tup (xs : List D) | fl (xs : List D) | obj (C : Addr) (fs : List (Str × D))

mutual
inductive Rep (K : PySem.W.Frag) (Pi : Hp) : D → V → Prop
  | non : Rep K Pi .non .non
  | bl {b} : Rep K Pi (.bl b) (.bl b)
  | int {i} : Rep K Pi (.int i) (.int i)
  | str {x} : Rep K Pi (.str x) (.str x)
  | ty {n} : Rep K Pi (.ty n) (.ty n)
  | ref {a} : Rep K Pi (.ref a) (.ref a)
  | tup {a vs ds} : SqT K Pi a vs → Reps K Pi ds vs → Rep K Pi (.tup ds) (.ref a)
  | fl {a vs ds} : SqL K Pi a vs → Reps K Pi ds vs → Rep K Pi (.fl ds) (.ref a)
  | obj {a C dx kvs fs} : Pi a = some (.ins C dx kvs) → RepF K Pi fs kvs → Rep K Pi (.obj C fs) (.ref a)
inductive Reps (K : PySem.W.Frag) (Pi : Hp) : List D → List V → Prop
  | nil : Reps K Pi [] []
  | cons {d v ds vs} : Rep K Pi d v → Reps K Pi ds vs → Reps K Pi (d :: ds) (v :: vs)
inductive RepF (K : PySem.W.Frag) (Pi : Hp) : List (Str × D) → List (Str × V) → Prop
  | nil : RepF K Pi [] []
  | cons {n d v fs kvs} : Rep K Pi d v → RepF K Pi fs kvs → RepF K Pi ((n, d) :: fs) ((n, v) :: kvs)
end

def PLe (P Q : Hp) : Prop := ∀ b o, P b = some o → Q b = some o
theorem PLe.refl {P : Hp} : PLe P P := fun _ _ h => h
theorem PLe.trans {P Q R : Hp} (a : PLe P Q) (b : PLe Q R) : PLe P R := fun c o h => b c o (a c o h)
theorem PLe.sqt {K : PySem.W.Frag} {P Q : Hp} {a : Addr} {xs : List V} (l : PLe P Q) (h : SqT K P a xs) : SqT K Q a xs := by
  rcases h with (h | ⟨o, h⟩) | h
  · exact .inl (.inl (l _ _ h))
  · exact .inl (.inr ⟨o, l _ _ h⟩)
  · exact .inr h
theorem PLe.sql {K : PySem.W.Frag} {P Q : Hp} {a : Addr} {xs : List V} (l : PLe P Q) (h : SqL K P a xs) : SqL K Q a xs := by
  rcases h with (h | ⟨o, h⟩) | h
  · exact .inl (.inl (l _ _ h))
  · exact .inl (.inr ⟨o, l _ _ h⟩)
  · exact .inr h
mutual
theorem Rep.mono {K : PySem.W.Frag} {P Q : Hp} (l : PLe P Q) : ∀ {d v}, Rep K P d v → Rep K Q d v
  | _, _, .non => .non
  | _, _, .bl => .bl
  | _, _, .int => .int
  | _, _, .str => .str
  | _, _, .ty => .ty
  | _, _, .ref => .ref
  | _, _, .tup h r => .tup (l.sqt h) (Reps.mono l r)
  | _, _, .fl h r => .fl (l.sql h) (Reps.mono l r)
  | _, _, .obj h r => .obj (l _ _ h) (RepF.mono l r)
theorem Reps.mono {K : PySem.W.Frag} {P Q : Hp} (l : PLe P Q) : ∀ {d v}, Reps K P d v → Reps K Q d v
  | _, _, .nil => .nil
  | _, _, .cons h r => .cons (Rep.mono l h) (Reps.mono l r)
theorem RepF.mono {K : PySem.W.Frag} {P Q : Hp} (l : PLe P Q) : ∀ {d v}, RepF K P d v → RepF K Q d v
  | _, _, .nil => .nil
  | _, _, .cons h r => .cons (Rep.mono l h) (RepF.mono l r)
end
section
variable {K : PySem.W.Frag} {P : Hp}
theorem Reps.length : ∀ {ds vs}, Reps K P ds vs → ds.length = vs.length
  | _, _, .nil => rfl
  | _, _, .cons _ r => congrArg Nat.succ (Reps.length r)
theorem Reps.get : ∀ {ds vs} {i : Nat} {d : D}, Reps K P ds vs → ds[i]? = some d → ∃ v, vs[i]? = some v ∧ Rep K P d v
  | _, _, _, _, .nil, e => by simp at e
  | _, _, 0, _, .cons r _, e => by simp at e; subst e; exact ⟨_, rfl, r⟩
  | _, _, i + 1, d, .cons _ t, e => by
    obtain ⟨u, h1, h2⟩ := Reps.get (i := i) (d := d) t (by simpa using e)
    exact ⟨u, by simpa using h1, h2⟩
theorem Reps.set {d : D} {v : V} (r : Rep K P d v) : ∀ {ds vs} (i : Nat), Reps K P ds vs → Reps K P (ds.set i d) (vs.set i v)
  | _, _, _, .nil => .nil
  | _, _, 0, .cons _ t => .cons r t
  | _, _, i + 1, .cons q t => .cons q (Reps.set r i t)
theorem Reps.append : ∀ {xs ys us ws}, Reps K P xs us → Reps K P ys ws → Reps K P (xs ++ ys) (us ++ ws)
  | _, _, _, _, .nil, s => s
  | _, _, _, _, .cons r t, s => .cons r (Reps.append t s)
theorem Reps.take : ∀ {xs us} (n : Nat), Reps K P xs us → Reps K P (xs.take n) (us.take n)
  | _, _, 0, _ => .nil
  | _, _, _ + 1, .nil => .nil
  | _, _, n + 1, .cons r t => .cons r (Reps.take n t)
theorem Reps.drop : ∀ {xs us} (n : Nat), Reps K P xs us → Reps K P (xs.drop n) (us.drop n)
  | _, _, 0, r => r
  | _, _, _ + 1, .nil => .nil
  | _, _, n + 1, .cons _ t => Reps.drop n t
theorem Reps.reverse : ∀ {xs us}, Reps K P xs us → Reps K P xs.reverse us.reverse
  | _, _, .nil => .nil
  | _, _, .cons r t => by
    rw [List.reverse_cons, List.reverse_cons]
    exact (Reps.reverse t).append (.cons r .nil)
theorem Reps.ints : ∀ (ns : List Int), Reps K P (ns.map D.int) (ns.map V.int)
  | [] => .nil
  | _ :: r => .cons .int (Reps.ints r)
theorem Reps.of_ints : ∀ {ns : List Int} {vs}, Reps K P (ns.map D.int) vs → vs = ns.map V.int
  | [], _, .nil => rfl
  | _ :: r, _, .cons h t => by
    cases h
    rw [Reps.of_ints (ns := r) t]
    rfl
theorem Reps.of_bls : ∀ {bs : List Bool} {vs}, Reps K P (bs.map D.bl) vs → vs = bs.map V.bl
  | [], _, .nil => rfl
  | _ :: r, _, .cons h t => by
    cases h
    rw [Reps.of_bls (bs := r) t]
    rfl
theorem RepF.lookup {n : Str} : ∀ {fs kvs} {d : D}, RepF K P fs kvs → fs.lookup n = some d → ∃ v, kvs.lookup n = some v ∧ Rep K P d v
  | _, _, _, .nil, e => by cases e
  | (m, d') :: fs, (_, v') :: kvs, d, .cons r t, e => by
    rw [List.lookup_cons] at e ⊢
    cases q : n == m with
    | true =>
      rw [q] at e
      cases e
      exact ⟨v', rfl, r⟩
    | false =>
      rw [q] at e
      exact RepF.lookup t e
theorem RepF.lookup_none {n : Str} : ∀ {fs kvs}, RepF K P fs kvs → fs.lookup n = none → kvs.lookup n = none
  | _, _, .nil, _ => rfl
  | (m, d') :: fs, (_, v') :: kvs, .cons r t, e => by
    rw [List.lookup_cons] at e ⊢
    cases q : n == m with
    | true =>
      rw [q] at e
      cases e
    | false =>
      rw [q] at e
      exact RepF.lookup_none t e
theorem RepF.length : ∀ {fs kvs}, RepF K P fs kvs → fs.length = kvs.length
  | _, _, .nil => rfl
  | _, _, .cons _ r => congrArg Nat.succ (RepF.length r)
end

/-! ### the store of what may change -/
inductive MO where
  | lst (xs : List D) | ins (C : Addr) (fs : List (Str × D)) | dct (kvs : List (Key × D))
abbrev Mu := Addr → Option MO
def updM (m : Mu) (a : Addr) (o : MO) : Mu := fun b => if b = a then some o else m b
theorem updM_same {m : Mu} {a : Addr} {o : MO} : updM m a o a = some o := by unfold updM; rw [if_pos rfl]
theorem updM_ne {m : Mu} {a b : Addr} {o : MO} (h : b ≠ a) : updM m a o b = m b := by unfold updM; rw [if_neg h]
theorem updM_upd {m : Mu} {a : Addr} {o u : MO} : updM (updM m a o) a u = updM m a u := by
  funext b; unfold updM; split <;> rfl
theorem ne_fresh {m : Mu} {a b : Addr} {o : MO} (h : m a = some o) (h' : m b = none) : a ≠ b := by
  intro e; subst e; rw [h] at h'; cases h'

def MuOk (K : PySem.W.Frag) (Pi H : Hp) (a : Addr) : MO → Prop
  | .lst ds => ∃ vs, H a = some (.lst vs) ∧ Reps K Pi ds vs
  | .ins C fs => ∃ dx kvs, H a = some (.ins C dx kvs) ∧ RepF K Pi fs kvs
  | .dct kvs => ∃ vs, H a = some (.dK vs) ∧ Paired (fun (p : Key × D) (q : Key × V) => p.1 = q.1 ∧ Rep K Pi p.2 q.2) kvs vs

/-- the store and the data, in the heap -/
structure Zm (K : PySem.W.Frag) (F : Hp) (m : Mu) (Pi H : Hp) : Prop where
  sub : PLe Pi H
  frm : PLe F H
  fdis : ∀ b, m b ≠ none → F b = none
  fpd : ∀ b o, F b = some o → Pi b = none
  dis : ∀ b, m b ≠ none → Pi b = none
  ok : ∀ b o, m b = some o → MuOk K Pi H b o
abbrev ZEnv := List (Option D)
abbrev St := L2.St
def EnvR (K : PySem.W.Frag) (Pi : Hp) (ρ : ZEnv) (σ : St) : Prop := ρ.length = σ.length ∧ ∀ (i : Nat) d, ρ[i]? = some (some d) → ∃ v, σ[i]? = some (some v) ∧ Rep K Pi d v
theorem paired_mono {α β : Type} {F G : α → β → Prop} (h : ∀ a b, F a b → G a b) : ∀ {xs ys}, Paired F xs ys → Paired G xs ys
  | _, _, .nil => .nil
  | _, _, .cons r t => .cons (h _ _ r) (paired_mono h t)
section
variable {K : PySem.W.Frag} {F : Hp} {m : Mu} {Pi P2 H H2 : Hp} {ρ : ZEnv} {σ : St}
theorem EnvR.mono (l : PLe Pi P2) (e : EnvR K Pi ρ σ) : EnvR K P2 ρ σ := ⟨e.1, fun i d q => by
  obtain ⟨v, h1, h2⟩ := e.2 i d q
  exact ⟨v, h1, h2.mono l⟩⟩
theorem EnvR.set {i : Nat} {d : D} {v : V} (e : EnvR K Pi ρ σ) (r : Rep K Pi d v) : EnvR K Pi (ρ.set i (some d)) (σ.set i (some v)) := by
  refine ⟨by rw [List.length_set, List.length_set]; exact e.1, fun j d' q => ?_⟩
  by_cases hj : i = j
  · subst hj
    by_cases hl : i < ρ.length
    · rw [List.getElem?_set_self hl] at q
      cases q
      exact ⟨v, by rw [List.getElem?_set_self (by rw [← e.1]; exact hl)], r⟩
    · rw [List.getElem?_eq_none (by simpa using hl)] at q
      cases q
  · rw [List.getElem?_set_ne hj] at q ⊢
    exact e.2 j d' q
theorem Zm.free (z : Zm K F m Pi H) {a : Addr} (h : H a = none) : m a = none ∧ Pi a = none := by
  constructor
  · cases q : m a with
    | none => rfl
    | some o =>
      have k := z.ok a o q
      cases o with
      | lst ds => obtain ⟨vs, e, _⟩ := k; rw [h] at e; cases e
      | ins C fs => obtain ⟨dx, kvs, e, _⟩ := k; rw [h] at e; cases e
      | dct kvs => obtain ⟨vs, e, _⟩ := k; rw [h] at e; cases e
  · cases q : Pi a with
    | none => rfl
    | some o => rw [z.sub a o q] at h; cases h
theorem Zm.ne_mu (z : Zm K F m Pi H) {a b : Addr} {o : MO} {u : HO} (h : m a = some o) (h2 : Pi b = some u) : b ≠ a := by
  intro e
  subst e
  rw [z.dis _ (by rw [h]; simp)] at h2
  cases h2
theorem MuOk.pi (l : PLe Pi P2) {a : Addr} : ∀ {o : MO}, MuOk K Pi H a o → MuOk K P2 H a o
  | .lst _, ⟨vs, e, r⟩ => ⟨vs, e, r.mono l⟩
  | .ins _ _, ⟨dx, kvs, e, r⟩ => ⟨dx, kvs, e, r.mono l⟩
  | .dct _, ⟨vs, e, r⟩ => ⟨vs, e, paired_mono (fun _ _ q => ⟨q.1, q.2.mono l⟩) r⟩
theorem MuOk.heap {a : Addr} (h : H2 a = H a) : ∀ {o : MO}, MuOk K Pi H a o → MuOk K Pi H2 a o
  | .lst _, ⟨vs, e, r⟩ => ⟨vs, h.trans e, r⟩
  | .ins _ _, ⟨dx, kvs, e, r⟩ => ⟨dx, kvs, h.trans e, r⟩
  | .dct _, ⟨vs, e, r⟩ => ⟨vs, h.trans e, r⟩
theorem MuOk.isSome {a : Addr} : ∀ {o : MO}, MuOk K Pi H a o → H a ≠ none
  | .lst _, ⟨vs, e, r⟩ => by rw [e]; simp
  | .ins _ _, ⟨dx, kvs, e, r⟩ => by rw [e]; simp
  | .dct _, ⟨vs, e, r⟩ => by rw [e]; simp
/-- a new thing that never changes -/
theorem Zm.newPi (z : Zm K F m Pi H) {p : Addr} (hp : H p = none) (o : HO) : Zm K F m (upd Pi p o) (upd H p o) ∧ PLe Pi (upd Pi p o) := by
  obtain ⟨n1, n2⟩ := z.free hp
  have l : PLe Pi (upd Pi p o) := fun b u e => by rw [upd_ne (ne_of_none e n2)]; exact e
  refine ⟨⟨fun b u e => ?_, fun b u e => ?_, z.fdis, fun b u e => by rw [upd_ne (ne_of_none (z.frm b u e) hp)]; exact z.fpd b u e, fun b e => ?_, fun b u e => ?_⟩, l⟩
  · by_cases hb : b = p
    · subst hb; rw [upd_same] at e ⊢; exact e
    · rw [upd_ne hb] at e ⊢; exact z.sub b u e
  · rw [upd_ne (ne_of_none (z.frm b u e) hp)]; exact z.frm b u e
  · by_cases hb : b = p
    · subst hb; exact absurd n1 e
    · rw [upd_ne hb]; exact z.dis b e
  · have hb : b ≠ p := fun q => by subst q; rw [n1] at e; cases e
    exact ((z.ok b u e).pi l).heap (upd_ne hb)
theorem Zm.ffree (z : Zm K F m Pi H) {p : Addr} (hp : H p = none) : F p = none := by
  cases q : F p with
  | none => rfl
  | some o => rw [z.frm p o q] at hp; cases hp
/-- a new thing that may change -/
theorem Zm.newMu (z : Zm K F m Pi H) {p : Addr} (hp : H p = none) {o : HO} {u : MO} (ho : MuOk K Pi (upd H p o) p u) : Zm K F (updM m p u) Pi (upd H p o) := by
  obtain ⟨n1, n2⟩ := z.free hp
  refine ⟨fun b v e => ?_, fun b v e => ?_, fun b e => ?_, z.fpd, fun b e => ?_, fun b v e => ?_⟩
  · rw [upd_ne (ne_of_none e n2)]; exact z.sub b v e
  · rw [upd_ne (ne_of_none (z.frm b v e) hp)]; exact z.frm b v e
  · by_cases hb : b = p
    · subst hb; exact z.ffree hp
    · rw [updM_ne hb] at e; exact z.fdis b e
  · by_cases hb : b = p
    · subst hb; exact n2
    · rw [updM_ne hb] at e; exact z.dis b e
  · by_cases hb : b = p
    · subst hb; rw [updM_same] at e; cases e; exact ho
    · rw [updM_ne hb] at e; exact (z.ok b v e).heap (upd_ne hb)
/-- it changes -/
theorem Zm.setMu (z : Zm K F m Pi H) {p : Addr} {w : MO} (hp : m p = some w) {o : HO} {u : MO} (ho : MuOk K Pi (upd H p o) p u) : Zm K F (updM m p u) Pi (upd H p o) := by
  refine ⟨fun b v e => ?_, fun b v e => ?_, fun b e => ?_, z.fpd, fun b e => ?_, fun b v e => ?_⟩
  · rw [upd_ne (z.ne_mu hp e)]; exact z.sub b v e
  · have hb : b ≠ p := fun q => by
      subst q
      rw [z.fdis _ (by rw [hp]; simp)] at e
      cases e
    rw [upd_ne hb]; exact z.frm b v e
  · by_cases hb : b = p
    · subst hb; exact z.fdis _ (by rw [hp]; simp)
    · rw [updM_ne hb] at e; exact z.fdis b e
  · by_cases hb : b = p
    · subst hb; exact z.dis _ (by rw [hp]; simp)
    · rw [updM_ne hb] at e; exact z.dis b e
  · by_cases hb : b = p
    · subst hb; rw [updM_same] at e; cases e; exact ho
    · rw [updM_ne hb] at e; exact (z.ok b v e).heap (upd_ne hb)
/-- the store forgets -/
def dropM (m : Mu) (a : Addr) : Mu := fun b => if b = a then none else m b
theorem dropM_none {m : Mu} {a b : Addr} {o : MO} (h : dropM m a b = some o) : b ≠ a ∧ m b = some o := by
  unfold dropM at h
  by_cases hb : b = a
  · rw [if_pos hb] at h; cases h
  · rw [if_neg hb] at h; exact ⟨hb, h⟩
theorem Zm.less {m2 : Mu} (z : Zm K F m Pi H) (h : ∀ b o, m2 b = some o → m b = some o) : Zm K F m2 Pi H := by
  have n : ∀ b, m2 b ≠ none → m b ≠ none := fun b e => by
    cases q : m2 b with
    | none => exact absurd q e
    | some o => rw [h b o q]; simp
  exact ⟨z.sub, z.frm, fun b e => z.fdis b (n b e), z.fpd, fun b e => z.dis b (n b e), fun b o e => z.ok b o (h b o e)⟩
/-- what will change no more: its cell goes to the data -/
theorem Zm.seal (z : Zm K F m Pi H) {p : Addr} {w : MO} {o : HO} (hp : m p = some w) (ho : H p = some o) : Zm K F (dropM m p) (upd Pi p o) H ∧ PLe Pi (upd Pi p o) := by
  have n2 : Pi p = none := z.dis p (by rw [hp]; simp)
  have l : PLe Pi (upd Pi p o) := fun b u e => by rw [upd_ne (ne_of_none e n2)]; exact e
  have n : ∀ b, dropM m p b ≠ none → b ≠ p ∧ m b ≠ none := fun b e => by
    cases q : dropM m p b with
    | none => exact absurd q e
    | some o => obtain ⟨h1, h2⟩ := dropM_none q; exact ⟨h1, by rw [h2]; simp⟩
  have fp : F p = none := z.fdis p (by rw [hp]; simp)
  refine ⟨⟨fun b u e => ?_, z.frm, fun b e => z.fdis b (n b e).2, fun b u e => by rw [upd_ne (ne_of_none e fp)]; exact z.fpd b u e, fun b e => ?_, fun b u e => ?_⟩, l⟩
  · by_cases hb : b = p
    · subst hb; rw [upd_same] at e; cases e; exact ho
    · rw [upd_ne hb] at e; exact z.sub b u e
  · rw [upd_ne (n b e).1]; exact z.dis b (n b e).2
  · exact (z.ok b u (dropM_none e).2).pi l
/-- the frame holds a cell more, or less -/
theorem Zm.frame (z : Zm K F m Pi H) {p : Addr} (h1 : m p = none) (h2 : Pi p = none) {o : HO} (ho : H p = some o) : Zm K (upd F p o) m Pi H := by
  refine ⟨z.sub, fun b u e => ?_, fun b e => ?_, fun b u e => ?_, z.dis, z.ok⟩
  · by_cases hb : b = p
    · subst hb; rw [upd_same] at e; cases e; exact ho
    · rw [upd_ne hb] at e; exact z.frm b u e
  · by_cases hb : b = p
    · subst hb; exact absurd h1 e
    · rw [upd_ne hb]; exact z.fdis b e
  · by_cases hb : b = p
    · subst hb; exact h2
    · rw [upd_ne hb] at e; exact z.fpd b u e
/-- a cell that the frame holds is written by its owner -/
theorem Zm.own {p : Addr} {o o2 : HO} (z : Zm K (upd F p o) m Pi H) : Zm K (upd F p o2) m Pi (upd H p o2) := by
  have np : Pi p = none := z.fpd p o upd_same
  have nm : m p = none := by
    cases q : m p with
    | none => rfl
    | some w => have := z.fdis p (by rw [q]; simp); rw [upd_same] at this; cases this
  refine ⟨fun b u e => ?_, fun b u e => ?_, fun b e => ?_, fun b u e => ?_, z.dis, fun b u e => ?_⟩
  · rw [upd_ne (ne_of_none e np)]; exact z.sub b u e
  · by_cases hb : b = p
    · subst hb; rw [upd_same] at e ⊢; exact e
    · rw [upd_ne hb] at e ⊢; exact z.frm b u (by rw [upd_ne hb]; exact e)
  · by_cases hb : b = p
    · subst hb; exact absurd nm e
    · rw [upd_ne hb]; have := z.fdis b e; rwa [upd_ne hb] at this
  · by_cases hb : b = p
    · subst hb; exact np
    · rw [upd_ne hb] at e; exact z.fpd b u (by rw [upd_ne hb]; exact e)
  · have hb : b ≠ p := fun q => by subst q; rw [nm] at e; cases e
    exact (z.ok b u e).heap (upd_ne hb)
/-- the frame gives a cell to the data -/
theorem Zm.give {p : Addr} {o : HO} (z : Zm K (upd F p o) m Pi H) (hf : F p = none) : Zm K F m (upd Pi p o) H ∧ PLe Pi (upd Pi p o) := by
  have np : Pi p = none := z.fpd p o upd_same
  have l : PLe Pi (upd Pi p o) := fun b u e => by rw [upd_ne (ne_of_none e np)]; exact e
  have ff : ∀ b u, F b = some u → upd F p o b = some u := fun b u e => by rw [upd_ne (ne_of_none e hf)]; exact e
  have nm : m p = none := by
    cases q : m p with
    | none => rfl
    | some w => have := z.fdis p (by rw [q]; simp); rw [upd_same] at this; cases this
  refine ⟨⟨fun b u e => ?_, fun b u e => z.frm b u (ff b u e), fun b e => ?_, fun b u e => ?_, fun b e => ?_, fun b u e => (z.ok b u e).pi l⟩, l⟩
  · by_cases hb : b = p
    · subst hb; rw [upd_same] at e; cases e; exact z.frm _ _ upd_same
    · rw [upd_ne hb] at e; exact z.sub b u e
  · cases q : F b with
    | none => rfl
    | some u => have := z.fdis b e; rw [ff b u q] at this; cases this
  · rw [upd_ne (ne_of_none e hf)]; exact z.fpd b u (ff b u e)
  · by_cases hb : b = p
    · subst hb; exact absurd nm e
    · rw [upd_ne hb]; exact z.dis b e
end

/-! ### wishes -/
structure ZX where
  cls : Value
  fs : Option (List (Str × D))
abbrev QE := D → Mu → Prop
abbrev QX := ZX → Mu → Prop
abbrev QB := Bool → Mu → Prop
abbrev QL := List D → Mu → Prop
abbrev ZTE := ZEnv → Mu → QE → QX → Prop
abbrev ZTT := ZEnv → Mu → QB → QX → Prop
abbrev ZTA := ZEnv → Mu → QL → QX → Prop
structure ZEnds where
  nx : ZEnv → Mu → Prop
  rt : QE
  ex : ZX → ZEnv → Mu → Prop
abbrev ZTS := ZEnds → ZEnv → Mu → Prop
/-- a def's promise -/
abbrev ZSp := List D → Mu → QE → QX → Prop

def ExR (K : PySem.W.Frag) (Pi H : Hp) (x : ZX) (c : Value) (dd : Option Addr) : Prop :=
  x.cls = c ∧ match x.fs, dd with
    | none, none => True
    | some fs, some a => ∃ kvs, H a = some (.xd kvs) ∧ RepF K Pi fs kvs
    | _, _ => False
def ContE (K : PySem.W.Frag) (F Pi : Hp) (Qz : QE) (Q : VK) : Prop := ∀ d m' P' v H', PLe Pi P' → Zm K F m' P' H' → Rep K P' d v → Qz d m' → Q v H'
def ContB (K : PySem.W.Frag) (F Pi : Hp) (Qz : QB) (Q : Bool → Hp → Prop) : Prop := ∀ d m' P' H', PLe Pi P' → Zm K F m' P' H' → Qz d m' → Q d H'
def ContL (K : PySem.W.Frag) (F Pi : Hp) (Qz : QL) (Q : List V → Hp → Prop) : Prop := ∀ d m' P' v H', PLe Pi P' → Zm K F m' P' H' → Reps K P' d v → Qz d m' → Q v H'
def ContX (K : PySem.W.Frag) (F Pi : Hp) (Ez : QX) (E : XK) : Prop := ∀ x m' P' c dd H', PLe Pi P' → Zm K F m' P' H' → ExR K P' H' x c dd → Ez x m' → E c dd H'
def ContS (K : PySem.W.Frag) (F Pi : Hp) (Qz : ZEnv → Mu → Prop) (Q : St → Hp → Prop) : Prop := ∀ ρ' m' P' σ' H', PLe Pi P' → Zm K F m' P' H' → EnvR K P' ρ' σ' → Qz ρ' m' → Q σ' H'
def ContW (K : PySem.W.Frag) (F Pi : Hp) (Ez : ZX → ZEnv → Mu → Prop) (W : WX) : Prop := ∀ x ρ' m' P' c dd σ' H', PLe Pi P' → Zm K F m' P' H' → EnvR K P' ρ' σ' → ExR K P' H' x c dd → Ez x ρ' m' → W c dd σ' H'
section
variable {K : PySem.W.Frag} {F Pi P2 : Hp}
theorem ContE.mono {a b} (h : ContE K F Pi a b) (l : PLe Pi P2) : ContE K F P2 a b := fun d m' P' v H' q => h d m' P' v H' (l.trans q)
theorem ContB.mono {a b} (h : ContB K F Pi a b) (l : PLe Pi P2) : ContB K F P2 a b := fun d m' P' H' q => h d m' P' H' (l.trans q)
theorem ContL.mono {a b} (h : ContL K F Pi a b) (l : PLe Pi P2) : ContL K F P2 a b := fun d m' P' v H' q => h d m' P' v H' (l.trans q)
theorem ContX.mono {a b} (h : ContX K F Pi a b) (l : PLe Pi P2) : ContX K F P2 a b := fun x m' P' c dd H' q => h x m' P' c dd H' (l.trans q)
theorem ContS.mono {a b} (h : ContS K F Pi a b) (l : PLe Pi P2) : ContS K F P2 a b := fun x m' P' c H' q => h x m' P' c H' (l.trans q)
theorem ContW.mono {a b} (h : ContW K F Pi a b) (l : PLe Pi P2) : ContW K F P2 a b := fun x ρ' m' P' c dd σ' H' q => h x ρ' m' P' c dd σ' H' (l.trans q)
end
def LE (K : PySem.W.Frag) (W : WX) (z : ZTE) : TE := fun σ H Q => ∃ F ρ m Pi Qz Ez, Zm K F m Pi H ∧ EnvR K Pi ρ σ ∧ z ρ m Qz Ez ∧ ContE K F Pi Qz Q ∧ ContX K F Pi Ez (fun c d H' => W c d σ H')
def LT (K : PySem.W.Frag) (W : WX) (z : ZTT) : TT := fun σ H Q => ∃ F ρ m Pi Qz Ez, Zm K F m Pi H ∧ EnvR K Pi ρ σ ∧ z ρ m Qz Ez ∧ ContB K F Pi Qz Q ∧ ContX K F Pi Ez (fun c d H' => W c d σ H')
def LA (K : PySem.W.Frag) (W : WX) (z : ZTA) : TA := fun σ H Q => ∃ F ρ m Pi Qz Ez, Zm K F m Pi H ∧ EnvR K Pi ρ σ ∧ z ρ m Qz Ez ∧ ContL K F Pi Qz Q ∧ ContX K F Pi Ez (fun c d H' => W c d σ H')
def LS (K : PySem.W.Frag) (W : WX) (z : ZTS) : TS := fun D σ H => ∃ F ρ m Pi Dz, Zm K F m Pi H ∧ EnvR K Pi ρ σ ∧ z Dz ρ m ∧ ContS K F Pi Dz.nx D.nx ∧ ContE K F Pi Dz.rt D.rt ∧ ContW K F Pi Dz.ex W

theorem pe_imp {X : Cx} {e : Expr} {t t' : TE} (h : PE X e t) (i : ∀ σ H Q, t' σ H Q → t σ H Q) : PE X e t' := ⟨fun pins s σ H Q I q => h.run pins s σ H Q I (i σ H Q q)⟩
theorem pt_imp {X : Cx} {e : Expr} {t t' : TT} (h : PT X e t) (i : ∀ σ H Q, t' σ H Q → t σ H Q) : PT X e t' := ⟨fun pins s σ H Q I q => h.run pins s σ H Q I (i σ H Q q)⟩
theorem pw_imp {X : Cx} {e : Expr} {t t' : TT} (h : PW X e t) (i : ∀ σ H Q, t' σ H Q → t σ H Q) : PW X e t' := ⟨fun wh pins s σ H Q I q => h.run wh pins s σ H Q I (i σ H Q q)⟩
theorem pa_imp {X : Cx} {e : List Expr} {t t' : TA} (h : PA X e t) (i : ∀ σ H Q, t' σ H Q → t σ H Q) : PA X e t' := ⟨fun pos pins s σ H Q I q => h.run pos pins s σ H Q I (i σ H Q q)⟩
theorem ps_imp {X : Cx} {e : Stmt} {t t' : TS} (h : PS X e t) (i : ∀ D σ H, t' D σ H → t D σ H) : PS X e t' := ⟨fun pins s σ H D I q => h.run pins s σ H D I (i D σ H q)⟩
theorem pss_imp {X : Cx} {e : List Stmt} {t t' : TS} (h : PSs X e t) (i : ∀ D σ H, t' D σ H → t D σ H) : PSs X e t' := ⟨fun pins s σ H D I q => h.run pins s σ H D I (i D σ H q)⟩
end Zed
end
section
set_option maxHeartbeats 4000000
/-! Zed2: expressions. -/
namespace Zed
open PySem PySem.Spec PyProof.Rows L2

/-! ### combinators -/
def zv (i : Nat) : ZTE := fun ρ m Q _ => match ρ[i]? with
  | some (some d) => Q d m
  | _ => False
def zc (d : D) : ZTE := fun _ m Q _ => Q d m
abbrev ZOp := D → D → Mu → QE → Prop
abbrev ZUn := D → Mu → QE → Prop
abbrev ZCl := List D → Mu → QE → Prop
def zop (o : ZOp) (a b : ZTE) : ZTE := fun ρ m Q E => a ρ m (fun x m1 => b ρ m1 (fun y m2 => o x y m2 Q) E) E
def zun (o : ZUn) (a : ZTE) : ZTE := fun ρ m Q E => a ρ m (fun x m1 => o x m1 Q) E
def anil : ZTA := fun _ m Q _ => Q [] m
def acons (a : ZTE) (t : ZTA) : ZTA := fun ρ m Q E => a ρ m (fun x m1 => t ρ m1 (fun xs m2 => Q (x :: xs) m2) E) E
def ztup (t : ZTA) : ZTE := fun ρ m Q E => t ρ m (fun xs m1 => xs.length ≤ sizeLine ∧ Q (.tup xs) m1) E
/-- a list that never changes -/
def zfl (t : ZTA) : ZTE := fun ρ m Q E => t ρ m (fun xs m1 => xs.length ≤ sizeLine ∧ Q (.fl xs) m1) E
/-- a list that may change -/
def zlst (t : ZTA) : ZTE := fun ρ m Q E => t ρ m (fun xs m1 => xs.length ≤ sizeLine ∧ ∀ p, m1 p = none → Q (.ref p) (updM m1 p (.lst xs))) E
def zbl (t : ZTA) (c : ZCl) : ZTE := fun ρ m Q E => t ρ m (fun xs m1 => c xs m1 Q) E
def zcall (c : ZSp) (t : ZTA) : ZTE := fun ρ m Q E => t ρ m (fun xs m1 => c xs m1 Q E) E
/-- tests -/
def truD : D → Mu → Option Bool
  | .non, _ => some false
  | .bl b, _ => some b
  | .int i, _ => some (i != 0)
  | .str x, _ => if x.length ≤ sizeLine then some ((x.length : Int) != 0) else none
  | .tup xs, _ => some (!xs.isEmpty)
  | .fl xs, _ => some (!xs.isEmpty)
  | .ref a, m => match m a with
    | some (.lst xs) => some (!xs.isEmpty)
    | some (.dct xs) => some (!xs.isEmpty)
    | _ => none
  | _, _ => none
def tvl (a : ZTE) : ZTT := fun ρ m Q E => a ρ m (fun x m1 => match x with
  | .bl b => Q b m1
  | _ => False) E
def ttr (a : ZTE) : ZTT := fun ρ m Q E => a ρ m (fun x m1 => match truD x m1 with
  | some b => Q b m1
  | none => False) E
def tand (a b : ZTT) : ZTT := fun ρ m Q E => a ρ m (fun c m1 => if c = true then b ρ m1 Q E else Q false m1) E
def tor (a b : ZTT) : ZTT := fun ρ m Q E => a ρ m (fun c m1 => if c = true then Q true m1 else b ρ m1 Q E) E
def tnot (a : ZTT) : ZTT := fun ρ m Q E => a ρ m (fun c m1 => Q (!c) m1) E
/-- as values -/
def zand (a b : ZTE) : ZTE := fun ρ m Q E => a ρ m (fun x m1 => match x with
  | .bl c => if c = true then b ρ m1 Q E else Q (.bl false) m1
  | _ => False) E
def zor (a b : ZTE) : ZTE := fun ρ m Q E => a ρ m (fun x m1 => match x with
  | .bl c => if c = true then Q (.bl true) m1 else b ρ m1 Q E
  | _ => False) E
def zorT (a b : ZTE) : ZTE := fun ρ m Q E => a ρ m (fun x m1 => match truD x m1 with
  | some c => if c = true then Q x m1 else b ρ m1 Q E
  | none => False) E
def znot (a : ZTE) : ZTE := fun ρ m Q E => a ρ m (fun x m1 => match truD x m1 with
  | some c => Q (.bl (!c)) m1
  | none => False) E
def zif (t : ZTT) (a b : ZTE) : ZTE := fun ρ m Q E => t ρ m (fun c m1 => if c = true then a ρ m1 Q E else b ρ m1 Q E) E
/-- a chain of two comparisons -/
def zchn (o o' : ZOp) (a b c : ZTE) : ZTE := fun ρ m Q E => a ρ m (fun x m1 => b ρ m1 (fun y m2 => o x y m2 fun z m3 => match z with
  | .bl k => if k = true then c ρ m3 (fun w m4 => o' y w m4 Q) E else Q (.bl false) m3
  | _ => False) E) E

/-! ### from the values' rules -/
def RS (K : PySem.W.Frag) (o : ZOp) : R2 := fun x y H Q => ∃ d e F m Pi Qz, Zm K F m Pi H ∧ Rep K Pi d x ∧ Rep K Pi e y ∧ o d e m Qz ∧ ContE K F Pi Qz Q
def RU (K : PySem.W.Frag) (o : ZUn) : V → Hp → VK → Prop := fun x H Q => ∃ d F m Pi Qz, Zm K F m Pi H ∧ Rep K Pi d x ∧ o d m Qz ∧ ContE K F Pi Qz Q
def RC (K : PySem.W.Frag) (o : ZCl) : List V → Hp → VK → Prop := fun xs H Q => ∃ ds F m Pi Qz, Zm K F m Pi H ∧ Reps K Pi ds xs ∧ o ds m Qz ∧ ContE K F Pi Qz Q
theorem PLe.bot {Q : Hp} : PLe (fun _ => none) Q := fun _ _ z => by
  have z' : (none : Option HO) = some _ := z
  cases z'
section
variable {X : Cx} {W : WX} {a b c e : Expr} {pos p : Pos} {za zb zc' ze : ZTE} {es : List Expr} {t : ZTA}
theorem r_v {x : Str} (i : Nat) (hN : X.N[i]? = some x := by rfl) (hv : Vis X.env.scope x := by first | exact Or.inl rfl | exact Or.inr (Or.inl rfl) | exact Or.inr (Or.inr rfl)) (hd : (x == ("__debug__" : Str)) = false := by decide)
    (hcd : (x == ("__classdict__" : Str)) = false := by decide) : PE X (.Name x pos) (LE X.K W (zv i)) := by
  refine pe_imp (pe_var hN hv hd hcd) fun σ H Q ⟨F, ρ, m, Pi, Qz, Ez, hz, he, h, k, _⟩ => ?_
  unfold zv at h
  cases q : ρ[i]? with
  | none => rw [q] at h; exact h.elim
  | some o =>
    cases o with
    | none => rw [q] at h; exact h.elim
    | some d =>
      rw [q] at h
      obtain ⟨v, h1, h2⟩ := he.2 i d q
      exact ⟨v, h1, k d m Pi v H PLe.refl hz h2 h⟩
theorem r_int {i j} : PE X (.Constant (.int i) j pos) (LE X.K W (zc (.int i))) := pe_imp pe_int fun σ H Q ⟨F, ρ, m, Pi, Qz, Ez, hz, he, h, k, _⟩ => k _ m Pi _ H PLe.refl hz .int h
theorem r_bl {i j} : PE X (.Constant (.bool i) j pos) (LE X.K W (zc (.bl i))) := pe_imp pe_bl fun σ H Q ⟨F, ρ, m, Pi, Qz, Ez, hz, he, h, k, _⟩ => k _ m Pi _ H PLe.refl hz .bl h
theorem r_non {j} : PE X (.Constant .none j pos) (LE X.K W (zc .non)) := pe_imp pe_non fun σ H Q ⟨F, ρ, m, Pi, Qz, Ez, hz, he, h, k, _⟩ => k _ m Pi _ H PLe.refl hz .non h
theorem r_str {i j} : PE X (.Constant (.str i) j pos) (LE X.K W (zc (.str i))) := pe_imp pe_str fun σ H Q ⟨F, ρ, m, Pi, Qz, Ez, hz, he, h, k, _⟩ => k _ m Pi _ H PLe.refl hz .str h
/-- what a name of the module stands for -/
def GVal (K : PySem.W.Frag) (mg : Str → Option Value) (x : Str) (d : D) : Prop := ∃ v u, mg x = some u ∧ RelV v u ∧ Rep K (fun _ => none) d v
theorem r_g {x : Str} {d : D} (g : GVal X.K X.mg x d) (hg : Gl X x := by rfl) (hd : (x == ("__debug__" : Str)) = false := by decide) : PE X (.Name x pos) (LE X.K W (zc d)) := by
  obtain ⟨v, u, g1, g2, g3⟩ := g
  exact pe_imp (pe_glob hg g1 g2 hd) fun σ H Q ⟨F, ρ, m, Pi, Qz, Ez, hz, he, h, k, _⟩ => k _ m Pi _ H PLe.refl hz (g3.mono PLe.bot) h
theorem r_bltn {x : Str} {n : String} (hm : X.mg x = none) (hv : bootBuiltins x = some (.type n)) (hg : Gl X x := by rfl) (hn : x ≠ "__name__" := by decide) (hd : (x == ("__debug__" : Str)) = false := by decide) : PE X (.Name x pos) (LE X.K W (zc (.ty n))) :=
  pe_imp (pe_bltn (v := .ty n) hg hm hv rfl hn hd) fun σ H Q ⟨F, ρ, m, Pi, Qz, Ez, hz, he, h, k, _⟩ => k _ m Pi _ H PLe.refl hz .ty h

theorem r_op {op : Operator} {o : ZOp} (ho : OpR X (binaryOp op) (RS X.K o)) (ha : PE X a (LE X.K W za)) (hb : PE X b (LE X.K W zb)) : PE X (.BinOp a op b pos) (LE X.K W (zop o za zb)) := by
  refine pe_imp (pe_op ho ha hb) fun σ H Q ⟨F, ρ, m, Pi, Qz, Ez, hz, he, h, k, kx⟩ => ?_
  exact ⟨F, ρ, m, Pi, _, Ez, hz, he, h, fun x m1 P1 v H1 l1 z1 r1 q1 => ⟨F, ρ, m1, P1, _, Ez, z1, he.mono l1, q1, fun y m2 P2 u H2 l2 z2 r2 q2 => ⟨x, y, F, m2, P2, Qz, z2, r1.mono l2, r2, q2, k.mono (l1.trans l2)⟩, kx.mono l1⟩, kx⟩
theorem r_cmp {op : CmpOp} {o : ZOp} (ho : OpR X (compareOp op) (RS X.K o)) (ha : PE X a (LE X.K W za)) (hb : PE X b (LE X.K W zb)) (hm : behindInMarks op b = false := by rfl) : PE X (.Compare a [op] [b] pos) (LE X.K W (zop o za zb)) := by
  refine pe_imp (pe_cmpR ho ha hb hm) fun σ H Q ⟨F, ρ, m, Pi, Qz, Ez, hz, he, h, k, kx⟩ => ?_
  exact ⟨F, ρ, m, Pi, _, Ez, hz, he, h, fun x m1 P1 v H1 l1 z1 r1 q1 => ⟨F, ρ, m1, P1, _, Ez, z1, he.mono l1, q1, fun y m2 P2 u H2 l2 z2 r2 q2 => ⟨x, y, F, m2, P2, Qz, z2, r1.mono l2, r2, q2, k.mono (l1.trans l2)⟩, kx.mono l1⟩, kx⟩
theorem r_chn {op op' : CmpOp} {o o' : ZOp} (ho : OpR X (compareOp op) (RS X.K o)) (ho' : OpR X (compareOp op') (RS X.K o')) (ha : PE X a (LE X.K W za)) (hb : PE X b (LE X.K W zb)) (hc : PE X c (LE X.K W zc')) (hm : lastMarks [op, op'] [b, c] = false := by with_unfolding_all rfl) :
    PE X (.Compare a [op, op'] [b, c] pos) (LE X.K W (zchn o o' za zb zc')) := by
  refine pe_imp (pe_chain ho ho' ha hb hc hm) fun σ H Q ⟨F, ρ, m, Pi, Qz, Ez, hz, he, h, k, kx⟩ => ?_
  refine ⟨F, ρ, m, Pi, _, Ez, hz, he, h, fun x m1 P1 v H1 l1 z1 r1 q1 => ⟨F, ρ, m1, P1, _, Ez, z1, he.mono l1, q1, fun y m2 P2 u H2 l2 z2 r2 q2 => ⟨x, y, F, m2, P2, _, z2, r1.mono l2, r2, q2, fun d m3 P3 v3 H3 l3 z3 r3 q3 => ?_⟩, kx.mono l1⟩, kx⟩
  cases r3 with
  | bl =>
    rename_i kb
    refine ⟨kb, rfl, ?_⟩
    cases kb with
    | true =>
      simp only [if_true] at q3 ⊢
      exact ⟨F, ρ, m3, P3, _, Ez, z3, (he.mono l1).mono (l2.trans l3), q3, fun w m4 P4 u4 H4 l4 z4 r4 q4 => ⟨y, w, F, m4, P4, Qz, z4, (r2.mono l3).mono l4, r4, q4, k.mono (((l1.trans l2).trans l3).trans l4)⟩, kx.mono ((l1.trans l2).trans l3)⟩
    | false =>
      simp only [Bool.false_eq_true, if_false] at q3 ⊢
      exact k _ m3 P3 _ H3 ((l1.trans l2).trans l3) z3 .bl q3
  | _ => exact q3.elim
theorem r_un {op : UnaryOp} {o : ZUn} (ho : UnR X (unaryOp op) (RU X.K o)) (ha : PE X a (LE X.K W za)) : PE X (.UnaryOp op a pos) (LE X.K W (zun o za)) := by
  refine pe_imp (pe_un ho ha) fun σ H Q ⟨F, ρ, m, Pi, Qz, Ez, hz, he, h, k, kx⟩ => ?_
  exact ⟨F, ρ, m, Pi, _, Ez, hz, he, h, fun x m1 P1 v H1 l1 z1 r1 q1 => ⟨x, F, m1, P1, Qz, z1, r1, q1, k.mono l1⟩, kx⟩
theorem r_anil : PA X [] (LA X.K W anil) := pa_imp pa_nil fun σ H Q ⟨F, ρ, m, Pi, Qz, Ez, hz, he, h, k, _⟩ => k _ m Pi _ H PLe.refl hz .nil h
theorem r_acons (ha : PE X e (LE X.K W ze)) (hr : PA X es (LA X.K W t)) (hs : starEach (e :: es) X.env = (false, eval e X.env) :: starEach es X.env := by rfl) : PA X (e :: es) (LA X.K W (acons ze t)) := by
  refine pa_imp (pa_cons ha hr hs) fun σ H Q ⟨F, ρ, m, Pi, Qz, Ez, hz, he, h, k, kx⟩ => ?_
  exact ⟨F, ρ, m, Pi, _, Ez, hz, he, h, fun x m1 P1 v H1 l1 z1 r1 q1 => ⟨F, ρ, m1, P1, _, Ez, z1, he.mono l1, q1, fun xs m2 P2 vs H2 l2 z2 r2 q2 => k _ m2 P2 _ H2 (l1.trans l2) z2 (.cons (r1.mono l2) r2) q2, kx.mono l1⟩, kx⟩
theorem r_tup {x1} (h : PA X es (LA X.K W t)) : PE X (.Tuple es x1 pos) (LE X.K W (ztup t)) := by
  refine pe_imp (pe_tup h) fun σ H Q ⟨F, ρ, m, Pi, Qz, Ez, hz, he, h, k, kx⟩ => ?_
  refine ⟨F, ρ, m, Pi, _, Ez, hz, he, h, fun xs m1 P1 vs H1 l1 z1 r1 ⟨q1, q2⟩ => ⟨by rw [← r1.length]; exact q1, fun p np => ?_⟩, kx⟩
  obtain ⟨z2, l2⟩ := z1.newPi np (.tup vs)
  exact k _ m1 _ _ _ (l1.trans l2) z2 (.tup (.inl (.inl upd_same)) (r1.mono l2)) q2
theorem r_fl (h : PA X es (LA X.K W t)) : PE X (.List es pos) (LE X.K W (zfl t)) := by
  refine pe_imp (pe_lst h) fun σ H Q ⟨F, ρ, m, Pi, Qz, Ez, hz, he, h, k, kx⟩ => ?_
  refine ⟨F, ρ, m, Pi, _, Ez, hz, he, h, fun xs m1 P1 vs H1 l1 z1 r1 ⟨q1, q2⟩ => ⟨by rw [← r1.length]; exact q1, fun p np => ?_⟩, kx⟩
  obtain ⟨z2, l2⟩ := z1.newPi np (.lst vs)
  exact k _ m1 _ _ _ (l1.trans l2) z2 (.fl (.inl (.inl upd_same)) (r1.mono l2)) q2
theorem r_lst (h : PA X es (LA X.K W t)) : PE X (.List es pos) (LE X.K W (zlst t)) := by
  refine pe_imp (pe_lst h) fun σ H Q ⟨F, ρ, m, Pi, Qz, Ez, hz, he, h, k, kx⟩ => ?_
  refine ⟨F, ρ, m, Pi, _, Ez, hz, he, h, fun xs m1 P1 vs H1 l1 z1 r1 ⟨q1, q2⟩ => ⟨by rw [← r1.length]; exact q1, fun p np => ?_⟩, kx⟩
  exact k _ _ P1 _ _ l1 (z1.newMu (u := .lst xs) np ⟨vs, upd_same, r1⟩) .ref (q2 p (z1.free np).1)
/-- a built-in by its name -/
theorem r_blt {x : Str} {id : String} {o : ZCl} (hc : CallR X (.builtin id) (RC X.K o)) (hm : X.mg x = none) (hv : bootBuiltins x = some (.builtin id)) (ha : PA X (e :: es) (LA X.K W t)) (hg : Gl X x := by rfl) (hn : x ≠ "__name__" := by decide) (hdb : (x == ("__debug__" : Str)) = false := by decide)
    (he : starEach (e :: es) X.env = (false, eval e X.env) :: starEach es X.env := by rfl) (hpl : (backTo pos (starEach es X.env)).any (·.1) = false := by rfl) : PE X (.Call (.Name x p) (e :: es) [] pos) (LE X.K W (zbl t o)) := by
  refine pe_imp (pe_callB hc hg hm hv ha hn hdb he hpl) fun σ H Q ⟨F, ρ, m, Pi, Qz, Ez, hz, he, h, k, kx⟩ => ?_
  exact ⟨F, ρ, m, Pi, _, Ez, hz, he, h, fun xs m1 P1 vs H1 l1 z1 r1 q1 => ⟨xs, F, m1, P1, Qz, z1, r1, q1, k.mono l1⟩, kx⟩
theorem r_bty {x : Str} {id : String} {o : ZCl} (hc : CallR X (.type id) (RC X.K o)) (hm : X.mg x = none) (hv : bootBuiltins x = some (.type id)) (ha : PA X (e :: es) (LA X.K W t)) (hg : Gl X x := by rfl) (hn : x ≠ "__name__" := by decide) (hdb : (x == ("__debug__" : Str)) = false := by decide)
    (he : starEach (e :: es) X.env = (false, eval e X.env) :: starEach es X.env := by rfl) (hpl : (backTo pos (starEach es X.env)).any (·.1) = false := by rfl) : PE X (.Call (.Name x p) (e :: es) [] pos) (LE X.K W (zbl t o)) := by
  refine pe_imp (pe_callTy hc hg hm hv ha hn hdb he hpl) fun σ H Q ⟨F, ρ, m, Pi, Qz, Ez, hz, he, h, k, kx⟩ => ?_
  exact ⟨F, ρ, m, Pi, _, Ez, hz, he, h, fun xs m1 P1 vs H1 l1 z1 r1 q1 => ⟨xs, F, m1, P1, Qz, z1, r1, q1, k.mono l1⟩, kx⟩

/-! ### tests -/
theorem tru_of {K : PySem.W.Frag} {F : Hp} {m : Mu} {Pi H : Hp} (z : Zm K F m Pi H) {d : D} {v : V} {k : Bool} (r : Rep K Pi d v) (h : truD d m = some k) : TruV K v H k := by
  cases r with
  | non => exact (Option.some.inj h).symm
  | bl => exact (Option.some.inj h).symm
  | int => exact (Option.some.inj h).symm
  | str =>
    rename_i x
    simp only [truD] at h
    by_cases hx : x.length ≤ sizeLine
    · rw [if_pos hx] at h
      exact ⟨hx, (Option.some.inj h).symm⟩
    · rw [if_neg hx] at h; cases h
  | ty => cases h
  | obj _ _ => cases h
  | tup hs rs =>
    rename_i a vs ds
    refine .inr (.inl ⟨vs, z.sub.sqt hs, ?_⟩)
    have e := rs.length
    have h' := Option.some.inj h
    rw [← h']
    cases ds <;> cases vs <;> first | rfl | (simp at e)
  | fl hs rs =>
    rename_i a vs ds
    refine .inl ⟨vs, z.sub.sql hs, ?_⟩
    have e := rs.length
    have h' := Option.some.inj h
    rw [← h']
    cases ds <;> cases vs <;> first | rfl | (simp at e)
  | ref =>
    rename_i a
    simp only [truD] at h
    cases q : m a with
    | none => rw [q] at h; cases h
    | some o =>
      rw [q] at h
      have k := z.ok a o q
      cases o with
      | lst ds =>
        obtain ⟨vs, e1, rs⟩ := k
        refine .inl ⟨vs, .inl (.inl e1), ?_⟩
        have e := rs.length
        have h' := Option.some.inj h
        rw [← h']
        cases ds <;> cases vs <;> first | rfl | (simp at e)
      | dct ds =>
        obtain ⟨vs, e1, rs⟩ := k
        refine .inr (.inr ⟨vs, e1, ?_⟩)
        have h' := Option.some.inj h
        rw [← h']
        cases rs <;> rfl
      | ins C fs => cases h
theorem r_tvl (h : PE X e (LE X.K W ze)) (he : ∀ whole, isTrue e X.env whole = (do let v ← whole; standAt e.pos; holding [v] (truthy v)) := by intro _; rfl) : PT X e (LT X.K W (tvl ze)) := by
  refine pt_imp (pt_val h he) fun σ H Q ⟨F, ρ, m, Pi, Qz, Ez, hz, he, h, k, kx⟩ => ?_
  refine ⟨F, ρ, m, Pi, _, Ez, hz, he, h, fun x m1 P1 v H1 l1 z1 r1 q1 => ?_, kx⟩
  cases r1 with
  | bl => exact ⟨_, rfl, k _ m1 P1 H1 l1 z1 q1⟩
  | _ => exact q1.elim
theorem r_ttr (h : PE X e (LE X.K W ze)) (he : ∀ whole, isTrue e X.env whole = (do let v ← whole; standAt e.pos; holding [v] (truthy v)) := by intro _; rfl) : PT X e (LT X.K W (ttr ze)) := by
  refine pt_imp (pt_truth h he) fun σ H Q ⟨F, ρ, m, Pi, Qz, Ez, hz, he, h, k, kx⟩ => ?_
  refine ⟨F, ρ, m, Pi, _, Ez, hz, he, h, fun x m1 P1 v H1 l1 z1 r1 q1 => ?_, kx⟩
  dsimp only at q1
  cases q : truD x m1 with
  | none => rw [q] at q1; exact q1.elim
  | some b =>
    rw [q] at q1
    exact ⟨b, tru_of z1 r1 q, k _ m1 P1 H1 l1 z1 q1⟩
variable {ta tb : ZTT} {rest : List Expr}
theorem r_and1 (ha : PT X a (LT X.K W ta)) : PW X (.BoolOp .And [a] pos) (LT X.K W ta) := pw_and1 ha
theorem r_or1 (ha : PT X a (LT X.K W ta)) : PW X (.BoolOp .Or [a] pos) (LT X.K W ta) := pw_or1 ha
theorem r_tand (ha : PT X a (LT X.K W ta)) (hb : PW X (.BoolOp .And (b :: rest) pos) (LT X.K W tb)) : PW X (.BoolOp .And (a :: b :: rest) pos) (LT X.K W (tand ta tb)) := by
  refine pw_imp (pw_and ha hb) fun σ H Q ⟨F, ρ, m, Pi, Qz, Ez, hz, he, h, k, kx⟩ => ?_
  refine ⟨F, ρ, m, Pi, _, Ez, hz, he, h, fun c m1 P1 H1 l1 z1 q1 => ?_, kx⟩
  cases c with
  | true => exact ⟨F, ρ, m1, P1, Qz, Ez, z1, he.mono l1, q1, k.mono l1, kx.mono l1⟩
  | false => exact k _ m1 P1 H1 l1 z1 q1
theorem r_tor (ha : PT X a (LT X.K W ta)) (hb : PW X (.BoolOp .Or (b :: rest) pos) (LT X.K W tb)) : PW X (.BoolOp .Or (a :: b :: rest) pos) (LT X.K W (tor ta tb)) := by
  refine pw_imp (pw_or ha hb) fun σ H Q ⟨F, ρ, m, Pi, Qz, Ez, hz, he, h, k, kx⟩ => ?_
  refine ⟨F, ρ, m, Pi, _, Ez, hz, he, h, fun c m1 P1 H1 l1 z1 q1 => ?_, kx⟩
  cases c with
  | true => exact k _ m1 P1 H1 l1 z1 q1
  | false => exact ⟨F, ρ, m1, P1, Qz, Ez, z1, he.mono l1, q1, k.mono l1, kx.mono l1⟩
theorem r_tnot (ha : PT X a (LT X.K W ta)) : PT X (.UnaryOp .Not a pos) (LT X.K W (tnot ta)) := by
  refine pt_imp (pt_not ha) fun σ H Q ⟨F, ρ, m, Pi, Qz, Ez, hz, he, h, k, kx⟩ => ?_
  exact ⟨F, ρ, m, Pi, _, Ez, hz, he, h, fun c m1 P1 H1 l1 z1 q1 => k _ m1 P1 H1 l1 z1 q1, kx⟩
theorem r_one {op} (h : PE X a (LE X.K W za)) : PE X (.BoolOp op [a] pos) (LE X.K W za) := pe_one h
theorem r_and (ha : PE X a (LE X.K W za)) (hb : PE X (.BoolOp .And (b :: rest) pos) (LE X.K W zb)) : PE X (.BoolOp .And (a :: b :: rest) pos) (LE X.K W (zand za zb)) := by
  refine pe_imp (pe_and ha hb) fun σ H Q ⟨F, ρ, m, Pi, Qz, Ez, hz, he, h, k, kx⟩ => ?_
  refine ⟨F, ρ, m, Pi, _, Ez, hz, he, h, fun x m1 P1 v H1 l1 z1 r1 q1 => ?_, kx⟩
  cases r1 with
  | bl =>
    rename_i c
    refine ⟨c, rfl, ?_⟩
    cases c with
    | true => exact ⟨F, ρ, m1, P1, Qz, Ez, z1, he.mono l1, q1, k.mono l1, kx.mono l1⟩
    | false => exact k _ m1 P1 _ H1 l1 z1 .bl q1
  | _ => exact q1.elim
theorem r_or (ha : PE X a (LE X.K W za)) (hb : PE X (.BoolOp .Or (b :: rest) pos) (LE X.K W zb)) : PE X (.BoolOp .Or (a :: b :: rest) pos) (LE X.K W (zor za zb)) := by
  refine pe_imp (pe_or ha hb) fun σ H Q ⟨F, ρ, m, Pi, Qz, Ez, hz, he, h, k, kx⟩ => ?_
  refine ⟨F, ρ, m, Pi, _, Ez, hz, he, h, fun x m1 P1 v H1 l1 z1 r1 q1 => ?_, kx⟩
  cases r1 with
  | bl =>
    rename_i c
    refine ⟨c, rfl, ?_⟩
    cases c with
    | true => exact k _ m1 P1 _ H1 l1 z1 .bl q1
    | false => exact ⟨F, ρ, m1, P1, Qz, Ez, z1, he.mono l1, q1, k.mono l1, kx.mono l1⟩
  | _ => exact q1.elim
theorem r_orT (ha : PE X a (LE X.K W za)) (hb : PE X (.BoolOp .Or (b :: rest) pos) (LE X.K W zb)) : PE X (.BoolOp .Or (a :: b :: rest) pos) (LE X.K W (zorT za zb)) := by
  refine pe_imp (pe_orT ha hb) fun σ H Q ⟨F, ρ, m, Pi, Qz, Ez, hz, he, h, k, kx⟩ => ?_
  refine ⟨F, ρ, m, Pi, _, Ez, hz, he, h, fun x m1 P1 v H1 l1 z1 r1 q1 => ?_, kx⟩
  dsimp only at q1
  cases q : truD x m1 with
  | none => rw [q] at q1; exact q1.elim
  | some c =>
    rw [q] at q1
    refine ⟨c, tru_of z1 r1 q, ?_⟩
    cases c with
    | true => exact k _ m1 P1 _ H1 l1 z1 r1 q1
    | false => exact ⟨F, ρ, m1, P1, Qz, Ez, z1, he.mono l1, q1, k.mono l1, kx.mono l1⟩
theorem r_not (ha : PE X a (LE X.K W za)) : PE X (.UnaryOp .Not a pos) (LE X.K W (znot za)) := by
  refine pe_imp (pe_notT ha) fun σ H Q ⟨F, ρ, m, Pi, Qz, Ez, hz, he, h, k, kx⟩ => ?_
  refine ⟨F, ρ, m, Pi, _, Ez, hz, he, h, fun x m1 P1 v H1 l1 z1 r1 q1 => ?_, kx⟩
  dsimp only at q1
  cases q : truD x m1 with
  | none => rw [q] at q1; exact q1.elim
  | some c =>
    rw [q] at q1
    exact ⟨c, tru_of z1 r1 q, k _ m1 P1 _ H1 l1 z1 .bl q1⟩
theorem r_if (hc : PT X c (LT X.K W ta)) (ha : PE X a (LE X.K W za)) (hb : PE X b (LE X.K W zb)) : PE X (.IfExp c a b pos) (LE X.K W (zif ta za zb)) := by
  refine pe_imp (pe_ifExp hc ha hb) fun σ H Q ⟨F, ρ, m, Pi, Qz, Ez, hz, he, h, k, kx⟩ => ?_
  refine ⟨F, ρ, m, Pi, _, Ez, hz, he, h, fun c m1 P1 H1 l1 z1 q1 => ?_, kx⟩
  cases c with
  | true => exact ⟨F, ρ, m1, P1, Qz, Ez, z1, he.mono l1, q1, k.mono l1, kx.mono l1⟩
  | false => exact ⟨F, ρ, m1, P1, Qz, Ez, z1, he.mono l1, q1, k.mono l1, kx.mono l1⟩
end
end Zed
end
section
set_option maxHeartbeats 4000000
/-! Zed3: operators, built-ins, subscripts, methods. -/
namespace Zed
open PySem PySem.Spec PyProof.Rows L2

def oAdd : ZOp
  | .int i, .int j, m, Q => Q (.int (i + j)) m
  | .str x, .str y, m, Q => x.length + y.length ≤ sizeLine ∧ Q (.str (x ++ y)) m
  | .tup xs, .tup ys, m, Q => xs.length + ys.length ≤ sizeLine ∧ Q (.tup (xs ++ ys)) m
  | .int i, .bl k, m, Q => Q (.int (i + b2i k)) m
  | .ref a, .ref b, m, Q => match m a, m b with
    | some (.lst xs), some (.lst ys) => xs.length + ys.length ≤ sizeLine ∧ ∀ p, m p = none → Q (.ref p) (updM m p (.lst (xs ++ ys)))
    | _, _ => False
  | _, _, _, _ => False
def oInt (C : Int → Int → Prop) (f : Int → Int → Int) : ZOp
  | .int i, .int j, m, Q => C i j ∧ Q (.int (f i j)) m
  | _, _, _, _ => False
def oSub : ZOp
  | .int i, .int j, m, Q => Q (.int (i - j)) m
  | _, _, _, _ => False
abbrev oMul : ZOp := oInt CMulW fun i j => i * j
/-- floor division and rest by a divisor above 0 -/
abbrev oFdv : ZOp := oInt CDivW fun i j => i / j
abbrev oMod : ZOp := oInt (fun _ j => 0 < j) fun i j => i % j
abbrev oModN : ZOp := oInt (fun _ j => j ≠ 0) fun i j => i.fmod j
abbrev oPow : ZOp := oInt CPow fun i j => i ^ j.toNat
abbrev oShl : ZOp := oInt CShl fun i j => i * 2 ^ j.toNat
abbrev oShr : ZOp := oInt (fun _ j => 0 ≤ j) fun i j => i / 2 ^ j.toNat
abbrev oBand : ZOp := oInt (fun _ _ => True) fun i j => Builtin.bitAnd i j
def oLt' (f : Int → Int → Bool) : ZOp
  | .int i, .int j, m, Q => Q (.bl (f i j)) m
  | _, _, _, _ => False
abbrev oLt : ZOp := oLt' fun i j => decide (i < j)
abbrev oLe : ZOp := oLt' fun i j => decide (i ≤ j)
abbrev oGt : ZOp := oLt' fun i j => decide (j < i)
abbrev oGe : ZOp := oLt' fun i j => decide (j ≤ i)
mutual
def D.toP : D → PyData
  | .non => .none
  | .bl b => .bool b
  | .int i => .int i
  | .str x => .str x
  | .tup xs => .tuple (toPs xs)
  | .fl xs => .list (toPs xs)
  | .ty _ => .dict []
  | .ref _ => .dict []
  | .obj _ _ => .dict []
def toPs : List D → List PyData
  | [] => []
  | x :: xs => D.toP x :: toPs xs
end
def rsD (m : Mu) : D → D
  | .ref a => match m a with
    | some (.lst xs) => .fl xs
    | _ => .ref a
  | d => d
def oEq : ZOp
  | .int i, .int j, m, Q => Q (.bl (decide (i = j))) m
  | d, e, m, Q => SeqAt.shaped (rsD m d).toP = true ∧ SeqAt.shaped (rsD m e).toP = true ∧ Q (.bl (PyData.eqv (rsD m d).toP (rsD m e).toP)) m
def oNe : ZOp
  | .int i, .int j, m, Q => Q (.bl (!decide (i = j))) m
  | d, e, m, Q => SeqAt.shaped (rsD m d).toP = true ∧ SeqAt.shaped (rsD m e).toP = true ∧ Q (.bl (!PyData.eqv (rsD m d).toP (rsD m e).toP)) m
/-- x is None, x is True where x is a truth -/
def isNon : D → Bool
  | .non => true
  | _ => false
def oIs : ZOp
  | d, .non, m, Q => Q (.bl (isNon d)) m
  | .bl a, .bl b, m, Q => Q (.bl (decide (a = b))) m
  | _, _, _, _ => False
def oIsNot : ZOp
  | d, .non, m, Q => Q (.bl (!isNon d)) m
  | .bl a, .bl b, m, Q => Q (.bl (!decide (a = b))) m
  | _, _, _, _ => False

theorem dec_int' {i j : Int} : decide (V.int i = V.int j) = decide (i = j) := by
  by_cases h : i = j
  · subst h; simp
  · rw [decide_eq_false h, decide_eq_false fun e => h (V.int.inj e)]
section
variable {X : Cx}
theorem fin_int {K : PySem.W.Frag} {F Pi H : Hp} {m : Mu} {Qz : QE} {Q : VK} {i : Int} (k : ContE K F Pi Qz Q) (z : Zm K F m Pi H) (h : Qz (.int i) m) : Q (.int i) H := k _ m Pi _ H PLe.refl z .int h
theorem fin_bl {K : PySem.W.Frag} {F Pi H : Hp} {m : Mu} {Qz : QE} {Q : VK} {i : Bool} (k : ContE K F Pi Qz Q) (z : Zm K F m Pi H) (h : Qz (.bl i) m) : Q (.bl i) H := k _ m Pi _ H PLe.refl z .bl h
theorem fin_str {K : PySem.W.Frag} {F Pi H : Hp} {m : Mu} {Qz : QE} {Q : VK} {i : Str} (k : ContE K F Pi Qz Q) (z : Zm K F m Pi H) (h : Qz (.str i) m) : Q (.str i) H := k _ m Pi _ H PLe.refl z .str h
theorem fin_tup {K : PySem.W.Frag} {F Pi H : Hp} {m : Mu} {Qz : QE} {Q : VK} {ds : List D} {vs : List V} {p : Addr} (k : ContE K F Pi Qz Q) (z : Zm K F m Pi H) (r : Reps K Pi ds vs) (np : H p = none) (h : Qz (.tup ds) m) : Q (.ref p) (upd H p (.tup vs)) := by
  obtain ⟨z2, l2⟩ := z.newPi np (.tup vs)
  exact k _ m _ _ _ l2 z2 (.tup (.inl (.inl upd_same)) (r.mono l2)) h
theorem fin_fl {K : PySem.W.Frag} {F Pi H : Hp} {m : Mu} {Qz : QE} {Q : VK} {ds : List D} {vs : List V} {p : Addr} (k : ContE K F Pi Qz Q) (z : Zm K F m Pi H) (r : Reps K Pi ds vs) (np : H p = none) (h : Qz (.fl ds) m) : Q (.ref p) (upd H p (.lst vs)) := by
  obtain ⟨z2, l2⟩ := z.newPi np (.lst vs)
  exact k _ m _ _ _ l2 z2 (.fl (.inl (.inl upd_same)) (r.mono l2)) h
theorem fin_lst {K : PySem.W.Frag} {F Pi H : Hp} {m : Mu} {Qz : QE} {Q : VK} {ds : List D} {vs : List V} {p : Addr} (k : ContE K F Pi Qz Q) (z : Zm K F m Pi H) (r : Reps K Pi ds vs) (np : H p = none) (h : ∀ p, m p = none → Qz (.ref p) (updM m p (.lst ds))) : Q (.ref p) (upd H p (.lst vs)) :=
  k _ _ Pi _ _ PLe.refl (z.newMu (u := .lst ds) np ⟨vs, upd_same, r⟩) .ref (h p (z.free np).1)
theorem fin_same {K : PySem.W.Frag} {F Pi H : Hp} {m : Mu} {Qz : QE} {Q : VK} {d : D} {v : V} (k : ContE K F Pi Qz Q) (z : Zm K F m Pi H) (r : Rep K Pi d v) (h : Qz d m) : Q v H := k _ m Pi _ H PLe.refl z r h

theorem op_of_int {f : Value → Value → Sem Value} {C : Int → Int → Prop} {g : Int → Int → Int} (ho : OpR X f (rI C fun i j => .int (g i j))) : OpR X f (RS X.K (oInt C g)) := by
  intro pins s σ H x y v u Q I rx ry ⟨d, e, F, m, Pi, Qz, z, r1, r2, h, k⟩
  cases r1 with
  | int =>
    cases r2 with
    | int =>
      obtain ⟨h1, h2⟩ := h
      exact ho pins s σ H _ _ v u Q I rx ry ⟨_, _, rfl, rfl, h1, fin_int k z h2⟩
    | _ => exact h.elim
  | _ => exact h.elim
theorem op_of_cmp {f : Value → Value → Sem Value} {g : Int → Int → Bool} (ho : OpR X f (rI0 fun i j => .bl (g i j))) : OpR X f (RS X.K (oLt' g)) := by
  intro pins s σ H x y v u Q I rx ry ⟨d, e, F, m, Pi, Qz, z, r1, r2, h, k⟩
  cases r1 with
  | int =>
    cases r2 with
    | int => exact ho pins s σ H _ _ v u Q I rx ry ⟨_, _, rfl, rfl, fin_bl k z h⟩
    | _ => exact h.elim
  | _ => exact h.elim
theorem oi0 {f : Value → Value → Sem Value} {g : Int → Int → Int} (ho : OpR X f (rI0 fun i j => .int (g i j))) : OpR X f (rI (fun _ _ => True) fun i j => .int (g i j)) := by
  intro pins s σ H x y v u Q I rx ry ⟨i, j, e1, e2, _, q⟩
  exact ho pins s σ H x y v u Q I rx ry ⟨i, j, e1, e2, q⟩
theorem o_mul : OpR X (binaryOp .Mult) (RS X.K oMul) := op_of_int op_mulW
theorem o_fdv : OpR X (binaryOp .FloorDiv) (RS X.K oFdv) := op_of_int op_fdivW
theorem o_mod : OpR X (binaryOp .Mod) (RS X.K oMod) := op_of_int op_mod
theorem o_modN : OpR X (binaryOp .Mod) (RS X.K oModN) := op_of_int op_modN
theorem o_pow : OpR X (binaryOp .Pow) (RS X.K oPow) := op_of_int op_pow
theorem o_shl : OpR X (binaryOp .LShift) (RS X.K oShl) := op_of_int op_shlW
theorem o_shr : OpR X (binaryOp .RShift) (RS X.K oShr) := op_of_int op_shr
theorem o_band : OpR X (binaryOp .BitAnd) (RS X.K oBand) := op_of_int (oi0 op_and)
theorem o_sub : OpR X (binaryOp .Sub) (RS X.K oSub) := by
  intro pins s σ H x y v u Q I rx ry ⟨d, e, F, m, Pi, Qz, z, r1, r2, h, k⟩
  cases r1 with
  | int =>
    cases r2 with
    | int => exact op_sub pins s σ H _ _ v u Q I rx ry ⟨_, _, rfl, rfl, fin_int k z h⟩
    | _ => exact h.elim
  | _ => exact h.elim
theorem o_add : OpR X (binaryOp .Add) (RS X.K oAdd) := by
  intro pins s σ H x y v u Q I rx ry ⟨d, e, F, m, Pi, Qz, z, r1, r2, h, k⟩
  cases r1 with
  | int =>
    cases r2 with
    | int => exact op_add pins s σ H _ _ v u Q I rx ry ⟨_, _, rfl, rfl, fin_int k z h⟩
    | bl => exact op_add_ib pins s σ H _ _ v u Q I rx ry ⟨_, _, rfl, rfl, fin_int k z h⟩
    | _ => exact h.elim
  | str =>
    cases r2 with
    | str => exact op_add_str pins s σ H _ _ v u Q I rx ry ⟨_, _, rfl, rfl, h.1, fin_str k z h.2⟩
    | _ => exact h.elim
  | tup h1 q1 =>
    cases r2 with
    | tup h2 q2 =>
      rename_i a vs ds b vs2 ds2
      refine op_catA pins s σ H _ _ v u Q I rx ry ⟨a, b, vs, vs2, rfl, rfl, z.sub.sqt h1, z.sub.sqt h2, by rw [← q1.length, ← q2.length]; exact h.1, fun e => ?_, fun _ e => ?_, fun _ _ p np => ?_⟩
      · subst e
        cases q1
        exact fin_same k z (.tup h2 q2) h.2
      · subst e
        cases q2
        have h' := h.2
        rw [List.append_nil] at h'
        exact fin_same k z (.tup h1 q1) h'
      · exact fin_tup k z (q1.append q2) np h.2
    | _ => exact h.elim
  | ref =>
    cases r2 with
    | ref =>
      rename_i a b
      simp only [oAdd] at h
      cases ea : m a with
      | none => rw [ea] at h; exact h.elim
      | some oa =>
        cases eb : m b with
        | none => rw [ea, eb] at h; cases oa <;> exact h.elim
        | some ob =>
          rw [ea, eb] at h
          cases oa with
          | lst xs =>
            cases ob with
            | lst ys =>
              obtain ⟨vs, g1, q1⟩ := z.ok a _ ea
              obtain ⟨ws, g2, q2⟩ := z.ok b _ eb
              exact op_cat pins s σ H _ _ v u Q I rx ry ⟨a, b, vs, ws, rfl, rfl, g1, g2, by rw [← q1.length, ← q2.length]; exact h.1, fun p np => fin_lst k z (q1.append q2) np h.2⟩
            | _ => exact h.elim
          | _ => exact h.elim
    | _ => exact h.elim
  | _ => exact h.elim
theorem o_lt : OpR X (compareOp .Lt) (RS X.K oLt) := op_of_cmp op_lt
theorem o_le : OpR X (compareOp .LtE) (RS X.K oLe) := op_of_cmp op_le
theorem o_gt : OpR X (compareOp .Gt) (RS X.K oGt) := op_of_cmp op_gt
theorem o_ge : OpR X (compareOp .GtE) (RS X.K oGe) := op_of_cmp op_ge

/-! ### == -/
theorem canLay_dict {l} : PyData.canLay0 (.dict l) = false := by simp [PyData.canLay0]
theorem shaped_dict {l} : SeqAt.shaped (.dict l) = true → False := by
  intro h
  have h1 := (Bool.and_eq_true_iff.mp h).1
  rw [canLay_dict] at h1
  cases h1
mutual
theorem dp_of {K : PySem.W.Frag} {Pi : Hp} : ∀ {d v}, Rep K Pi d v → d.toP.canLay0 = true → Dp K Pi v d.toP
  | _, _, .non, _ => by rw [D.toP]; exact .non
  | _, _, .bl, _ => by rw [D.toP]; exact .bl _
  | _, _, .int, _ => by rw [D.toP]; exact .int _
  | _, _, .str, _ => by rw [D.toP]; exact .str _
  | _, _, .ty, h => by rw [D.toP, canLay_dict] at h; cases h
  | _, _, .ref, h => by rw [D.toP, canLay_dict] at h; cases h
  | _, _, .obj _ _, h => by rw [D.toP, canLay_dict] at h; cases h
  | _, _, .tup hs rs, h => by
    rw [D.toP] at h ⊢
    exact .tup hs (dps_of rs (by simpa only [PyData.canLay0] using h))
  | _, _, .fl hs rs, h => by
    rw [D.toP] at h ⊢
    exact .lst hs (dps_of rs (by simpa only [PyData.canLay0] using h))
theorem dps_of {K : PySem.W.Frag} {Pi : Hp} : ∀ {ds vs}, Reps K Pi ds vs → PyData.canLayAll0 (toPs ds) = true → DpAll K Pi vs (toPs ds)
  | _, _, .nil, _ => by rw [toPs]; exact .nil
  | _, _, .cons r rs, h => by
    rw [toPs] at h ⊢
    simp only [PyData.canLayAll0, Bool.and_eq_true] at h
    exact .cons (dp_of r h.1) (dps_of rs h.2)
end
mutual
theorem Dp.mono' {K : PySem.W.Frag} {P Q : Hp} (l : PLe P Q) : ∀ {v d}, Dp K P v d → Dp K Q v d
  | _, _, .non => .non
  | _, _, .bl _ => .bl _
  | _, _, .int _ => .int _
  | _, _, .str _ => .str _
  | _, _, .lst h r => .lst (l.sql h) (DpAll.mono' l r)
  | _, _, .tup h r => .tup (l.sqt h) (DpAll.mono' l r)
theorem DpAll.mono' {K : PySem.W.Frag} {P Q : Hp} (l : PLe P Q) : ∀ {v d}, DpAll K P v d → DpAll K Q v d
  | _, _, .nil => .nil
  | _, _, .cons h r => .cons (Dp.mono' l h) (DpAll.mono' l r)
end
theorem dp_rs {K : PySem.W.Frag} {F : Hp} {m : Mu} {Pi H : Hp} (z : Zm K F m Pi H) {d : D} {v : V} (r : Rep K Pi d v) (h : SeqAt.shaped (rsD m d).toP = true) : Dp K H v (rsD m d).toP := by
  have hc := SeqAt.canLay_of_shaped h
  cases r with
  | ref =>
    rename_i a
    simp only [rsD] at h hc ⊢
    cases q : m a with
    | none => rw [q] at h; exact (shaped_dict (by simpa only [D.toP] using h)).elim
    | some o =>
      rw [q] at h hc
      cases o with
      | lst xs =>
        obtain ⟨vs, e1, rs⟩ := z.ok a _ q
        simp only [D.toP] at hc ⊢
        exact .lst (.inl (.inl e1)) (DpAll.mono' z.sub (dps_of rs (by simpa only [PyData.canLay0] using hc)))
      | ins C fs => exact (shaped_dict (by simpa only [D.toP] using h)).elim
      | dct kvs => exact (shaped_dict (by simpa only [D.toP] using h)).elim
  | non => exact Dp.mono' z.sub (dp_of .non hc)
  | bl => exact Dp.mono' z.sub (dp_of .bl hc)
  | int => exact Dp.mono' z.sub (dp_of .int hc)
  | str => exact Dp.mono' z.sub (dp_of .str hc)
  | ty => exact Dp.mono' z.sub (dp_of .ty hc)
  | tup a b => exact Dp.mono' z.sub (dp_of (.tup a b) hc)
  | fl a b => exact Dp.mono' z.sub (dp_of (.fl a b) hc)
  | obj a b => exact Dp.mono' z.sub (dp_of (.obj a b) hc)
theorem o_eq (hu : X.A.units + 64 < cLine) : OpR X (compareOp .Eq) (RS X.K oEq) := by
  intro pins s σ H x y v u Q I rx ry ⟨d, e, F, m, Pi, Qz, z, r1, r2, h, k⟩
  have gen : SeqAt.shaped (rsD m d).toP = true ∧ SeqAt.shaped (rsD m e).toP = true ∧ Qz (.bl (PyData.eqv (rsD m d).toP (rsD m e).toP)) m → wpAny (model X.prog X.w) X.A (compareOp .Eq v u) (EP X pins σ Q) X.xe s := fun ⟨h1, h2, h3⟩ =>
    op_eqD hu pins s σ H x y v u Q I rx ry ⟨_, _, dp_rs z r1 h1, dp_rs z r2 h2, h1, h2, fin_bl k z h3⟩
  cases r1 with
  | int =>
    cases r2 with
    | int =>
      refine op_eq pins s σ H _ _ v u Q I rx ry ⟨rfl, fin_bl k z ?_⟩
      rw [dec_int']
      exact h
    | _ => exact gen h
  | _ => exact gen h
theorem o_ne (hu : X.A.units + 64 < cLine) : OpR X (compareOp .NotEq) (RS X.K oNe) := by
  intro pins s σ H x y v u Q I rx ry ⟨d, e, F, m, Pi, Qz, z, r1, r2, h, k⟩
  have gen : SeqAt.shaped (rsD m d).toP = true ∧ SeqAt.shaped (rsD m e).toP = true ∧ Qz (.bl (!PyData.eqv (rsD m d).toP (rsD m e).toP)) m → wpAny (model X.prog X.w) X.A (compareOp .NotEq v u) (EP X pins σ Q) X.xe s := fun ⟨h1, h2, h3⟩ =>
    op_neD hu pins s σ H x y v u Q I rx ry ⟨_, _, dp_rs z r1 h1, dp_rs z r2 h2, h1, h2, fin_bl k z h3⟩
  cases r1 with
  | int =>
    cases r2 with
    | int =>
      refine op_ne pins s σ H _ _ v u Q I rx ry ⟨rfl, fin_bl k z ?_⟩
      rw [dec_int']
      exact h
    | _ => exact gen h
  | _ => exact gen h
theorem isNon_of {K : PySem.W.Frag} {Pi : Hp} {d : D} {v : V} (r : Rep K Pi d v) : decide (v = .non) = isNon d := by
  cases r <;> first | rfl | simp [isNon]
theorem o_is : OpR X (compareOp .Is) (RS X.K oIs) := by
  intro pins s σ H x y v u Q I rx ry ⟨d, e, F, m, Pi, Qz, z, r1, r2, h, k⟩
  cases r2 with
  | non =>
    have h' : Qz (.bl (isNon d)) m := by cases d <;> exact h
    exact op_isN pins s σ H _ _ v u Q I rx ry ⟨rfl, fin_bl k z (by rw [isNon_of r1]; exact h')⟩
  | bl =>
    cases r1 with
    | bl => exact op_isBl pins s σ H _ _ v u Q I rx ry ⟨_, _, rfl, rfl, fin_bl k z h⟩
    | _ => exact h.elim
  | _ => cases r1 <;> exact h.elim
theorem o_isnot : OpR X (compareOp .IsNot) (RS X.K oIsNot) := by
  intro pins s σ H x y v u Q I rx ry ⟨d, e, F, m, Pi, Qz, z, r1, r2, h, k⟩
  cases r2 with
  | non =>
    have h' : Qz (.bl (!isNon d)) m := by cases d <;> exact h
    exact op_notN pins s σ H _ _ v u Q I rx ry ⟨rfl, fin_bl k z (by rw [isNon_of r1]; exact h')⟩
  | bl =>
    cases r1 with
    | bl => exact op_notBl pins s σ H _ _ v u Q I rx ry ⟨_, _, rfl, rfl, fin_bl k z h⟩
    | _ => exact h.elim
  | _ => cases r1 <;> exact h.elim

/-! ### unary -/
def oNeg : ZUn
  | .int i, m, Q => Q (.int (-i)) m
  | _, _, _ => False
theorem o_neg : UnR X (unaryOp .USub) (RU X.K oNeg) := by
  intro pins s σ H x v Q I rx ⟨d, F, m, Pi, Qz, z, r1, h, k⟩
  cases r1 with
  | int => exact un_neg pins s σ H _ v Q I rx ⟨_, rfl, fin_int k z h⟩
  | _ => exact h.elim

/-! ### built-ins -/
def cAbs : ZCl
  | [.int i], m, Q => Q (.int (if i < 0 then -i else i)) m
  | _, _, _ => False
def cMax : ZCl
  | [.int i, .int j], m, Q => Q (.int (if j > i then j else i)) m
  | _, _, _ => False
def cMin : ZCl
  | [.int i, .int j], m, Q => Q (.int (if j < i then j else i)) m
  | _, _, _ => False
def cInt : ZCl
  | [.int i], m, Q => Q (.int i) m
  | [.bl k], m, Q => Q (.int (if k then 1 else 0)) m
  | _, _, _ => False
def cDivmod : ZCl
  | [.int i, .int j], m, Q => CDivP i j ∧ Q (.tup [.int (i / j), .int (i % j)]) m
  | _, _, _ => False
def lenD (m : Mu) : D → Option Nat
  | .str x => if x.length ≤ sizeLine then some x.length else none
  | .tup xs => some xs.length
  | .fl xs => some xs.length
  | .ref a => match m a with
    | some (.lst xs) => some xs.length
    | _ => none
  | _ => none
def cLen : ZCl
  | [d], m, Q => match lenD m d with
    | some n => Q (.int n) m
    | none => False
  | _, _, _ => False
/-- tuple(xs) -/
def cTuple : ZCl
  | [.tup xs], m, Q => Q (.tup xs) m
  | [.fl xs], m, Q => Q (.tup xs) m
  | [.ref a], m, Q => match m a with
    | some (.lst xs) => Q (.tup xs) m
    | _ => False
  | _, _, _ => False
/-- list(xs): one that never changes; one that may -/
def cListF : ZCl
  | [.tup xs], m, Q => Q (.fl xs) m
  | [.fl xs], m, Q => Q (.fl xs) m
  | [.ref a], m, Q => match m a with
    | some (.lst xs) => Q (.fl xs) m
    | _ => False
  | _, _, _ => False
def cList : ZCl
  | [.tup xs], m, Q => ∀ p, m p = none → Q (.ref p) (updM m p (.lst xs))
  | [.fl xs], m, Q => ∀ p, m p = none → Q (.ref p) (updM m p (.lst xs))
  | [.ref a], m, Q => match m a with
    | some (.lst xs) => ∀ p, m p = none → Q (.ref p) (updM m p (.lst xs))
    | _ => False
  | _, _, _ => False
def seqD (m : Mu) : D → Option (List D)
  | .fl xs => some xs
  | .ref a => match m a with
    | some (.lst xs) => some xs
    | _ => none
  | _ => none
theorem seq_of {K : PySem.W.Frag} {F : Hp} {m : Mu} {Pi H : Hp} (z : Zm K F m Pi H) {d : D} {v : V} {xs : List D} (r : Rep K Pi d v) (h : seqD m d = some xs) : ∃ a vs, v = .ref a ∧ SqL K H a vs ∧ Reps K Pi xs vs := by
  cases r with
  | fl hs rs =>
    cases h
    exact ⟨_, _, rfl, z.sub.sql hs, rs⟩
  | ref =>
    rename_i a
    simp only [seqD] at h
    cases q : m a with
    | none => rw [q] at h; cases h
    | some o =>
      rw [q] at h
      cases o with
      | lst ys =>
        cases h
        obtain ⟨vs, e, rs⟩ := z.ok a _ q
        exact ⟨_, _, rfl, .inl (.inl e), rs⟩
      | _ => cases h
  | _ => cases h
def intsD : List D → Option (List Int)
  | [] => some []
  | .int i :: r => (intsD r).map (i :: ·)
  | _ :: _ => none
def blsD : List D → Option (List Bool)
  | [] => some []
  | .bl i :: r => (blsD r).map (i :: ·)
  | _ :: _ => none
theorem intsD_eq : ∀ {ds : List D} {ns}, intsD ds = some ns → ds = ns.map .int
  | [], _, h => by cases h; rfl
  | d :: r, ns, h => by
    cases d with
    | int i =>
      simp only [intsD] at h
      cases q : intsD r with
      | none => rw [q] at h; cases h
      | some ms =>
        rw [q] at h
        cases h
        rw [intsD_eq q]
        rfl
    | _ => cases h
theorem blsD_eq : ∀ {ds : List D} {ns}, blsD ds = some ns → ds = ns.map .bl
  | [], _, h => by cases h; rfl
  | d :: r, ns, h => by
    cases d with
    | bl i =>
      simp only [blsD] at h
      cases q : blsD r with
      | none => rw [q] at h; cases h
      | some ms =>
        rw [q] at h
        cases h
        rw [blsD_eq q]
        rfl
    | _ => cases h
theorem intsD_map : ∀ ns : List Int, intsD (ns.map .int) = some ns
  | [] => rfl
  | n :: r => by
    show (intsD (r.map .int)).map (n :: ·) = _
    rw [intsD_map r]
    rfl
theorem blsD_map : ∀ ns : List Bool, blsD (ns.map .bl) = some ns
  | [] => rfl
  | n :: r => by
    show (blsD (r.map .bl)).map (n :: ·) = _
    rw [blsD_map r]
    rfl
def cInts (f : List Int → QE → Mu → Prop) : ZCl
  | [d], m, Q => match seqD m d with
    | some xs => match intsD xs with
      | some ns => f ns Q m
      | none => False
    | none => False
  | _, _, _ => False
def cBls (f : List Bool → QE → Mu → Prop) : ZCl
  | [d], m, Q => match seqD m d with
    | some xs => match blsD xs with
      | some ns => f ns Q m
      | none => False
    | none => False
  | _, _, _ => False
abbrev cSum : ZCl := cInts fun ns Q m => Q (.int ns.sum) m
abbrev cMaxL : ZCl := cInts fun ns Q m => 0 < ns.length ∧ ∀ k, k ∈ ns → (∀ y, y ∈ ns → y ≤ k) → Q (.int k) m
abbrev cMinL : ZCl := cInts fun ns Q m => 0 < ns.length ∧ ∀ k, k ∈ ns → (∀ y, y ∈ ns → k ≤ y) → Q (.int k) m
abbrev cAny : ZCl := cBls fun ns Q m => Q (.bl (ns.any id)) m
abbrev cAll : ZCl := cBls fun ns Q m => Q (.bl (ns.all id)) m
theorem ints_of {K : PySem.W.Frag} {F : Hp} {m : Mu} {Pi H : Hp} (z : Zm K F m Pi H) {f : List Int → QE → Mu → Prop} {ds : List D} {vs : List V} {Qz : QE} (r : Reps K Pi ds vs) (h : cInts f ds m Qz) : ∃ a ns, vs = [.ref a] ∧ SqL K H a (ns.map V.int) ∧ f ns Qz m := by
  cases r with
  | nil => exact h.elim
  | cons r1 r2 =>
    cases r2 with
    | cons _ _ => exact h.elim
    | nil =>
      simp only [cInts] at h
      rename_i d v
      cases q : seqD m d with
      | none => rw [q] at h; exact h.elim
      | some xs =>
        rw [q] at h
        dsimp only at h
        cases q2 : intsD xs with
        | none => rw [q2] at h; exact h.elim
        | some ns =>
          rw [q2] at h
          obtain ⟨a, vs, rfl, hs, rs⟩ := seq_of z r1 q
          obtain rfl := intsD_eq q2
          rw [Reps.of_ints rs] at hs
          exact ⟨a, ns, rfl, hs, h⟩
theorem bls_of {K : PySem.W.Frag} {F : Hp} {m : Mu} {Pi H : Hp} (z : Zm K F m Pi H) {f : List Bool → QE → Mu → Prop} {ds : List D} {vs : List V} {Qz : QE} (r : Reps K Pi ds vs) (h : cBls f ds m Qz) : ∃ a ns, vs = [.ref a] ∧ SqL K H a (ns.map V.bl) ∧ f ns Qz m := by
  cases r with
  | nil => exact h.elim
  | cons r1 r2 =>
    cases r2 with
    | cons _ _ => exact h.elim
    | nil =>
      simp only [cBls] at h
      rename_i d v
      cases q : seqD m d with
      | none => rw [q] at h; exact h.elim
      | some xs =>
        rw [q] at h
        dsimp only at h
        cases q2 : blsD xs with
        | none => rw [q2] at h; exact h.elim
        | some ns =>
          rw [q2] at h
          obtain ⟨a, vs, rfl, hs, rs⟩ := seq_of z r1 q
          obtain rfl := blsD_eq q2
          rw [Reps.of_bls rs] at hs
          exact ⟨a, ns, rfl, hs, h⟩
theorem reps1 {K : PySem.W.Frag} {Pi : Hp} {d : D} {vs : List V} (r : Reps K Pi [d] vs) : ∃ v, vs = [v] ∧ Rep K Pi d v := by
  cases r with
  | cons r1 r2 => cases r2; exact ⟨_, rfl, r1⟩
theorem reps2 {K : PySem.W.Frag} {Pi : Hp} {d e : D} {vs : List V} (r : Reps K Pi [d, e] vs) : ∃ v u, vs = [v, u] ∧ Rep K Pi d v ∧ Rep K Pi e u := by
  cases r with
  | cons r1 r2 =>
    obtain ⟨u, rfl, r3⟩ := reps1 r2
    exact ⟨_, _, rfl, r1, r3⟩
theorem c_sum (hc : X.calm = true := by rfl) : CallR X (.builtin "sum") (RC X.K cSum) := by
  intro pins s σ H xs us Q I rv ⟨ds, F, m, Pi, Qz, z, r, h, k⟩
  obtain ⟨a, ns, rfl, hs, h⟩ := ints_of z r h
  exact cr_sum hc pins s σ H _ us Q I rv ⟨a, ns, rfl, hs, fin_int k z h⟩
theorem c_maxL (hc : X.calm = true := by rfl) : CallR X (.builtin "max") (RC X.K cMaxL) := by
  intro pins s σ H xs us Q I rv ⟨ds, F, m, Pi, Qz, z, r, h, k⟩
  obtain ⟨a, ns, rfl, hs, h0, h⟩ := ints_of z r h
  exact cr_max hc pins s σ H _ us Q I rv ⟨a, ns, rfl, hs, h0, fun i h1 h2 => fin_int k z (h i h1 h2)⟩
theorem c_minL (hc : X.calm = true := by rfl) : CallR X (.builtin "min") (RC X.K cMinL) := by
  intro pins s σ H xs us Q I rv ⟨ds, F, m, Pi, Qz, z, r, h, k⟩
  obtain ⟨a, ns, rfl, hs, h0, h⟩ := ints_of z r h
  exact cr_min hc pins s σ H _ us Q I rv ⟨a, ns, rfl, hs, h0, fun i h1 h2 => fin_int k z (h i h1 h2)⟩
theorem c_any (hc : X.calm = true := by rfl) : CallR X (.builtin "any") (RC X.K cAny) := by
  intro pins s σ H xs us Q I rv ⟨ds, F, m, Pi, Qz, z, r, h, k⟩
  obtain ⟨a, ns, rfl, hs, h⟩ := bls_of z r h
  exact cr_any hc pins s σ H _ us Q I rv ⟨a, ns, rfl, hs, fin_bl k z h⟩
theorem c_all (hc : X.calm = true := by rfl) : CallR X (.builtin "all") (RC X.K cAll) := by
  intro pins s σ H xs us Q I rv ⟨ds, F, m, Pi, Qz, z, r, h, k⟩
  obtain ⟨a, ns, rfl, hs, h⟩ := bls_of z r h
  exact cr_all hc pins s σ H _ us Q I rv ⟨a, ns, rfl, hs, fin_bl k z h⟩
/-- one argument -/
theorem one_of {K : PySem.W.Frag} {Pi : Hp} {ds : List D} {vs : List V} {P : Prop} (r : Reps K Pi ds vs) (h0 : ds = [] → P) (h2 : ∀ a b c, ds = a :: b :: c → P) (h1 : ∀ d v, ds = [d] → vs = [v] → Rep K Pi d v → P) : P := by
  cases r with
  | nil => exact h0 rfl
  | cons r1 r2 =>
    cases r2 with
    | nil => exact h1 _ _ rfl rfl r1
    | cons _ _ => exact h2 _ _ _ rfl
theorem c_abs : CallR X (.builtin "abs") (RC X.K cAbs) := by
  intro pins s σ H xs us Q I rv ⟨ds, F, m, Pi, Qz, z, r, h, k⟩
  refine one_of r (fun e => by subst e; exact h.elim) (fun a b c e => by subst e; cases a <;> exact h.elim) fun d v e1 e2 r1 => ?_
  subst e1 e2
  cases r1 with
  | int => exact call_abs pins s σ H _ us Q I rv ⟨_, rfl, fin_int k z h⟩
  | _ => exact h.elim
theorem c_int : CallR X (.type "int") (RC X.K cInt) := by
  intro pins s σ H xs us Q I rv ⟨ds, F, m, Pi, Qz, z, r, h, k⟩
  refine one_of r (fun e => by subst e; exact h.elim) (fun a b c e => by subst e; cases a <;> exact h.elim) fun d v e1 e2 r1 => ?_
  subst e1 e2
  cases r1 with
  | int => exact call_int1 pins s σ H _ us Q I rv (.inl ⟨_, rfl, fin_int k z h⟩)
  | bl => exact call_int1 pins s σ H _ us Q I rv (.inr ⟨_, rfl, fin_int k z h⟩)
  | _ => exact h.elim
theorem two_of {K : PySem.W.Frag} {Pi : Hp} {ds : List D} {vs : List V} {P : Prop} (r : Reps K Pi ds vs) (h0 : ds = [] → P) (h1 : ∀ a, ds = [a] → P) (h3 : ∀ a b c e, ds = a :: b :: c :: e → P) (h2 : ∀ d v e u, ds = [d, e] → vs = [v, u] → Rep K Pi d v → Rep K Pi e u → P) : P := by
  cases r with
  | nil => exact h0 rfl
  | cons r1 r2 =>
    cases r2 with
    | nil => exact h1 _ rfl
    | cons r3 r4 =>
      cases r4 with
      | nil => exact h2 _ _ _ _ rfl rfl r1 r3
      | cons _ _ => exact h3 _ _ _ _ rfl
theorem c_max (hc : X.calm = true := by rfl) : CallR X (.builtin "max") (RC X.K cMax) := by
  intro pins s σ H xs us Q I rv ⟨ds, F, m, Pi, Qz, z, r, h, k⟩
  refine two_of r (fun e => by subst e; exact h.elim) (fun a e => by subst e; cases a <;> exact h.elim) (fun a b c _ e => by subst e; cases a <;> first | exact h.elim | (cases b <;> exact h.elim)) fun d v e u e1 e2 r1 r2 => ?_
  subst e1 e2
  cases r1 with
  | int =>
    cases r2 with
    | int => exact call_max2 hc pins s σ H _ us Q I rv ⟨_, _, rfl, fin_int k z h⟩
    | _ => exact h.elim
  | _ => exact h.elim
theorem c_min (hc : X.calm = true := by rfl) : CallR X (.builtin "min") (RC X.K cMin) := by
  intro pins s σ H xs us Q I rv ⟨ds, F, m, Pi, Qz, z, r, h, k⟩
  refine two_of r (fun e => by subst e; exact h.elim) (fun a e => by subst e; cases a <;> exact h.elim) (fun a b c _ e => by subst e; cases a <;> first | exact h.elim | (cases b <;> exact h.elim)) fun d v e u e1 e2 r1 r2 => ?_
  subst e1 e2
  cases r1 with
  | int =>
    cases r2 with
    | int => exact call_min2 hc pins s σ H _ us Q I rv ⟨_, _, rfl, fin_int k z h⟩
    | _ => exact h.elim
  | _ => exact h.elim
theorem c_divmod : CallR X (.builtin "divmod") (RC X.K cDivmod) := by
  intro pins s σ H xs us Q I rv ⟨ds, F, m, Pi, Qz, z, r, h, k⟩
  refine two_of r (fun e => by subst e; exact h.elim) (fun a e => by subst e; cases a <;> exact h.elim) (fun a b c _ e => by subst e; cases a <;> first | exact h.elim | (cases b <;> exact h.elim)) fun d v e u e1 e2 r1 r2 => ?_
  subst e1 e2
  cases r1 with
  | int =>
    cases r2 with
    | int => exact call_divmodW pins s σ H _ us Q I rv ⟨_, _, rfl, h.1, fun p np => fin_tup k z (.cons .int (.cons .int .nil)) np h.2⟩
    | _ => exact h.elim
  | _ => exact h.elim
theorem len_of {K : PySem.W.Frag} {F : Hp} {m : Mu} {Pi H : Hp} (z : Zm K F m Pi H) {d : D} {v : V} {n : Nat} (r : Rep K Pi d v) (h : lenD m d = some n) : LenV K v H n := by
  cases r with
  | str =>
    simp only [lenD] at h
    split at h
    · rename_i hx
      exact ⟨hx, (Option.some.inj h).symm⟩
    · cases h
  | tup hs rs => exact .inr ⟨_, z.sub.sqt hs, by rw [← rs.length]; exact (Option.some.inj h).symm⟩
  | fl hs rs => exact .inl ⟨_, z.sub.sql hs, by rw [← rs.length]; exact (Option.some.inj h).symm⟩
  | ref =>
    rename_i a
    simp only [lenD] at h
    cases q : m a with
    | none => rw [q] at h; cases h
    | some o =>
      rw [q] at h
      cases o with
      | lst ys =>
        obtain ⟨vs, e, rs⟩ := z.ok a _ q
        exact .inl ⟨vs, .inl (.inl e), by rw [← rs.length]; exact (Option.some.inj h).symm⟩
      | _ => cases h
  | _ => cases h
theorem c_len : CallR X (.builtin "len") (RC X.K cLen) := by
  intro pins s σ H xs us Q I rv ⟨ds, F, m, Pi, Qz, z, r, h, k⟩
  refine one_of r (fun e => by subst e; exact h.elim) (fun a b c e => by subst e; exact h.elim) fun d v e1 e2 r1 => ?_
  subst e1 e2
  simp only [cLen] at h
  cases q : lenD m d with
  | none => rw [q] at h; exact h.elim
  | some n =>
    rw [q] at h
    exact call_len pins s σ H _ us Q I rv ⟨v, n, rfl, len_of z r1 q, fin_int k z h⟩
theorem c_tuple : CallR X (.type "tuple") (RC X.K cTuple) := by
  intro pins s σ H xs us Q I rv ⟨ds, F, m, Pi, Qz, z, r, h, k⟩
  refine one_of r (fun e => by subst e; exact h.elim) (fun a b c e => by subst e; cases a <;> exact h.elim) fun d v e1 e2 r1 => ?_
  subst e1 e2
  cases r1 with
  | tup hs rs => exact call_tuple_of pins s σ H _ us Q I rv ⟨_, _, rfl, .inr ⟨z.sub.sqt hs, fin_same k z (.tup hs rs) h⟩⟩
  | fl hs rs => exact call_tuple_of pins s σ H _ us Q I rv ⟨_, _, rfl, .inl ⟨z.sub.sql hs, fun p np => fin_tup k z rs np h⟩⟩
  | ref =>
    rename_i a
    simp only [cTuple] at h
    cases q : m a with
    | none => rw [q] at h; exact h.elim
    | some o =>
      rw [q] at h
      cases o with
      | lst ys =>
        obtain ⟨vs, e, rs⟩ := z.ok a _ q
        exact call_tuple_of pins s σ H _ us Q I rv ⟨_, vs, rfl, .inl ⟨.inl (.inl e), fun p np => fin_tup k z rs np h⟩⟩
      | _ => exact h.elim
  | _ => exact h.elim
theorem c_listF : CallR X (.type "list") (RC X.K cListF) := by
  intro pins s σ H xs us Q I rv ⟨ds, F, m, Pi, Qz, z, r, h, k⟩
  refine one_of r (fun e => by subst e; exact h.elim) (fun a b c e => by subst e; cases a <;> exact h.elim) fun d v e1 e2 r1 => ?_
  subst e1 e2
  cases r1 with
  | tup hs rs => exact call_list_of pins s σ H _ us Q I rv ⟨_, _, rfl, .inr (z.sub.sqt hs), fun p np => fin_fl k z rs np h⟩
  | fl hs rs => exact call_list_of pins s σ H _ us Q I rv ⟨_, _, rfl, .inl (z.sub.sql hs), fun p np => fin_fl k z rs np h⟩
  | ref =>
    rename_i a
    simp only [cListF] at h
    cases q : m a with
    | none => rw [q] at h; exact h.elim
    | some o =>
      rw [q] at h
      cases o with
      | lst ys =>
        obtain ⟨vs, e, rs⟩ := z.ok a _ q
        exact call_list_of pins s σ H _ us Q I rv ⟨_, vs, rfl, .inl (.inl (.inl e)), fun p np => fin_fl k z rs np h⟩
      | _ => exact h.elim
  | _ => exact h.elim
theorem c_list : CallR X (.type "list") (RC X.K cList) := by
  intro pins s σ H xs us Q I rv ⟨ds, F, m, Pi, Qz, z, r, h, k⟩
  refine one_of r (fun e => by subst e; exact h.elim) (fun a b c e => by subst e; cases a <;> exact h.elim) fun d v e1 e2 r1 => ?_
  subst e1 e2
  cases r1 with
  | tup hs rs => exact call_list_of pins s σ H _ us Q I rv ⟨_, _, rfl, .inr (z.sub.sqt hs), fun p np => fin_lst k z rs np h⟩
  | fl hs rs => exact call_list_of pins s σ H _ us Q I rv ⟨_, _, rfl, .inl (z.sub.sql hs), fun p np => fin_lst k z rs np h⟩
  | ref =>
    rename_i a
    simp only [cList] at h
    cases q : m a with
    | none => rw [q] at h; exact h.elim
    | some o =>
      rw [q] at h
      cases o with
      | lst ys =>
        obtain ⟨vs, e, rs⟩ := z.ok a _ q
        exact call_list_of pins s σ H _ us Q I rv ⟨_, vs, rfl, .inl (.inl (.inl e)), fun p np => fin_lst k z rs np h⟩
      | _ => exact h.elim
  | _ => exact h.elim
end
end Zed
end
section
set_option maxHeartbeats 4000000
/-! Zed4: subscripts, statements, loops, comprehensions. -/
namespace Zed
open PySem PySem.Spec PyProof.Rows L2

/-! ### subscripts -/
def oIx : ZOp
  | .tup xs, .int i, m, Q => match atI xs i with
    | some d => Q d m
    | none => False
  | .fl xs, .int i, m, Q => match atI xs i with
    | some d => Q d m
    | none => False
  | .str x, .int i, m, Q => x.length ≤ sizeLine ∧ match atI x.cps.toList i with
    | some c => Q (.str ⟨#[c]⟩) m
    | none => False
  | .ref a, .int i, m, Q => match m a with
    | some (.lst xs) => match atI xs i with
      | some d => Q d m
      | none => False
    | _ => False
  | _, _, _, _ => False
theorem reps_at {K : PySem.W.Frag} {Pi : Hp} {ds : List D} {vs : List V} (r : Reps K Pi ds vs) {i : Int} {d : D} (h : atI ds i = some d) : ∃ v, atI vs i = some v ∧ Rep K Pi d v := by
  unfold atI at h ⊢
  rw [← r.length]
  cases q : ixN ds.length i with
  | none => rw [q] at h; cases h
  | some j =>
    rw [q] at h
    exact r.get h
section
variable {X : Cx} {W : WX}
theorem ix_ok : IxR X (RS X.K oIx) := by
  intro value slice pins s σ H x y v u Q I rx ry ⟨d, e, F, m, Pi, Qz, z, r1, r2, h, k⟩ hs
  cases r1 with
  | tup hq rs =>
    cases r2 with
    | int =>
      rename_i a vs ds i
      simp only [oIx] at h
      cases q : atI ds i with
      | none => rw [q] at h; exact h.elim
      | some d =>
        rw [q] at h
        obtain ⟨w, e1, r⟩ := reps_at rs q
        exact ix_tup value slice pins s σ H _ _ v u Q I rx ry ⟨a, vs, i, w, rfl, rfl, z.sub.sqt hq, e1, fin_same k z r h⟩ hs
    | _ => exact h.elim
  | fl hq rs =>
    cases r2 with
    | int =>
      rename_i a vs ds i
      simp only [oIx] at h
      cases q : atI ds i with
      | none => rw [q] at h; exact h.elim
      | some d =>
        rw [q] at h
        obtain ⟨w, e1, r⟩ := reps_at rs q
        exact ix_list value slice pins s σ H _ _ v u Q I rx ry ⟨a, vs, i, w, rfl, rfl, z.sub.sql hq, e1, fin_same k z r h⟩ hs
    | _ => exact h.elim
  | str =>
    cases r2 with
    | int =>
      rename_i x i
      simp only [oIx] at h
      cases q : atI x.cps.toList i with
      | none => rw [q] at h; exact h.2.elim
      | some c =>
        rw [q] at h
        exact ix_str value slice pins s σ H _ _ v u Q I rx ry ⟨x, i, c, rfl, rfl, h.1, q, fin_str k z h.2⟩ hs
    | _ => exact h.elim
  | ref =>
    cases r2 with
    | int =>
      rename_i a i
      simp only [oIx] at h
      cases q : m a with
      | none => rw [q] at h; exact h.elim
      | some o =>
        rw [q] at h
        cases o with
        | lst xs =>
          dsimp only at h
          obtain ⟨vs, e1, rs⟩ := z.ok a _ q
          cases q : atI xs i with
          | none => rw [q] at h; exact h.elim
          | some d =>
            rw [q] at h
            obtain ⟨w, e2, r⟩ := reps_at rs q
            exact ix_list value slice pins s σ H _ _ v u Q I rx ry ⟨a, vs, i, w, rfl, rfl, .inl (.inl e1), e2, fin_same k z r h⟩ hs
        | _ => exact h.elim
    | _ => exact h.elim
  | _ => exact h.elim
variable {a b c e : Expr} {pos p : Pos} {za zb ze : ZTE} {es : List Expr} {t : ZTA}
theorem r_ix (ha : PE X a (LE X.K W za)) (hb : PE X b (LE X.K W zb)) (hs : PlainIx b := by exact fun _ _ => rfl) : PE X (.Subscript a b pos) (LE X.K W (zop oIx za zb)) := by
  refine pe_imp (pe_ix ix_ok ha hb hs) fun σ H Q ⟨F, ρ, m, Pi, Qz, Ez, hz, he, h, k, kx⟩ => ?_
  exact ⟨F, ρ, m, Pi, _, Ez, hz, he, h, fun x m1 P1 v H1 l1 z1 r1 q1 => ⟨F, ρ, m1, P1, _, Ez, z1, he.mono l1, q1, fun y m2 P2 u H2 l2 z2 r2 q2 => ⟨x, y, F, m2, P2, Qz, z2, r1.mono l2, r2, q2, k.mono (l1.trans l2)⟩, kx.mono l1⟩, kx⟩
end
/-! slices -/
abbrev ZTO := ZEnv → Mu → (Option Int → Mu → Prop) → QX → Prop
def onone : ZTO := fun _ m Q _ => Q none m
def osome (a : ZTE) : ZTO := fun ρ m Q E => a ρ m (fun x m1 => match x with
  | .int i => Q (some i) m1
  | _ => False) E
def cutG {α : Type} (xs : List α) (lo hi : Option Int) : List α := (xs.drop (HT.sIx xs.length 0 lo)).take (HT.sIx xs.length xs.length hi - HT.sIx xs.length 0 lo)
def oSl : D → Option Int → Option Int → Mu → QE → Prop
  | .tup xs, lo, hi, m, Q => Q (.tup (cutG xs lo hi)) m
  | .fl xs, lo, hi, m, Q => Q (.fl (cutG xs lo hi)) m
  | .ref a, lo, hi, m, Q => match m a with
    | some (.lst xs) => Q (.fl (cutG xs lo hi)) m
    | _ => False
  | .str x, lo, hi, m, Q => x.length ≤ sizeLine ∧ Q (.str (cutS x lo hi)) m
  | _, _, _, _, _ => False
def zsl (a : ZTE) (lo hi : ZTO) : ZTE := fun ρ m Q E => a ρ m (fun x m1 => lo ρ m1 (fun l m2 => hi ρ m2 (fun u m3 => oSl x l u m3 Q) E) E) E
def LO (K : PySem.W.Frag) (W : WX) (z : ZTO) : TO := fun σ H Q => ∃ F ρ m Pi Qz Ez, Zm K F m Pi H ∧ EnvR K Pi ρ σ ∧ z ρ m Qz Ez ∧ (∀ o m' P' H', PLe Pi P' → Zm K F m' P' H' → Qz o m' → Q o H') ∧ ContX K F Pi Ez (fun c d H' => W c d σ H')
theorem po_imp {X : Cx} {e : Option Expr} {t t' : TO} (h : PO X e t) (i : ∀ σ H Q, t' σ H Q → t σ H Q) : PO X e t' := ⟨fun pins s σ H Q I q => h.run pins s σ H Q I (i σ H Q q)⟩
theorem reps_cut {K : PySem.W.Frag} {Pi : Hp} {ds : List D} {vs : List V} (r : Reps K Pi ds vs) (lo hi : Option Int) : Reps K Pi (cutG ds lo hi) (cutV vs lo hi) := by
  unfold cutG cutV
  rw [← r.length]
  exact (r.drop _).take _
section
variable {X : Cx} {W : WX} {a b c e : Expr} {pos p p2 : Pos} {za zb ze : ZTE} {es : List Expr} {t : ZTA} {lo hi : Option Expr} {zl zh : ZTO}
theorem r_onone : PO X none (LO X.K W onone) := po_imp po_none fun σ H Q ⟨F, ρ, m, Pi, Qz, Ez, hz, he, h, k, _⟩ => k _ m Pi H PLe.refl hz h
theorem r_osome (h : PE X e (LE X.K W ze)) : PO X (some e) (LO X.K W (osome ze)) := by
  refine po_imp (po_some h) fun σ H Q ⟨F, ρ, m, Pi, Qz, Ez, hz, he, h, k, kx⟩ => ?_
  refine ⟨F, ρ, m, Pi, _, Ez, hz, he, h, fun x m1 P1 v H1 l1 z1 r1 q1 => ?_, kx⟩
  cases r1 with
  | int => exact ⟨_, rfl, k _ m1 P1 H1 l1 z1 q1⟩
  | _ => exact q1.elim
def RSl (K : PySem.W.Frag) : V → Option Int → Option Int → Hp → VK → Prop := fun x lo hi H Q => ∃ d F m Pi Qz, Zm K F m Pi H ∧ Rep K Pi d x ∧ oSl d lo hi m Qz ∧ ContE K F Pi Qz Q
theorem sl_ok : SlR X (RSl X.K) := by
  intro pins s σ H x v vl vu lo hi sl Q I rx hs pl pu ⟨d, F, m, Pi, Qz, z, r1, h, k⟩
  cases r1 with
  | tup hq rs =>
    rename_i a vs ds
    refine sl_tupA pins s σ H _ v vl vu lo hi sl Q I rx hs pl pu ⟨a, vs, rfl, z.sub.sqt hq, fun e => ?_, fun _ p np => fin_tup k z (reps_cut rs lo hi) np h⟩
    have e2 : cutG ds lo hi = ds := by
      unfold cutG
      rw [rs.length, e.1, e.2, ← rs.length]
      simp
    have h' : Qz (.tup (cutG ds lo hi)) m := h
    rw [e2] at h'
    exact fin_same k z (.tup hq rs) h'
  | fl hq rs =>
    rename_i a vs ds
    exact sl_list pins s σ H _ v vl vu lo hi sl Q I rx hs pl pu ⟨a, vs, rfl, z.sub.sql hq, fun p np => fin_fl k z (reps_cut rs lo hi) np h⟩
  | ref =>
    rename_i a
    simp only [oSl] at h
    cases q : m a with
    | none => rw [q] at h; exact h.elim
    | some o =>
      rw [q] at h
      cases o with
      | lst xs =>
        obtain ⟨vs, e1, rs⟩ := z.ok a _ q
        exact sl_list pins s σ H _ v vl vu lo hi sl Q I rx hs pl pu ⟨a, vs, rfl, .inl (.inl e1), fun p np => fin_fl k z (reps_cut rs lo hi) np h⟩
      | _ => exact h.elim
  | str => exact sl_str pins s σ H _ v vl vu lo hi sl Q I rx hs pl pu ⟨_, rfl, h.1, fin_str k z h.2⟩
  | _ => exact h.elim
theorem r_sl (he : PE X e (LE X.K W ze)) (hl : PO X lo (LO X.K W zl)) (hu : PO X hi (LO X.K W zh)) : PE X (.Subscript e (.Slice lo hi none p2) pos) (LE X.K W (zsl ze zl zh)) := by
  refine pe_imp (pe_slice sl_ok he hl hu) fun σ H Q ⟨F, ρ, m, Pi, Qz, Ez, hz, he, h, k, kx⟩ => ?_
  exact ⟨F, ρ, m, Pi, _, Ez, hz, he, h, fun x m1 P1 v H1 l1 z1 r1 q1 => ⟨F, ρ, m1, P1, _, Ez, z1, he.mono l1, q1, fun y m2 P2 H2 l2 z2 q2 => ⟨F, ρ, m2, P2, _, Ez, z2, (he.mono l1).mono l2, q2, fun y3 m3 P3 H3 l3 z3 q3 =>
    ⟨x, F, m3, P3, Qz, z3, (r1.mono l2).mono l3, q3, k.mono ((l1.trans l2).trans l3)⟩, kx.mono (l1.trans l2)⟩, kx.mono l1⟩, kx⟩
/-- xs[::-1] of a list -/
def zrev (a : ZTE) : ZTE := fun ρ m Q E => a ρ m (fun x m1 => match seqD m1 x with
  | some xs => Q (.fl xs.reverse) m1
  | none => False) E
theorem r_rev {k : Nat} {p1 p2 p3 : Pos} (he : PE X e (LE X.K W ze)) : PE X (.Subscript e (.Slice none none (some (.UnaryOp .USub (.Constant (.int 1) k p1) p2)) p3) pos) (LE X.K W (zrev ze)) := by
  refine pe_imp (pe_revL he) fun σ H Q ⟨F, ρ, m, Pi, Qz, Ez, hz, he, h, k, kx⟩ => ?_
  refine ⟨F, ρ, m, Pi, _, Ez, hz, he, h, fun x m1 P1 v H1 l1 z1 r1 q1 => ?_, kx⟩
  dsimp only at q1
  cases q : seqD m1 x with
  | none => rw [q] at q1; exact q1.elim
  | some xs =>
    rw [q] at q1
    obtain ⟨a, vs, rfl, hs, rs⟩ := seq_of z1 r1 q
    exact ⟨a, vs, rfl, hs, fun p np => fin_fl (k.mono l1) z1 rs.reverse np q1⟩
end

/-! ### isinstance of a built-in type -/
inductive Ty7 where | non | bool | int | str | tuple | list | dict
  deriving DecidableEq
def Ty7.nm : Ty7 → String
  | .non => "NoneType" | .bool => "bool" | .int => "int" | .str => "str" | .tuple => "tuple" | .list => "list" | .dict => "dict"
def tyD (m : Mu) : D → Option Ty7
  | .non => some .non
  | .bl _ => some .bool
  | .int _ => some .int
  | .str _ => some .str
  | .tup _ => some .tuple
  | .fl _ => some .list
  | .ref a => match m a with
    | some (.lst _) => some .list
    | some (.dct _) => some .dict
    | _ => none
  | _ => none
def isiB : Ty7 → Ty7 → Bool
  | .bool, .int => true
  | a, b => decide (a = b)
theorem isi_kit (a b : Ty7) (h : b ≠ .non) : kitB a.nm b.nm = some (isiB a b) := by
  cases b <;> first | exact absurd rfl h | (cases a <;> decide +kernel)
def cIsi (T : Ty7) : ZCl
  | [x, .ty n], m, Q => n = T.nm ∧ match tyD m x with
    | some t => Q (.bl (isiB t T)) m
    | none => False
  | _, _, _ => False
def zisi (T : Ty7) (a : ZTE) : ZTE := zbl (acons a (acons (zc (.ty T.nm)) anil)) (cIsi T)
theorem ty_of {K : PySem.W.Frag} {F : Hp} {m : Mu} {Pi H : Hp} (z : Zm K F m Pi H) {d : D} {v : V} {t : Ty7} (r : Rep K Pi d v) (h : tyD m d = some t) : TyX K H v (.type t.nm) := by
  cases r with
  | non => cases h; exact .base .non
  | bl => cases h; exact .base (.bl _)
  | int => cases h; exact .base (.int _)
  | str => cases h; exact .base (.str _)
  | ty => cases h
  | obj _ _ => cases h
  | tup hs _ =>
    cases h
    rcases hs with (q | ⟨o, q⟩) | ⟨o, _, _, q, c, _⟩
    · exact .base (.tup (z.sub _ _ q))
    · exact .fTuple (z.sub _ _ q)
    · exact .kTuple q c
  | fl hs _ =>
    cases h
    rcases hs with (q | ⟨o, q⟩) | ⟨o, _, _, q, c, _⟩
    · exact .base (.lst (z.sub _ _ q))
    · exact .base (.frz (z.sub _ _ q))
    · exact .kList q c
  | ref =>
    rename_i a
    simp only [tyD] at h
    cases q : m a with
    | none => rw [q] at h; cases h
    | some o =>
      rw [q] at h
      have k := z.ok a o q
      cases o with
      | lst xs => cases h; obtain ⟨vs, e, _⟩ := k; exact .base (.lst e)
      | dct xs => cases h; obtain ⟨vs, e, _⟩ := k; exact .base (.dK e)
      | ins C fs => cases h
section
variable {X : Cx} {W : WX} {a b c e : Expr} {pos p p2 : Pos} {za zb ze : ZTE} {es : List Expr} {t : ZTA}
theorem c_isi {T : Ty7} (hT : T ≠ .non) : CallR X (.builtin "isinstance") (RC X.K (cIsi T)) := by
  intro pins s σ H xs us Q I rv ⟨ds, F, m, Pi, Qz, z, r, h, k⟩
  refine two_of r (fun e => by subst e; exact h.elim) (fun a e => by subst e; exact h.elim) (fun a b c _ e => by subst e; cases b <;> exact h.elim) fun d v e u e1 e2 r1 r2 => ?_
  subst e1 e2
  cases r2 with
  | ty =>
    obtain ⟨hn, h⟩ := h
    subst hn
    cases q : tyD m d with
    | none => rw [q] at h; exact h.elim
    | some t =>
      rw [q] at h
      exact call_isi pins s σ H _ us Q I rv ⟨v, .ty T.nm, .type t.nm, .type T.nm, _, rfl, .ty _, ty_of z r1 q, kit_ty (isi_kit t T hT), fin_bl k z h⟩
  | _ => exact h.elim
theorem r_isi (T : Ty7) {x : Str} {k1 k2 : Pos} (hm : X.mg "isinstance" = none) (hmT : X.mg x = none) (he : PE X e (LE X.K W ze)) (hT : T ≠ .non := by decide) (hvT : bootBuiltins x = some (.type T.nm) := by decide +kernel) (hgT : Gl X x := by rfl) (hnT : x ≠ "__name__" := by decide) (hdT : (x == ("__debug__" : Str)) = false := by decide)
    (hg : Gl X "isinstance" := by rfl) (h1 : starEach (e :: [.Name x k2]) X.env = (false, eval e X.env) :: starEach [.Name x k2] X.env := by rfl) : PE X (.Call (.Name "isinstance" k1) [e, .Name x k2] [] pos) (LE X.K W (zisi T ze)) := by
  exact r_blt (c_isi hT) hm (by decide +kernel) (r_acons he (r_acons (r_bltn (X := X) (W := W) hmT hvT hgT hnT hdT) r_anil) h1) hg (by decide) (by decide) h1
end
end Zed
end
section
set_option maxHeartbeats 4000000
/-! Zed5: targets, statements, loops, comprehensions. -/
namespace Zed
open PySem PySem.Spec PyProof.Rows L2

/-! ### targets -/
abbrev ZTG := D → ZEnv → Mu → (ZEnv → Mu → Prop) → QX → Prop
abbrev ZTGs := List D → ZEnv → Mu → (ZEnv → Mu → Prop) → QX → Prop
def gn (i : Nat) : ZTG := fun d ρ m Q _ => Q (ρ.set i (some d)) m
def gnil : ZTGs := fun ds ρ m Q _ => match ds with
  | [] => Q ρ m
  | _ => False
def gcons (t : ZTG) (u : ZTGs) : ZTGs := fun ds ρ m Q E => match ds with
  | d :: r => t d ρ m (fun ρ1 m1 => u r ρ1 m1 Q E) E
  | [] => False
def gtup (n : Nat) (t : ZTGs) : ZTG := fun d ρ m Q E => match d with
  | .tup xs => xs.length = n ∧ t xs ρ m Q E
  | _ => False
def oSet : D → D → D → Mu → (Mu → Prop) → Prop
  | .ref a, .int k, d, m, Q => match m a with
    | some (.lst xs) => match ixN xs.length k with
      | some j => Q (updM m a (.lst (xs.set j d)))
      | none => False
    | _ => False
  | _, _, _, _, _ => False
def gsub (a b : ZTE) : ZTG := fun d ρ m Q E => a ρ m (fun o m1 => b ρ m1 (fun i m2 => oSet o i d m2 (fun m3 => Q ρ m3)) E) E
/-- vs: the slots that may change -/
def ContG (K : PySem.W.Frag) (F Pi : Hp) (vs : List Nat) (σ : St) (Qz : ZEnv → Mu → Prop) (Q : St → Hp → Prop) : Prop := ∀ ρ' m' P' σ' H', PLe Pi P' → Zm K F m' P' H' → EnvR K P' ρ' σ' → wipe σ' vs = wipe σ vs → Qz ρ' m' → Q σ' H'
def LG (K : PySem.W.Frag) (W : WX) (vs : List Nat) (z : ZTG) : TG := fun v σ H Q => ∃ d F ρ m Pi Qz Ez, Zm K F m Pi H ∧ EnvR K Pi ρ σ ∧ Rep K Pi d v ∧ z d ρ m Qz Ez ∧ ContG K F Pi vs σ Qz Q ∧ ∀ σ', wipe σ' vs = wipe σ vs → ContX K F Pi Ez (fun c d H' => W c d σ' H')
def LGs (K : PySem.W.Frag) (W : WX) (vs : List Nat) (z : ZTGs) : TGs := fun us σ H Q => ∃ ds F ρ m Pi Qz Ez, Zm K F m Pi H ∧ EnvR K Pi ρ σ ∧ Reps K Pi ds us ∧ z ds ρ m Qz Ez ∧ ContG K F Pi vs σ Qz Q ∧ ∀ σ', wipe σ' vs = wipe σ vs → ContX K F Pi Ez (fun c d H' => W c d σ' H')
theorem wipe_set {i : Nat} {o : Option V} : ∀ {vs : List Nat} {σ : St}, i ∈ vs → wipe (σ.set i o) vs = wipe σ vs
  | [], _, h => by cases h
  | v :: vs, σ, h => by
    show (wipe (σ.set i o) vs).set v none = (wipe σ vs).set v none
    by_cases hi : i ∈ vs
    · rw [wipe_set hi]
    · have e : i = v := by simpa [hi] using h
      subst e
      have k : ∀ (ws : List Nat) (τ : St), i ∉ ws → wipe (τ.set i o) ws = (wipe τ ws).set i o := by
        intro ws
        induction ws with
        | nil => intro τ _; rfl
        | cons w ws ih =>
          intro τ hn
          show (wipe (τ.set i o) ws).set w none = ((wipe τ ws).set w none).set i o
          rw [ih τ fun q => hn (List.mem_cons_of_mem _ q), List.set_comm _ _ (fun q => hn (by rw [q]; exact List.mem_cons_self))]
      rw [k vs σ hi, List.set_set]
theorem pg_imp {X : Cx} {e : Expr} {t t' : TG} (h : PG X e t) (i : ∀ v σ H Q, t' v σ H Q → t v σ H Q) : PG X e t' := ⟨fun pins s σ H v u Q I r q => h.run pins s σ H v u Q I r (i v σ H Q q)⟩
theorem pgs_imp {X : Cx} {e : List Expr} {t t' : TGs} (h : PGs X e t) (i : ∀ v σ H Q, t' v σ H Q → t v σ H Q) : PGs X e t' := ⟨fun pins s σ H v u Q I r q => h.run pins s σ H v u Q I r (i v σ H Q q)⟩
theorem ContG.mono {K : PySem.W.Frag} {F Pi P2 : Hp} {vs : List Nat} {σ : St} {a b} (h : ContG K F Pi vs σ a b) (l : PLe Pi P2) : ContG K F P2 vs σ a b := fun ρ' m' P' σ' H' q => h ρ' m' P' σ' H' (l.trans q)
section
variable {X : Cx} {W : WX} {vs : List Nat} {pos : Pos} {a b e : Expr} {es : List Expr} {za zb : ZTE} {g : ZTG} {gs : ZTGs}
theorem r_gn {x : Str} (i : Nat) (hN : X.N.Nodup) (hi : X.N[i]? = some x := by rfl) (hx : Loc X.env.scope x := by first | exact Or.inl rfl | exact Or.inr rfl) (hf : X.fn x = true ∨ X.env.scope.names.lookup x = some .local := by first | exact .inl rfl | exact .inr rfl) (hv : i ∈ vs := by decide) : PG X (.Name x pos) (LG X.K W vs (gn i)) := by
  refine pg_imp (pg_name hN hi hx hf) fun v σ H Q ⟨d, F, ρ, m, Pi, Qz, Ez, hz, he, hr, h, k, _⟩ => ?_
  exact k _ m Pi _ H PLe.refl hz (he.set hr) (wipe_set hv) h
theorem r_gnil : PGs X [] (LGs X.K W vs gnil) := by
  refine pgs_imp pgs_nil fun v σ H Q ⟨d, F, ρ, m, Pi, Qz, Ez, hz, he, hr, h, k, _⟩ => ?_
  cases hr with
  | nil => exact ⟨rfl, k _ m Pi _ H PLe.refl hz he rfl h⟩
  | cons _ _ => exact h.elim
theorem r_gcons (h1 : PG X e (LG X.K W vs g)) (h2 : PGs X es (LGs X.K W vs gs)) (hs : (assignEach (e :: es) X.env).map (·.2) = assign e X.env :: (assignEach es X.env).map (·.2) := by rfl) : PGs X (e :: es) (LGs X.K W vs (gcons g gs)) := by
  refine pgs_imp (pgs_cons h1 h2 hs) fun v σ H Q ⟨d, F, ρ, m, Pi, Qz, Ez, hz, he, hr, h, k, kx⟩ => ?_
  cases hr with
  | nil => exact h.elim
  | cons r1 r2 =>
    refine ⟨_, _, rfl, _, F, ρ, m, Pi, _, Ez, hz, he, r1, h, fun ρ1 m1 P1 σ1 H1 l1 z1 e1 w1 q1 => ?_, kx⟩
    exact ⟨_, F, ρ1, m1, P1, Qz, Ez, z1, e1, r2.mono l1, q1, fun ρ2 m2 P2 σ2 H2 l2 z2 e2 w2 q2 => k ρ2 m2 P2 σ2 H2 (l1.trans l2) z2 e2 (w2.trans w1) q2, fun σ' hw => (kx σ' (hw.trans w1)).mono l1⟩
theorem r_gtup {k n : Nat} (hc : X.calm = true) (h : PGs X es (LGs X.K W vs gs)) (hn : (assignEach es X.env).length = n := by rfl) (hst : (assignEach es X.env).findIdx? (·.1) = none := by rfl) : PG X (.Tuple es k pos) (LG X.K W vs (gtup n gs)) := by
  refine pg_imp (pg_tup hc h hn hst) fun v σ H Q ⟨d, F, ρ, m, Pi, Qz, Ez, hz, he, hr, h, k, kx⟩ => ?_
  cases hr with
  | tup hs rs =>
    exact ⟨_, _, rfl, hz.sub.sqt hs, by rw [← rs.length]; exact h.1, _, F, ρ, m, Pi, Qz, Ez, hz, he, rs, h.2, k, kx⟩
  | _ => exact h.elim
def RSet (K : PySem.W.Frag) : TSet := fun o i v H Q => ∃ od id d F m Pi Qz, Zm K F m Pi H ∧ Rep K Pi od o ∧ Rep K Pi id i ∧ Rep K Pi d v ∧ oSet od id d m Qz ∧ ∀ m' P' H', PLe Pi P' → Zm K F m' P' H' → Qz m' → Q H'
theorem set_ok : PSet X (RSet X.K) := by
  intro pins s σ H o i v ov iv u Q I ro ri rv ⟨od, id, d, F, m, Pi, Qz, z, r1, r2, r3, h, k⟩
  cases r1 with
  | ref =>
    cases r2 with
    | int =>
      rename_i a j
      simp only [oSet] at h
      cases q : m a with
      | none => rw [q] at h; exact h.elim
      | some w =>
        rw [q] at h
        cases w with
        | lst xs =>
          dsimp only at h
          cases q2 : ixN xs.length j with
          | none => rw [q2] at h; exact h.elim
          | some n =>
            rw [q2] at h
            obtain ⟨vs, e1, rs⟩ := z.ok a _ q
            refine set_list pins s σ H _ _ v ov iv u Q I ro ri rv ⟨a, vs, j, n, rfl, rfl, e1, by rw [← rs.length]; exact q2, k _ Pi _ PLe.refl (z.setMu (u := .lst (xs.set n d)) q ⟨_, upd_same, rs.set r3 n⟩) h⟩
        | _ => exact h.elim
    | _ => exact h.elim
  | _ => exact h.elim
theorem r_gsub (ha : PE X a (LE X.K W za)) (hb : PE X b (LE X.K W zb)) (hs : ∀ v, assign (.Subscript a b pos) X.env v = (do
      let ov ← holding [v] (eval a X.env)
      let iv ← holding [v, ov] (eval b X.env)
      standAt pos
      holding [v, ov, iv] (setItem ov iv v)
      release [v, ov, iv] []) := by intro _; rfl) : PG X (.Subscript a b pos) (LG X.K W vs (gsub za zb)) := by
  refine pg_imp (pg_sub ha hb set_ok hs) fun v σ H Q ⟨d, F, ρ, m, Pi, Qz, Ez, hz, he, hr, h, k, kx⟩ => ?_
  exact ⟨F, ρ, m, Pi, _, Ez, hz, he, h, fun x m1 P1 v1 H1 l1 z1 r1 q1 => ⟨F, ρ, m1, P1, _, Ez, z1, he.mono l1, q1, fun y m2 P2 v2 H2 l2 z2 r2 q2 =>
    ⟨x, y, d, F, m2, P2, _, z2, r1.mono l2, r2, (hr.mono l1).mono l2, q2, fun m3 P3 H3 l3 z3 q3 => k _ m3 P3 _ H3 ((l1.trans l2).trans l3) z3 (((he.mono l1).mono l2).mono l3) rfl q3⟩, (kx σ rfl).mono l1⟩, kx σ rfl⟩
end

/-! ### statements -/
abbrev xat (Dz : ZEnds) (ρ : ZEnv) : QX := fun x m => Dz.ex x ρ m
def snil : ZTS := fun Dz ρ m => Dz.nx ρ m
def sseq (t u : ZTS) : ZTS := fun Dz ρ m => t ⟨fun ρ' m' => u Dz ρ' m', Dz.rt, Dz.ex⟩ ρ m
def sexp (a : ZTE) : ZTS := fun Dz ρ m => a ρ m (fun _ m1 => Dz.nx ρ m1) (xat Dz ρ)
def sret (a : ZTE) : ZTS := fun Dz ρ m => a ρ m Dz.rt (xat Dz ρ)
def sretN : ZTS := fun Dz _ m => Dz.rt .non m
def sif (t : ZTT) (a b : ZTS) : ZTS := fun Dz ρ m => t ρ m (fun c m1 => if c = true then a Dz ρ m1 else b Dz ρ m1) (xat Dz ρ)
def sasg (a : ZTE) (g : ZTG) : ZTS := fun Dz ρ m => a ρ m (fun x m1 => g x ρ m1 Dz.nx (fun x m => ∀ ρ', Dz.ex x ρ' m)) (xat Dz ρ)
def sset (a : ZTE) (i : Nat) : ZTS := fun Dz ρ m => a ρ m (fun x m1 => Dz.nx (ρ.set i (some x)) m1) (xat Dz ρ)
def spar (i j : Nat) (t : ZTA) : ZTS := fun Dz ρ m => t ρ m (fun xs m1 => match xs with
  | [x, y] => Dz.nx ((ρ.set i (some x)).set j (some y)) m1
  | _ => False) (xat Dz ρ)
def spar3 (i j l : Nat) (t : ZTA) : ZTS := fun Dz ρ m => t ρ m (fun xs m1 => match xs with
  | [x, y, z] => Dz.nx (((ρ.set i (some x)).set j (some y)).set l (some z)) m1
  | _ => False) (xat Dz ρ)
def saug (i : Nat) (a : ZTE) (o : ZOp) : ZTS := fun Dz ρ m => match ρ[i]? with
  | some (some x) => a ρ m (fun y m1 => o x y m1 (fun z m2 => Dz.nx (ρ.set i (some z)) m2)) (xat Dz ρ)
  | _ => False
def swhile (t : ZTT) (b : ZTS) : ZTS := fun Dz ρ m => ∃ I : Nat → ZEnv → Mu → Prop, (∃ k, I k ρ m) ∧ ∀ k ρ m, I k ρ m →
  t ρ m (fun c m1 => if c = true then b ⟨fun ρ' m' => ∃ k', k' < k ∧ I k' ρ' m', Dz.rt, Dz.ex⟩ ρ m1 else Dz.nx ρ m1) (xat Dz ρ)
/-- what is walked: how many, each one, what must stand -/
structure Wk where
  n : Nat
  item : Nat → D
  inv : Mu → Prop
abbrev ZTI := ZEnv → Mu → (Wk → Mu → Prop) → QX → Prop
def sfor (it : ZTI) (g : ZTG) (b : ZTS) : ZTS := fun Dz ρ m => it ρ m (fun wk m1 => ∃ I : Nat → ZEnv → Mu → Prop, I 0 ρ m1 ∧ ∀ i ρ m, I i ρ m → wk.inv m ∧
  (i < wk.n → g (wk.item i) ρ m (fun ρ2 m2 => b ⟨I (i + 1), Dz.rt, Dz.ex⟩ ρ2 m2) (fun x m => ∀ ρ', Dz.ex x ρ' m)) ∧ (i = wk.n → Dz.nx ρ m)) (xat Dz ρ)
def wipeZ (ρ : ZEnv) : List Nat → ZEnv
  | [] => ρ
  | v :: vs => (wipeZ ρ vs).set v none
abbrev noX : QX := fun _ _ => False
/-- a comprehension: a list that never changes -/
def zlc (it : ZTI) (g : ZTG) (t : ZTT) (e : ZTE) (vs : List Nat) : ZTE := fun ρ m Q E => it ρ m (fun wk m1 => ∃ I : Nat → List D → Mu → Prop, I 0 [] m1 ∧ ∀ i acc m, I i acc m → wk.inv m ∧
  (i < wk.n → g (wk.item i) (wipeZ ρ vs) m (fun ρ2 m2 => t ρ2 m2 (fun c m3 => if c = true then e ρ2 m3 (fun y m4 => acc.length < sizeLine ∧ I (i + 1) (acc ++ [y]) m4) noX else I (i + 1) acc m3) noX) noX) ∧ (i = wk.n → Q (.fl acc) m)) E
def tyes : ZTT := fun _ m Q _ => Q true m
/-- what the data have become need not be said of a list that will change no more -/
def zseal (a : ZTE) : ZTE := fun ρ m Q E => a ρ m (fun x m1 => match x with
  | .ref p => match m1 p with
    | some (.lst xs) => Q (.fl xs) (dropM m1 p)
    | some (.ins C fs) => Q (.obj C fs) (dropM m1 p)
    | _ => False
  | _ => False) E

section
variable {K : PySem.W.Frag} {F Pi : Hp} {ρ : ZEnv} {σ : St} {ex : ZX → ZEnv → Mu → Prop} {W : WX}
theorem ContW.at' (k : ContW K F Pi ex W) (he : EnvR K Pi ρ σ) : ContX K F Pi (fun x m => ex x ρ m) (fun c d H' => W c d σ H') := fun x m' P' c dd H' l z r q => k x ρ m' P' c dd σ H' l z (he.mono l) r q
end
section
variable {X : Cx} {W : WX} {pos p p2 : Pos} {a b c e : Expr} {es : List Expr} {za zb ze : ZTE} {zg : ZTG} {zt : ZTT} {za' : ZTA} {st : Stmt} {sts rest : List Stmt} {t u : ZTS} {vs : List Nat}
theorem r_seal (h : PE X e (LE X.K W ze)) : PE X e (LE X.K W (zseal ze)) := by
  refine pe_imp h fun σ H Q ⟨F, ρ, m, Pi, Qz, Ez, hz, he, h, k, kx⟩ => ?_
  refine ⟨F, ρ, m, Pi, _, Ez, hz, he, h, fun x m1 P1 v H1 l1 z1 r1 q1 => ?_, kx⟩
  cases r1 with
  | ref =>
    rename_i a
    dsimp only at q1
    cases q : m1 a with
    | none => rw [q] at q1; exact q1.elim
    | some o =>
      rw [q] at q1
      cases o with
      | lst xs =>
        obtain ⟨us, e1, rs⟩ := z1.ok a _ q
        obtain ⟨z2, l2⟩ := z1.seal q e1
        exact k _ _ _ _ H1 (l1.trans l2) z2 (.fl (.inl (.inl upd_same)) (rs.mono l2)) q1
      | ins C fs =>
        obtain ⟨dx, kvs, e1, rs⟩ := z1.ok a _ q
        obtain ⟨z2, l2⟩ := z1.seal q e1
        exact k _ _ _ _ H1 (l1.trans l2) z2 (.obj upd_same (rs.mono l2)) q1
      | dct kvs => exact q1.elim
  | _ => exact q1.elim
theorem r_nil : PSs X [] (LS X.K W snil) := pss_imp pss_nil fun Dv σ H ⟨F, ρ, m, Pi, Dz, hz, he, h, kn, _, _⟩ => kn _ m Pi _ H PLe.refl hz he h
theorem r_cons (h1 : PS X st (LS X.K W t)) (h2 : PSs X rest (LS X.K W u)) : PSs X (st :: rest) (LS X.K W (sseq t u)) := by
  refine pss_imp (pss_cons h1 h2) fun Dv σ H ⟨F, ρ, m, Pi, Dz, hz, he, h, kn, kr, kx⟩ => ?_
  exact ⟨F, ρ, m, Pi, _, hz, he, h, fun ρ1 m1 P1 σ1 H1 l1 z1 e1 q1 => ⟨F, ρ1, m1, P1, Dz, z1, e1, q1, kn.mono l1, kr.mono l1, kx.mono l1⟩, kr, kx⟩
theorem r_last (h1 : PS X st (LS X.K W t)) : PSs X [st] (LS X.K W t) := pss_one h1
theorem r_sexp (he : PE X e (LE X.K W ze)) (hs : swapsWith e none pos.line X.env = pure false := by rfl) : PS X (.Expr e pos) (LS X.K W (sexp ze)) := by
  refine ps_imp (ps_expr he hs) fun Dv σ H ⟨F, ρ, m, Pi, Dz, hz, he, h, kn, kr, kx⟩ => ?_
  exact ⟨F, ρ, m, Pi, _, _, hz, he, h, fun x m1 P1 v H1 l1 z1 r1 q1 => kn _ m1 P1 _ H1 l1 z1 (he.mono l1) q1, kx.at' he⟩
theorem r_ret (he : PE X e (LE X.K W ze)) : PS X (.Return (some e) pos) (LS X.K W (sret ze)) := by
  refine ps_imp (ps_ret he) fun Dv σ H ⟨F, ρ, m, Pi, Dz, hz, he, h, kn, kr, kx⟩ => ?_
  exact ⟨F, ρ, m, Pi, _, _, hz, he, h, kr, kx.at' he⟩
theorem r_retN : PS X (.Return none pos) (LS X.K W sretN) := ps_imp ps_retN fun Dv σ H ⟨F, ρ, m, Pi, Dz, hz, he, h, kn, kr, kx⟩ => kr _ m Pi _ H PLe.refl hz .non h
theorem r_pass : PS X (.Pass pos) (LS X.K W snil) := ps_imp ps_pass fun Dv σ H ⟨F, ρ, m, Pi, Dz, hz, he, h, kn, kr, kx⟩ => kn _ m Pi _ H PLe.refl hz he h
theorem r_sif (hc : PT X c (LT X.K W zt)) (ha : PSs X sts (LS X.K W t)) (hb : PSs X rest (LS X.K W u)) : PS X (.If c sts rest pos) (LS X.K W (sif zt t u)) := by
  refine ps_imp (ps_if hc ha hb) fun Dv σ H ⟨F, ρ, m, Pi, Dz, hz, he, h, kn, kr, kx⟩ => ?_
  refine ⟨F, ρ, m, Pi, _, _, hz, he, h, fun c m1 P1 H1 l1 z1 q1 => ?_, kx.at' he⟩
  cases c with
  | true => exact ⟨F, ρ, m1, P1, Dz, z1, he.mono l1, q1, kn.mono l1, kr.mono l1, kx.mono l1⟩
  | false => exact ⟨F, ρ, m1, P1, Dz, z1, he.mono l1, q1, kn.mono l1, kr.mono l1, kx.mono l1⟩
/-- a slot's length is as it was, whatever it holds -/
theorem envR_any {K : PySem.W.Frag} {Pi : Hp} {ρ : ZEnv} {σ σ' : St} (he : EnvR K Pi ρ σ) (hw : wipe σ' vs = wipe σ vs) : EnvR K Pi (ρ.map fun _ => none) σ' := by
  refine ⟨?_, fun i d q => ?_⟩
  · rw [List.length_map, he.1, ← wipe_length σ vs, ← hw, wipe_length]
  · rw [List.getElem?_map] at q
    cases q2 : ρ[i]? with
    | none => rw [q2] at q; cases q
    | some o => rw [q2] at q; cases q
theorem r_sasg (he : PE X e (LE X.K W ze)) (hg : PG X a (LG X.K W vs zg)) (hs : swapsWithSole [a] e pos.line X.env = pure false := by rfl) (hw : swappedStores [a] e X.env = pure none := by rfl)
    (h1 : (assignEach [a] X.env).map (·.2) = [assign a X.env] := by rfl) : PS X (.Assign [a] e pos) (LS X.K W (sasg ze zg)) := by
  refine ps_imp (ps_asg he hg hs hw h1) fun Dv σ H ⟨F, ρ, m, Pi, Dz, hz, he, h, kn, kr, kx⟩ => ?_
  exact ⟨F, ρ, m, Pi, _, _, hz, he, h, fun x m1 P1 v H1 l1 z1 r1 q1 => ⟨x, F, ρ, m1, P1, _, _, z1, he.mono l1, r1, q1, fun ρ2 m2 P2 σ2 H2 l2 z2 e2 _ q2 => kn _ m2 P2 σ2 H2 (l1.trans l2) z2 e2 q2,
    fun σ' hw x m2 P2 cc dd H2 l2 z2 rx q2 => kx x _ m2 P2 cc dd σ' H2 (l1.trans l2) z2 (envR_any ((he.mono l1).mono l2) hw) rx (q2 _)⟩, kx.at' he⟩
theorem r_set {x : Str} (i : Nat) (hN : X.N.Nodup) (he : PE X e (LE X.K W ze)) (hi : X.N[i]? = some x := by rfl) (hx : Loc X.env.scope x := by first | exact Or.inl rfl | exact Or.inr rfl) (hs : swapsWith e (some (.Name x p)) pos.line X.env = pure false := by rfl) (hf : X.fn x = true ∨ X.env.scope.names.lookup x = some .local := by first | exact .inl rfl | exact .inr rfl) :
    PS X (.Assign [.Name x p] e pos) (LS X.K W (sset ze i)) := by
  refine ps_imp (ps_set hN hi hx he hs hf) fun Dv σ H ⟨F, ρ, m, Pi, Dz, hz, he, h, kn, kr, kx⟩ => ?_
  exact ⟨F, ρ, m, Pi, _, _, hz, he, h, fun x m1 P1 v H1 l1 z1 r1 q1 => kn _ m1 P1 _ H1 l1 z1 ((he.mono l1).set r1) q1, kx.at' he⟩
theorem r_par {x y : Str} (i j : Nat) {px py pt : Pos} {kt k2 pt2} (hc : X.calm = true) (hN : X.N.Nodup) (ha : PA X [a, b] (LA X.K W za')) (hi : X.N[i]? = some x := by rfl) (hj : X.N[j]? = some y := by rfl) (hij : i ≠ j := by decide)
    (hx : X.env.scope.names.lookup x = some .local := by rfl) (hy : X.env.scope.names.lookup y = some .local := by rfl)
    (hw : swappedStores [.Tuple [.Name x px, .Name y py] kt pt] (.Tuple [a, b] k2 pt2) X.env = pure (some [x, y]) := by rfl)
    (hs : swapsWithSole [.Tuple [.Name x px, .Name y py] kt pt] (.Tuple [a, b] k2 pt2) pos.line X.env = pure false := by rfl) :
    PS X (.Assign [.Tuple [.Name x px, .Name y py] kt pt] (.Tuple [a, b] k2 pt2) pos) (LS X.K W (spar i j za')) := by
  refine ps_imp (ps_par hc hN hi hj hij hx hy ha hw hs) fun Dv σ H ⟨F, ρ, m, Pi, Dz, hz, he, h, kn, kr, kx⟩ => ?_
  refine ⟨F, ρ, m, Pi, _, _, hz, he, h, fun xs m1 P1 v H1 l1 z1 r1 q1 => ?_, kx.at' he⟩
  dsimp only at q1
  split at q1
  · obtain ⟨v1, v2, rfl, q3, q4⟩ := reps2 r1
    exact ⟨v1, v2, rfl, kn _ m1 P1 _ H1 l1 z1 (((he.mono l1).set q3).set q4) q1⟩
  · exact q1.elim
theorem reps3 {K : PySem.W.Frag} {Pi : Hp} {d e f : D} {vs : List V} (r : Reps K Pi [d, e, f] vs) : ∃ v u w, vs = [v, u, w] ∧ Rep K Pi d v ∧ Rep K Pi e u ∧ Rep K Pi f w := by
  cases r with
  | cons r1 r2 =>
    obtain ⟨u, w, rfl, r3, r4⟩ := reps2 r2
    exact ⟨_, _, _, rfl, r1, r3, r4⟩
theorem r_par3 {x y z : Str} (i j l : Nat) {px py pz pt : Pos} {kt k2 pt2} (hc : X.calm = true) (hN : X.N.Nodup) (ha : PA X [a, b, c] (LA X.K W za')) (hi : X.N[i]? = some x := by rfl) (hj : X.N[j]? = some y := by rfl) (hl : X.N[l]? = some z := by rfl) (hij : i ≠ j := by decide) (hil : i ≠ l := by decide) (hjl : j ≠ l := by decide)
    (hx : X.env.scope.names.lookup x = some .local := by rfl) (hy : X.env.scope.names.lookup y = some .local := by rfl) (hz : X.env.scope.names.lookup z = some .local := by rfl)
    (hw : swappedStores [.Tuple [.Name x px, .Name y py, .Name z pz] kt pt] (.Tuple [a, b, c] k2 pt2) X.env = pure (some [x, y, z]) := by rfl)
    (hs : swapsWithSole [.Tuple [.Name x px, .Name y py, .Name z pz] kt pt] (.Tuple [a, b, c] k2 pt2) pos.line X.env = pure false := by rfl) :
    PS X (.Assign [.Tuple [.Name x px, .Name y py, .Name z pz] kt pt] (.Tuple [a, b, c] k2 pt2) pos) (LS X.K W (spar3 i j l za')) := by
  refine ps_imp (ps_par3 hc hN hi hj hl hij hil hjl hx hy hz ha hw hs) fun Dv σ H ⟨F, ρ, m, Pi, Dz, hz, he, h, kn, kr, kx⟩ => ?_
  refine ⟨F, ρ, m, Pi, _, _, hz, he, h, fun xs m1 P1 v H1 l1 z1 r1 q1 => ?_, kx.at' he⟩
  dsimp only at q1
  split at q1
  · obtain ⟨v1, v2, v3, rfl, q3, q4, q5⟩ := reps3 r1
    exact ⟨v1, v2, v3, rfl, kn _ m1 P1 _ H1 l1 z1 ((((he.mono l1).set q3).set q4).set q5) q1⟩
  · exact q1.elim
theorem r_aug {x : Str} {op : Operator} {o : ZOp} (i : Nat) (hN : X.N.Nodup) (ho : OpR X (inplaceOp op) (RS X.K o)) (he : PE X e (LE X.K W ze)) (hi : X.N[i]? = some x := by rfl) (hx : Loc X.env.scope x := by first | exact Or.inl rfl | exact Or.inr rfl) (hf : X.fn x = true ∨ X.env.scope.names.lookup x = some .local := by first | exact .inl rfl | exact .inr rfl) :
    PS X (.AugAssign (.Name x p) op e pos) (LS X.K W (saug i ze o)) := by
  refine ps_imp (ps_aug hN hi hx he ho hf) fun Dv σ H ⟨F, ρ, m, Pi, Dz, hz, he, h, kn, kr, kx⟩ => ?_
  unfold saug at h
  cases q : ρ[i]? with
  | none => rw [q] at h; exact h.elim
  | some w =>
    cases w with
    | none => rw [q] at h; exact h.elim
    | some d =>
      rw [q] at h
      obtain ⟨v, h1, h2⟩ := he.2 i d q
      refine ⟨v, h1, F, ρ, m, Pi, _, _, hz, he, h, fun y m1 P1 v1 H1 l1 z1 r1 q1 => ?_, kx.at' he⟩
      exact ⟨d, y, F, m1, P1, _, z1, h2.mono l1, r1, q1, fun w m2 P2 v2 H2 l2 z2 r2 q2 => kn _ m2 P2 _ H2 (l1.trans l2) z2 (((he.mono l1).mono l2).set r2) q2⟩
theorem r_while (hp : PassesOwn (model X.prog X.w) X.A X.env X.xe) (hc : PT X c (LT X.K W zt)) (hb : PSs X sts (LS X.K W t)) : PS X (.While c sts [] pos) (LS X.K W (swhile zt t)) := by
  refine ps_imp (ps_while hp hc hb) fun Dv σ H ⟨F, ρ, m, Pi, Dz, hz, he, h, kn, kr, kx⟩ => ?_
  obtain ⟨I, ⟨k0, i0⟩, turn⟩ := h
  refine ⟨fun k σ' H' => ∃ ρ' m' P', PLe Pi P' ∧ Zm X.K F m' P' H' ∧ EnvR X.K P' ρ' σ' ∧ I k ρ' m', ⟨k0, ρ, m, Pi, PLe.refl, hz, he, i0⟩, ?_⟩
  rintro k σ1 H1 ⟨ρ1, m1, P1, l1, z1, e1, i1⟩
  refine ⟨F, ρ1, m1, P1, _, _, z1, e1, turn k ρ1 m1 i1, fun c m2 P2 H2 l2 z2 q2 => ?_, (kx.mono l1).at' e1⟩
  cases c with
  | true =>
    refine ⟨fun σ' H' => ∃ ρ' m' P', PLe Pi P' ∧ Zm X.K F m' P' H' ∧ EnvR X.K P' ρ' σ' ∧ ∃ k', k' < k ∧ I k' ρ' m', ?_, ?_⟩
    · rintro σ' H' ⟨ρ', m', P', l', z', e', k', hk, i'⟩
      exact ⟨k', hk, ρ', m', P', l', z', e', i'⟩
    · exact ⟨F, ρ1, m2, P2, _, z2, e1.mono l2, q2, fun ρ3 m3 P3 σ3 H3 l3 z3 e3 q3 => ⟨ρ3, m3, P3, (l1.trans l2).trans l3, z3, e3, q3⟩, kr.mono (l1.trans l2), kx.mono (l1.trans l2)⟩
  | false => exact kn _ m2 P2 _ H2 (l1.trans l2) z2 (e1.mono l2) q2

/-! ### loops -/
def WkOk (K : PySem.W.Frag) (P : Hp) (J : It) (wk : Wk) : Prop := ∀ F i m P' H, PLe P P' → Zm K F m P' H → wk.inv m →
  (i < wk.n → J.go i H ∧ ∀ x H', J.yld i H x H' → ∃ P2, PLe P' P2 ∧ Zm K F m P2 H' ∧ Rep K P2 (wk.item i) x) ∧ (i = wk.n → J.stop i H)
def LI (K : PySem.W.Frag) (W : WX) (z : ZTI) : TI := fun σ H R => ∃ F ρ m Pi Qz Ez, Zm K F m Pi H ∧ EnvR K Pi ρ σ ∧ z ρ m Qz Ez ∧ (∀ wk m' P' J H', PLe Pi P' → Zm K F m' P' H' → WkOk K P' J wk → Qz wk m' → R J H') ∧ ContX K F Pi Ez (fun c d H' => W c d σ H')
theorem pi_imp {X : Cx} {tg e : Expr} {t t' : TI} (h : PI X tg e t) (i : ∀ σ H Q, t' σ H Q → t σ H Q) : PI X tg e t' := ⟨fun pins s σ H R I q => h.run pins s σ H R I (i σ H R q)⟩
theorem r_for {zi : ZTI} (hp : PassesOwn (model X.prog X.w) X.A X.env X.xe) (hc : X.calm = true) (hi : PI X a b (LI X.K W zi)) (hg : PG X a (LG X.K W vs zg)) (hb : PSs X sts (LS X.K W t))
    (hs : ∀ x, foldedSetIterable b X.env x = pure x := by intro _; rfl) : PS X (.For a b sts [] pos) (LS X.K W (sfor zi zg t)) := by
  refine ps_imp (ps_for hp hc hi hg hb hs) fun Dv σ H ⟨F, ρ, m, Pi, Dz, hz, he, h, kn, kr, kx⟩ => ?_
  refine ⟨F, ρ, m, Pi, _, _, hz, he, h, fun wk m1 P1 J H1 l1 z1 w1 ⟨I, i0, turn⟩ => ?_, kx.at' he⟩
  refine ⟨fun i mm σ' H' => i + mm = wk.n ∧ ∃ ρ' m' P', PLe P1 P' ∧ Zm X.K F m' P' H' ∧ EnvR X.K P' ρ' σ' ∧ I i ρ' m', ⟨wk.n, by omega, ρ, m1, P1, PLe.refl, z1, he.mono l1, i0⟩, ?_⟩
  rintro i mm σ2 H2 ⟨em, ρ2, m2, P2, l2, z2, e2, i2⟩
  obtain ⟨hinv, hgo, hend⟩ := turn i ρ2 m2 i2
  obtain ⟨g1, g2⟩ := w1 F i m2 P2 H2 l2 z2 hinv
  by_cases hi : i < wk.n
  · obtain ⟨g3, g4⟩ := g1 hi
    refine .inr ⟨g3, fun σ' H' => ∃ ρ' m' P', PLe P1 P' ∧ Zm X.K F m' P' H' ∧ EnvR X.K P' ρ' σ' ∧ I (i + 1) ρ' m', ?_, fun x H3 hy => ?_⟩
    · rintro σ' H' q
      exact ⟨mm - 1, by omega, by omega, q⟩
    · obtain ⟨P3, l3, z3, r3⟩ := g4 x H3 hy
      exact ⟨_, F, ρ2, m2, P3, _, _, z3, e2.mono l3, r3, hgo hi, fun ρ4 m4 P4 σ4 H4 l4 z4 e4 _ q4 => ⟨F, ρ4, m4, P4, _, z4, e4, q4, fun ρ5 m5 P5 σ5 H5 l5 z5 e5 q5 => ⟨ρ5, m5, P5, ((l2.trans l3).trans l4).trans l5, z5, e5, q5⟩,
        kr.mono (((l1.trans l2).trans l3).trans l4), kx.mono (((l1.trans l2).trans l3).trans l4)⟩,
        fun σ' hw x m4 P4 cc dd H4 l4 z4 rx q4 => kx x _ m4 P4 cc dd σ' H4 (((l1.trans l2).trans l3).trans l4) z4 (envR_any ((e2.mono l3).mono l4) hw) rx (q4 _)⟩
  · have e : i = wk.n := by omega
    exact .inl ⟨g2 e, kn _ m2 P2 σ2 H2 (l1.trans l2) z2 e2 (hend e)⟩

/-! ### comprehensions -/
theorem EnvR.none {K : PySem.W.Frag} {Pi : Hp} {ρ : ZEnv} {σ : St} {i : Nat} (e : EnvR K Pi ρ σ) : EnvR K Pi (ρ.set i Option.none) (σ.set i Option.none) := by
  refine ⟨by rw [List.length_set, List.length_set]; exact e.1, fun j d' q => ?_⟩
  by_cases hj : i = j
  · subst hj
    by_cases hl : i < ρ.length
    · rw [List.getElem?_set_self hl] at q
      cases q
    · rw [List.getElem?_eq_none (by simpa using hl)] at q
      cases q
  · rw [List.getElem?_set_ne hj] at q ⊢
    exact e.2 j d' q
theorem EnvR.wipe {K : PySem.W.Frag} {Pi : Hp} {ρ : ZEnv} {σ : St} (e : EnvR K Pi ρ σ) : ∀ vs : List Nat, EnvR K Pi (wipeZ ρ vs) (L2.wipe σ vs)
  | [] => e
  | v :: vs => (EnvR.wipe e vs).none
def LTs (K : PySem.W.Frag) (W : WX) (z : ZTT) : TT := LT K W z
theorem r_tyes {X : Cx} : PTs X [] (LT X.K W tyes) := ⟨fun pins s σ H Q I q => pts_nil.run pins s σ H Q I (by
  obtain ⟨F, ρ, m, Pi, Qz, Ez, hz, he, h, k, _⟩ := q
  exact k _ m Pi H PLe.refl hz h)⟩
theorem r_tone {X : Cx} {c : Expr} {zt : ZTT} (h : PT X c (LT X.K W zt)) : PTs X [c] (LT X.K W zt) := pts_one h
abbrev WF : WX := fun _ _ _ _ => False
theorem wipe_none {w : Nat} : ∀ (us : List Nat) (τ : St), w ∈ us → (L2.wipe τ us).set w none = L2.wipe τ us
  | [], _, h => by cases h
  | u :: us, τ, h => by
    show ((L2.wipe τ us).set u none).set w none = (L2.wipe τ us).set u none
    by_cases e : w = u
    · subst e; rw [List.set_set]
    · have hw : w ∈ us := by simpa [e] using h
      rw [List.set_comm _ _ (Ne.symm e), wipe_none us τ hw]
theorem lc_imp {zi : ZTI} {σ : St} {H : Hp} {Q : VK} (h : LE X.K W (zlc zi zg zt ze vs) σ H Q) : tLc (LI X.K W zi) (LG X.K WF vs zg) (LT X.K WF zt) (LE X.K WF ze) vs σ H Q := by
  obtain ⟨F, ρ, m, Pi, Qz, Ez, hz, he, h, k, kx⟩ := h
  refine ⟨F, ρ, m, Pi, _, Ez, hz, he, h, fun wk m1 P1 J H1 l1 z1 w1 ⟨I, i0, turn⟩ Da hD => ?_, kx⟩
  have fD : F Da = none := z1.ffree hD
  have z1' : Zm X.K (upd F Da (.lst [])) m1 P1 (upd H1 Da (.lst [])) := by
    refine Zm.frame (o := .lst []) (F := F) ?_ (z1.free hD).1 (z1.free hD).2 upd_same
    refine ⟨fun b o e => ?_, fun b o e => ?_, z1.fdis, z1.fpd, z1.dis, fun b o e => ?_⟩
    · rw [upd_ne (ne_of_none (z1.sub b o e) hD)]; exact z1.sub b o e
    · rw [upd_ne (ne_of_none (z1.frm b o e) hD)]; exact z1.frm b o e
    · have hb : b ≠ Da := fun q => by subst q; rw [(z1.free hD).1] at e; cases e
      exact (z1.ok b o e).heap (upd_ne hb)
  refine ⟨fun i mm H' => i + mm = wk.n ∧ ∃ acc vs' m' P', PLe P1 P' ∧ Zm X.K (upd F Da (.lst vs')) m' P' H' ∧ Reps X.K P' acc vs' ∧ I i acc m', ⟨wk.n, by omega, [], [], m1, P1, PLe.refl, z1', .nil, i0⟩, ?_⟩
  rintro i mm H2 ⟨em, acc, vs', m2, P2, l2, z2, ra, i2⟩
  obtain ⟨hinv, hgo, hend⟩ := turn i acc m2 i2
  obtain ⟨g1, g2⟩ := w1 _ i m2 P2 H2 l2 z2 hinv
  by_cases hi : i < wk.n
  · obtain ⟨g3, g4⟩ := g1 hi
    refine .inr ⟨g3, fun H' => ∃ acc vs' m' P', PLe P1 P' ∧ Zm X.K (upd F Da (.lst vs')) m' P' H' ∧ Reps X.K P' acc vs' ∧ I (i + 1) acc m', ?_, fun x H3 hy => ?_⟩
    · rintro H' q
      exact ⟨mm - 1, by omega, by omega, q⟩
    · obtain ⟨P3, l3, z3, r3⟩ := g4 x H3 hy
      have e3 : EnvR X.K P3 (wipeZ ρ vs) (L2.wipe σ vs) := ((he.mono l1).mono (l2.trans l3)).wipe vs
      refine ⟨_, upd F Da (.lst vs'), wipeZ ρ vs, m2, P3, _, _, z3, e3, r3, hgo hi, fun ρ4 m4 P4 σ4 H4 l4 z4 e4 w4 q4 => ⟨?_, ?_⟩, fun σ' _ x m4 P4 c dd H4 _ _ _ q => q.elim⟩
      · rw [w4]
        have idem : ∀ (ws us : List Nat) (τ : St), (∀ w ∈ ws, w ∈ us) → L2.wipe (L2.wipe τ us) ws = L2.wipe τ us := by
          intro ws
          induction ws with
          | nil => intro us τ _; rfl
          | cons w ws ih =>
            intro us τ hs
            show (L2.wipe (L2.wipe τ us) ws).set w none = _
            rw [ih us τ fun q hq => hs q (List.mem_cons_of_mem _ hq)]
            exact wipe_none us τ (hs w List.mem_cons_self)
        exact idem vs vs σ fun _ h => h
      · refine ⟨upd F Da (.lst vs'), ρ4, m4, P4, _, _, z4, e4, q4, fun c m5 P5 H5 l5 z5 q5 => ?_, fun x m4 P4 c dd H4 _ _ _ q => q.elim⟩
        cases c with
        | true =>
          refine ⟨upd F Da (.lst vs'), ρ4, m5, P5, _, _, z5, e4.mono l5, q5, fun y m6 P6 v6 H6 l6 z6 r6 q6 => ?_, fun x m4 P4 c dd H4 _ _ _ q => q.elim⟩
          have l26 : PLe P2 P6 := ((l3.trans l4).trans l5).trans l6
          refine ⟨vs', z6.frm Da _ upd_same, by rw [← ra.length]; exact q6.1, acc ++ [y], vs' ++ [v6], m6, P6, l2.trans l26, z6.own, (ra.mono l26).append (.cons r6 .nil), q6.2⟩
        | false =>
          have l25 : PLe P2 P5 := (l3.trans l4).trans l5
          exact ⟨acc, vs', m5, P5, l2.trans l25, z5, ra.mono l25, q5⟩
  · have e : i = wk.n := by omega
    obtain ⟨z3, l3⟩ := z2.give fD
    exact .inl ⟨g2 e, k _ m2 _ _ H2 ((l1.trans l2).trans l3) z3 (.fl (.inl (.inl upd_same)) (ra.mono l3)) (hend e)⟩
end
end Zed
end
section
set_option maxHeartbeats 4000000
/-! Zed6: comprehensions' rules, what is walked, methods of lists, calls, defs. -/
namespace Zed
open PySem PySem.Spec PyProof.Rows L2

section
variable {X : Cx} {W : WX} {pos p p2 spos : Pos} {a b c e elt tg iter : Expr} {ifs es : List Expr} {za zb ze : ZTE} {zg : ZTG} {zt : ZTT} {zi : ZTI} {scope : Scope} {own : List (Str × Nat)}
theorem r_lc (hc : X.calm = true) (hN : X.N.Nodup) (own : List (Str × Nat)) (ok : blkC X.N X.env.scope scope own = true) (hi : PI X tg iter (LI X.K W zi))
    (hg : ∀ (s : Shared) (H : Hp) (C : Addr) (cl : List (Str × Addr)) (fp : List Addr), PG (X.blk s H scope (compEnvC scope cl C X.env) fp) tg (LG X.K WF (own.map (·.2)) zg))
    (ht : ∀ (s : Shared) (H : Hp) (C : Addr) (cl : List (Str × Addr)) (fp : List Addr), PTs (X.blk s H scope (compEnvC scope cl C X.env) fp) ifs (LT X.K WF zt))
    (he : ∀ (s : Shared) (H : Hp) (C : Addr) (cl : List (Str × Addr)) (fp : List Addr), PE (X.blk s H scope (compEnvC scope cl C X.env) fp) elt (LE X.K WF ze)) (hs : ∀ x, foldedSetIterable iter X.env x = pure x := by intro _; rfl) :
    PE X (.ListComp elt [⟨tg, iter, ifs, 0⟩] scope pos) (LE X.K W (zlc zi zg zt ze (own.map (·.2)))) :=
  pe_imp (pe_lc hc hN hi (blkOk_by ok) hg ht he hs) fun _ _ _ h => lc_imp h
theorem r_setLc {y : Str} {py : Pos} (i : Nat) (hc : X.calm = true) (hN : X.N.Nodup) (own : List (Str × Nat)) (ok : blkC X.N X.env.scope scope own = true) (hi : PI X tg iter (LI X.K W zi))
    (hg : ∀ (s : Shared) (H : Hp) (C : Addr) (cl : List (Str × Addr)) (fp : List Addr), PG (X.blk s H scope (compEnvC scope cl C X.env) fp) tg (LG X.K WF (own.map (·.2)) zg))
    (ht : ∀ (s : Shared) (H : Hp) (C : Addr) (cl : List (Str × Addr)) (fp : List Addr), PTs (X.blk s H scope (compEnvC scope cl C X.env) fp) ifs (LT X.K WF zt))
    (he : ∀ (s : Shared) (H : Hp) (C : Addr) (cl : List (Str × Addr)) (fp : List Addr), PE (X.blk s H scope (compEnvC scope cl C X.env) fp) elt (LE X.K WF ze))
    (ha : (scope.names.any fun (n, k) => n == y && (k == .local || k == .cell)) = false) (hy : X.N[i]? = some y := by rfl) (hyl : X.env.scope.names.lookup y = some .local := by rfl) (hk : X.env.scope.kind = .function := by rfl) (hl : (py.line == pos.line) = true := by rfl) (hs : ∀ x, foldedSetIterable iter X.env x = pure x := by intro _; rfl) :
    PS X (.Assign [.Name y py] (.ListComp elt [⟨tg, iter, ifs, 0⟩] scope pos) spos) (LS X.K W (sset (zlc zi zg zt ze (own.map (·.2))) i)) := by
  refine ps_imp (ps_setLc hc hN hy hyl (sw_true hk hyl hl ha) hi (blkOk_by ok) hg ht he hs) fun Dv σ H ⟨F, ρ, m, Pi, Dz, hz, he, h, kn, kr, kx⟩ => ?_
  exact lc_imp (W := W) ⟨F, ρ, m, Pi, _, _, hz, he, h, fun x m1 P1 v H1 l1 z1 r1 q1 => kn _ m1 P1 _ H1 l1 z1 ((he.mono l1).set r1) q1, kx.at' he⟩

/-! ### what is walked -/
def wkL (xs : List D) : Wk := ⟨xs.length, fun i => xs.getD i .non, fun _ => True⟩
/-- a list: that never changes, or that stands in the store (and is not changed within) -/
def ilist (a : ZTE) : ZTI := fun ρ m Q E => a ρ m (fun x m1 => match x with
  | .fl xs => Q (wkL xs) m1
  | .ref p => match m1 p with
    | some (.lst xs) => Q ⟨xs.length, fun i => xs.getD i .non, fun m => m p = some (.lst xs)⟩ m1
    | _ => False
  | _ => False) E
def itup (a : ZTE) : ZTI := fun ρ m Q E => a ρ m (fun x m1 => match x with
  | .tup xs => Q (wkL xs) m1
  | _ => False) E
def istr (a : ZTE) : ZTI := fun ρ m Q E => a ρ m (fun x m1 => match x with
  | .str z => Q ⟨z.cps.size, fun i => .str ⟨#[z.cps.getD i 0]⟩, fun _ => True⟩ m1
  | _ => False) E
def irng1 (t : ZTA) : ZTI := fun ρ m Q E => t ρ m (fun xs m1 => match xs with
  | [.int j] => (-(2 ^ 62) ≤ j ∧ j < 2 ^ 62) ∧ Q ⟨j.toNat, fun i => .int i, fun _ => True⟩ m1
  | _ => False) E
def irng2 (t : ZTA) : ZTI := fun ρ m Q E => t ρ m (fun xs m1 => match xs with
  | [.int i, .int j] => (-(2 ^ 62) ≤ i ∧ i < 2 ^ 62 ∧ -(2 ^ 62) ≤ j ∧ j < 2 ^ 62) ∧ Q ⟨(j - i).toNat, fun k => .int (i + k), fun _ => True⟩ m1
  | _ => False) E
def irng3 (t : ZTA) : ZTI := fun ρ m Q E => t ρ m (fun xs m1 => match xs with
  | [.int i, .int j, .int c] => ∃ n, RgC i j c n ∧ Q ⟨n, fun k => .int (i + (k : Nat) * c), fun _ => True⟩ m1
  | _ => False) E
/-- enumerate(list) -/
def ienum (t : ZTA) : ZTI := fun ρ m Q E => t ρ m (fun xs m1 => match xs with
  | [.fl xs] => Q ⟨xs.length, fun i => .tup [.int i, xs.getD i .non], fun _ => True⟩ m1
  | [.ref p] => match m1 p with
    | some (.lst xs) => Q ⟨xs.length, fun i => .tup [.int i, xs.getD i .non], fun m => m p = some (.lst xs)⟩ m1
    | _ => False
  | _ => False) E
def izip (t : ZTA) : ZTI := fun ρ m Q E => t ρ m (fun xs m1 => match xs with
  | [.fl xs, .fl ys] => Q ⟨min xs.length ys.length, fun i => .tup [xs.getD i .non, ys.getD i .non], fun _ => True⟩ m1
  | [.tup xs, .tup ys] => Q ⟨min xs.length ys.length, fun i => .tup [xs.getD i .non, ys.getD i .non], fun _ => True⟩ m1
  | _ => False) E
def irev (a : ZTE) : ZTI := fun ρ m Q E => a ρ m (fun x m1 => match x with
  | .fl xs => Q ⟨xs.length, fun i => xs.getD (xs.length - 1 - i) .non, fun _ => True⟩ m1
  | .tup xs => Q ⟨xs.length, fun i => xs.getD (xs.length - 1 - i) .non, fun _ => True⟩ m1
  | .ref p => match m1 p with
    | some (.lst xs) => Q ⟨xs.length, fun i => xs.getD (xs.length - 1 - i) .non, fun m => m p = some (.lst xs)⟩ m1
    | _ => False
  | _ => False) E
theorem reps_getD {K : PySem.W.Frag} {Pi : Hp} {ds : List D} {vs : List V} (r : Reps K Pi ds vs) {i : Nat} (h : i < ds.length) : ∃ v, vs[i]? = some v ∧ Rep K Pi (ds.getD i .non) v := by
  have e : ds[i]? = some (ds.getD i .non) := by
    rw [List.getD_eq_getElem?_getD, List.getElem?_eq_getElem h]
    rfl
  exact r.get e
theorem wk_list {K : PySem.W.Frag} {P : Hp} {a : Addr} {vs : List V} {xs : List D} {inv : Mu → Prop} (hs : ∀ F m P' H, PLe P P' → Zm K F m P' H → inv m → ∃ vs, SqL K H a vs ∧ Reps K P' xs vs) : WkOk K P (Itl K a) ⟨xs.length, fun i => xs.getD i .non, inv⟩ := by
  intro F i m P' H l z hi
  obtain ⟨vs, h1, h2⟩ := hs F m P' H l z hi
  refine ⟨fun h => ?_, fun h => ⟨vs, h1, by rw [← h2.length]; exact Nat.le_of_eq h.symm⟩⟩
  obtain ⟨v, e, r⟩ := reps_getD h2 h
  refine ⟨⟨vs, v, h1, e⟩, fun x H' hy => ?_⟩
  obtain ⟨rfl, f⟩ := hy
  have e2 := f vs h1
  rw [e] at e2
  cases e2
  exact ⟨P', PLe.refl, z, r⟩
theorem r_ilist (he : PE X e (LE X.K W ze)) : PI X tg e (LI X.K W (ilist ze)) := by
  refine pi_imp (pi_list he) fun σ H Q ⟨F, ρ, m, Pi, Qz, Ez, hz, he, h, k, kx⟩ => ?_
  refine ⟨F, ρ, m, Pi, _, Ez, hz, he, h, fun x m1 P1 v H1 l1 z1 r1 q1 => ?_, kx⟩
  cases r1 with
  | fl hs rs => exact ⟨_, rfl, ⟨_, z1.sub.sql hs⟩, k _ m1 P1 _ H1 l1 z1 (wk_list (vs := []) fun F m P' H l z _ => ⟨_, z.sub.sql (l.sql hs), rs.mono l⟩) q1⟩
  | ref =>
    rename_i a
    dsimp only at q1
    cases q : m1 a with
    | none => rw [q] at q1; exact q1.elim
    | some o =>
      rw [q] at q1
      cases o with
      | lst xs =>
        obtain ⟨us, e1, rs⟩ := z1.ok a _ q
        refine ⟨_, rfl, ⟨_, .inl (.inl e1)⟩, k _ m1 P1 _ H1 l1 z1 (wk_list (vs := []) fun F m P' H l z hi => ?_) q1⟩
        obtain ⟨ws, e2, rs2⟩ := z.ok a _ hi
        exact ⟨ws, .inl (.inl e2), rs2⟩
      | _ => exact q1.elim
  | _ => exact q1.elim
theorem r_itup (he : PE X e (LE X.K W ze)) : PI X tg e (LI X.K W (itup ze)) := by
  refine pi_imp (pi_tup he) fun σ H Q ⟨F, ρ, m, Pi, Qz, Ez, hz, he, h, k, kx⟩ => ?_
  refine ⟨F, ρ, m, Pi, _, Ez, hz, he, h, fun x m1 P1 v H1 l1 z1 r1 q1 => ?_, kx⟩
  cases r1 with
  | tup hs rs =>
    rename_i a vs xs
    refine ⟨_, rfl, ⟨_, z1.sub.sqt hs⟩, k _ m1 P1 _ H1 l1 z1 (fun F i m P' H l z _ => ⟨fun h => ?_, fun h => ⟨vs, z.sub.sqt (l.sqt hs), by rw [← rs.length]; exact Nat.le_of_eq h.symm⟩⟩) q1⟩
    obtain ⟨v, e, r⟩ := reps_getD (rs.mono l) h
    refine ⟨⟨vs, v, z.sub.sqt (l.sqt hs), e⟩, fun x H' hy => ?_⟩
    obtain ⟨rfl, f⟩ := hy
    have e2 := f vs (z.sub.sqt (l.sqt hs))
    rw [e] at e2
    cases e2
    exact ⟨P', PLe.refl, z, r⟩
  | _ => exact q1.elim
theorem r_istr (he : PE X e (LE X.K W ze)) : PI X tg e (LI X.K W (istr ze)) := by
  refine pi_imp (pi_str he) fun σ H Q ⟨F, ρ, m, Pi, Qz, Ez, hz, he, h, k, kx⟩ => ?_
  refine ⟨F, ρ, m, Pi, _, Ez, hz, he, h, fun x m1 P1 v H1 l1 z1 r1 q1 => ?_, kx⟩
  cases r1 with
  | str =>
    rename_i x
    have wk : WkOk X.K P1 (Its x) ⟨x.cps.size, fun i => .str ⟨#[x.cps.getD i 0]⟩, fun _ => True⟩ := by
      refine fun F i m P' H l z _ => ⟨fun h => ⟨h, fun v H' hy => ?_⟩, fun h => Nat.le_of_eq h.symm⟩
      obtain ⟨rfl, c, hc, rfl⟩ := hy
      refine ⟨P', PLe.refl, z, ?_⟩
      have ec : x.cps.getD i 0 = c := by
        rw [Array.getD_eq_getD_getElem?, hc]
        rfl
      show Rep X.K P' (.str ⟨#[x.cps.getD i 0]⟩) _
      rw [ec]
      exact .str
    exact ⟨x, rfl, k _ m1 P1 _ H1 l1 z1 wk q1⟩
  | _ => exact q1.elim
theorem wk_ints {K : PySem.W.Frag} {P : Hp} {lo c : Int} {n : Nat} : WkOk K P (Itc lo c n) ⟨n, fun k => .int (lo + (k : Nat) * c), fun _ => True⟩ := fun F i m P' H l z _ => ⟨fun h => ⟨h, fun x H' hy => by
  obtain ⟨rfl, rfl⟩ := hy
  exact ⟨P', PLe.refl, z, .int⟩⟩, fun h => Nat.le_of_eq h.symm⟩
theorem wk_rng {K : PySem.W.Frag} {P : Hp} {lo : Int} {n : Nat} : WkOk K P (Itr lo n) ⟨n, fun k => .int (lo + k), fun _ => True⟩ := fun F i m P' H l z _ => ⟨fun h => ⟨h, fun x H' hy => by
  obtain ⟨rfl, rfl⟩ := hy
  exact ⟨P', PLe.refl, z, .int⟩⟩, fun h => Nat.le_of_eq h.symm⟩
theorem wk_rng0 {K : PySem.W.Frag} {P : Hp} {n : Nat} : WkOk K P (Itr 0 n) ⟨n, fun k => .int k, fun _ => True⟩ := fun F i m P' H l z _ => ⟨fun h => ⟨h, fun x H' hy => by
  obtain ⟨rfl, rfl⟩ := hy
  refine ⟨P', PLe.refl, z, ?_⟩
  rw [Int.zero_add]
  exact .int⟩, fun h => Nat.le_of_eq h.symm⟩
variable {zl : ZTA}
theorem r_irng1 (hm : X.mg "range" = none) (ha : PA X [a] (LA X.K W zl)) (hg : Gl X "range" := by rfl) (hs : starEach [a] X.env = [(false, eval a X.env)] := by rfl) : PI X tg (.Call (.Name "range" p) [a] [] pos) (LI X.K W (irng1 zl)) := by
  refine pi_imp (pi_range1 hg hm ha hs) fun σ H Q ⟨F, ρ, m, Pi, Qz, Ez, hz, he, h, k, kx⟩ => ?_
  refine ⟨F, ρ, m, Pi, _, Ez, hz, he, h, fun xs m1 P1 v H1 l1 z1 r1 q1 => ?_, kx⟩
  dsimp only at q1
  split at q1
  · obtain ⟨v1, rfl, r2⟩ := reps1 r1
    cases r2
    exact ⟨_, rfl, q1.1.1, q1.1.2, k _ m1 P1 _ H1 l1 z1 wk_rng0 q1.2⟩
  · exact q1.elim
theorem r_irng2 (hm : X.mg "range" = none) (ha : PA X [a, b] (LA X.K W zl)) (hg : Gl X "range" := by rfl) (hs : starEach [a, b] X.env = [(false, eval a X.env), (false, eval b X.env)] := by rfl) (hs2 : starEach [b] X.env = [(false, eval b X.env)] := by rfl) : PI X tg (.Call (.Name "range" p) [a, b] [] pos) (LI X.K W (irng2 zl)) := by
  refine pi_imp (pi_range2 hg hm ha hs hs2) fun σ H Q ⟨F, ρ, m, Pi, Qz, Ez, hz, he, h, k, kx⟩ => ?_
  refine ⟨F, ρ, m, Pi, _, Ez, hz, he, h, fun xs m1 P1 v H1 l1 z1 r1 q1 => ?_, kx⟩
  dsimp only at q1
  split at q1
  · obtain ⟨v1, v2, rfl, r2, r3⟩ := reps2 r1
    cases r2
    cases r3
    exact ⟨_, _, rfl, q1.1, k _ m1 P1 _ H1 l1 z1 wk_rng q1.2⟩
  · exact q1.elim
theorem r_irng3 (hm : X.mg "range" = none) (ha : PA X [a, b, c] (LA X.K W zl)) (hg : Gl X "range" := by rfl) (hs : starEach [a, b, c] X.env = (false, eval a X.env) :: starEach [b, c] X.env := by rfl) (hpl : (backTo pos (starEach [b, c] X.env)).any (·.1) = false := by rfl) : PI X tg (.Call (.Name "range" p) [a, b, c] [] pos) (LI X.K W (irng3 zl)) := by
  refine pi_imp (pi_range3 hg hm ha hs hpl) fun σ H Q ⟨F, ρ, m, Pi, Qz, Ez, hz, he, h, k, kx⟩ => ?_
  refine ⟨F, ρ, m, Pi, _, Ez, hz, he, h, fun xs m1 P1 v H1 l1 z1 r1 q1 => ?_, kx⟩
  dsimp only at q1
  split at q1
  · obtain ⟨v1, v2, v3, rfl, r2, r3, r4⟩ := reps3 r1
    cases r2
    cases r3
    cases r4
    obtain ⟨n, hn, q1⟩ := q1
    exact ⟨_, _, _, n, rfl, hn, k _ m1 P1 _ H1 l1 z1 wk_ints q1⟩
  · exact q1.elim
theorem r_ienum {elts : List Expr} {kk : Nat} {tpos : Pos} (hm : X.mg "enumerate" = none) (ha : PA X [e] (LA X.K W zl)) (hg : Gl X "enumerate" := by rfl) (hs : starEach [e] X.env = [(false, eval e X.env)] := by rfl) : PI X (.Tuple elts kk tpos) (.Call (.Name "enumerate" p) [e] [] pos) (LI X.K W (ienum zl)) := by
  refine pi_imp (pi_enum hg hm ha hs) fun σ H Q ⟨F, ρ, m, Pi, Qz, Ez, hz, he, h, k, kx⟩ => ?_
  refine ⟨F, ρ, m, Pi, _, Ez, hz, he, h, fun xs m1 P1 v H1 l1 z1 r1 q1 => ?_, kx⟩
  have wk : ∀ {a : Addr} {xs : List D} {inv : Mu → Prop}, (∀ F m P' H, PLe P1 P' → Zm X.K F m P' H → inv m → ∃ vs, SqL X.K H a vs ∧ Reps X.K P' xs vs) → WkOk X.K P1 (Ite X.K a) ⟨xs.length, fun i => .tup [.int i, xs.getD i .non], inv⟩ := by
    intro a xs inv hs F i m P' H l z hi
    obtain ⟨vs, h1, h2⟩ := hs F m P' H l z hi
    refine ⟨fun h => ?_, fun h => ⟨vs, h1, by rw [← h2.length]; exact Nat.le_of_eq h.symm⟩⟩
    obtain ⟨v, e, r⟩ := reps_getD h2 h
    refine ⟨⟨vs, v, h1, e⟩, fun x H' hy => ?_⟩
    obtain ⟨T, y, rfl, nT, rfl, f⟩ := hy
    have e2 := f vs h1
    rw [e] at e2
    cases e2
    obtain ⟨z2, l2⟩ := z.newPi nT (.tup [.int (i : Nat), v])
    exact ⟨_, l2, z2, .tup (.inl (.inl upd_same)) (.cons .int (.cons (r.mono l2) .nil))⟩
  dsimp only at q1
  split at q1
  · obtain ⟨v1, rfl, r2⟩ := reps1 r1
    cases r2 with
    | fl hs rs => exact ⟨_, _, rfl, z1.sub.sql hs, k _ m1 P1 _ H1 l1 z1 (wk fun F m P' H l z _ => ⟨_, z.sub.sql (l.sql hs), rs.mono l⟩) q1⟩
  · obtain ⟨v1, rfl, r2⟩ := reps1 r1
    cases r2
    rename_i a
    split at q1
    · rename_i xs q
      obtain ⟨us, e1, rs⟩ := z1.ok a _ q
      refine ⟨_, _, rfl, .inl (.inl e1), k _ m1 P1 _ H1 l1 z1 (wk fun F m P' H l z hi => ?_) q1⟩
      obtain ⟨ws, e2, rs2⟩ := z.ok a _ hi
      exact ⟨ws, .inl (.inl e2), rs2⟩
    · exact q1.elim
  · exact q1.elim
theorem r_izip {elts : List Expr} {kk : Nat} {tpos : Pos} (hm : X.mg "zip" = none) (ha : PA X [a, b] (LA X.K W zl)) (hg : Gl X "zip" := by rfl) (hs : starEach [a, b] X.env = (false, eval a X.env) :: starEach [b] X.env := by rfl) (hpl : (backTo pos (starEach [b] X.env)).any (·.1) = false := by rfl) : PI X (.Tuple elts kk tpos) (.Call (.Name "zip" p) [a, b] [] pos) (LI X.K W (izip zl)) := by
  refine pi_imp (RZ.pi_zipA hg hm ha hs hpl) fun σ H Q ⟨F, ρ, m, Pi, Qz, Ez, hz, he, h, k, kx⟩ => ?_
  refine ⟨F, ρ, m, Pi, _, Ez, hz, he, h, fun xs m1 P1 v H1 l1 z1 r1 q1 => ?_, kx⟩
  dsimp only at q1
  split at q1
  · obtain ⟨v1, v2, rfl, r2, r3⟩ := reps2 r1
    cases r2 with
    | fl hs rs =>
      cases r3 with
      | fl hs2 rs2 =>
        rename_i xs ys a vs b ws
        refine ⟨_, _, _, _, rfl, .inl ⟨z1.sub.sql hs, z1.sub.sql hs2, k _ m1 P1 _ H1 l1 z1 (fun F i m P' H l z _ => ⟨fun h => ?_, fun h => ⟨_, _, z.sub.sql (l.sql hs), z.sub.sql (l.sql hs2), ?_⟩⟩) q1⟩⟩
        · have h1 : i < xs.length := Nat.lt_of_lt_of_le h (Nat.min_le_left _ _)
          have h2 : i < ys.length := Nat.lt_of_lt_of_le h (Nat.min_le_right _ _)
          obtain ⟨v, e, r⟩ := reps_getD (rs.mono l) h1
          obtain ⟨u, e2, r2⟩ := reps_getD (rs2.mono l) h2
          refine ⟨⟨_, _, v, u, z.sub.sql (l.sql hs), z.sub.sql (l.sql hs2), e, e2⟩, fun x H' hy => ?_⟩
          obtain ⟨T, y1, y2, rfl, nT, rfl, f1, f2⟩ := hy
          have g1 := f1 _ (z.sub.sql (l.sql hs))
          have g2 := f2 _ (z.sub.sql (l.sql hs2))
          rw [e] at g1
          rw [e2] at g2
          cases g1
          cases g2
          obtain ⟨z2, l2⟩ := z.newPi nT (.tup [v, u])
          exact ⟨_, l2, z2, .tup (.inl (.inl upd_same)) (.cons (r.mono l2) (.cons (r2.mono l2) .nil))⟩
        · rw [← rs.length, ← rs2.length]
          have h' : i = min xs.length ys.length := h
          omega
  · obtain ⟨v1, v2, rfl, r2, r3⟩ := reps2 r1
    cases r2 with
    | tup hs rs =>
      cases r3 with
      | tup hs2 rs2 =>
        rename_i xs ys a vs b ws
        refine ⟨_, _, _, _, rfl, .inr ⟨z1.sub.sqt hs, z1.sub.sqt hs2, k _ m1 P1 _ H1 l1 z1 (fun F i m P' H l z _ => ⟨fun h => ?_, fun h => ⟨_, _, z.sub.sqt (l.sqt hs), z.sub.sqt (l.sqt hs2), ?_⟩⟩) q1⟩⟩
        · have h1 : i < xs.length := Nat.lt_of_lt_of_le h (Nat.min_le_left _ _)
          have h2 : i < ys.length := Nat.lt_of_lt_of_le h (Nat.min_le_right _ _)
          obtain ⟨v, e, r⟩ := reps_getD (rs.mono l) h1
          obtain ⟨u, e2, r2⟩ := reps_getD (rs2.mono l) h2
          refine ⟨⟨_, _, v, u, z.sub.sqt (l.sqt hs), z.sub.sqt (l.sqt hs2), e, e2⟩, fun x H' hy => ?_⟩
          obtain ⟨T, y1, y2, rfl, nT, rfl, f1, f2⟩ := hy
          have g1 := f1 _ (z.sub.sqt (l.sqt hs))
          have g2 := f2 _ (z.sub.sqt (l.sqt hs2))
          rw [e] at g1
          rw [e2] at g2
          cases g1
          cases g2
          obtain ⟨z2, l2⟩ := z.newPi nT (.tup [v, u])
          exact ⟨_, l2, z2, .tup (.inl (.inl upd_same)) (.cons (r.mono l2) (.cons (r2.mono l2) .nil))⟩
        · rw [← rs.length, ← rs2.length]
          have h' : i = min xs.length ys.length := h
          omega
  · exact q1.elim
theorem r_irev (hm : X.mg "reversed" = none) (he : PE X e (LE X.K W ze)) (hg : Gl X "reversed" := by rfl) (hs : starEach [e] X.env = (false, eval e X.env) :: starEach [] X.env := by rfl) : PI X tg (.Call (.Name "reversed" p) [e] [] pos) (LI X.K W (irev ze)) := by
  refine pi_imp (RT.pi_revA hg hm he hs) fun σ H Q ⟨F, ρ, m, Pi, Qz, Ez, hz, he, h, k, kx⟩ => ?_
  refine ⟨F, ρ, m, Pi, _, Ez, hz, he, h, fun x m1 P1 v H1 l1 z1 r1 q1 => ?_, kx⟩
  have wk : ∀ {a : Addr} {xs : List D} {inv : Mu → Prop}, (∀ F m P' H, PLe P1 P' → Zm X.K F m P' H → inv m → ∃ vs, SqL X.K H a vs ∧ Reps X.K P' xs vs) → WkOk X.K P1 (Itv X.K a xs.length) ⟨xs.length, fun i => xs.getD (xs.length - 1 - i) .non, inv⟩ := by
    intro a xs inv hs F i m P' H l z hi
    obtain ⟨vs, h1, h2⟩ := hs F m P' H l z hi
    refine ⟨fun h => ?_, fun h => Nat.le_of_eq h.symm⟩
    have hj : xs.length - 1 - i < xs.length := by
      have h' : i < xs.length := h
      omega
    obtain ⟨v, e, r⟩ := reps_getD h2 hj
    refine ⟨⟨h, vs, v, h1, e⟩, fun x H' hy => ?_⟩
    obtain ⟨rfl, f⟩ := hy
    have e2 := f vs h1
    rw [e] at e2
    cases e2
    exact ⟨P', PLe.refl, z, r⟩
  cases r1 with
  | fl hs rs =>
    refine ⟨_, _, rfl, .inl ⟨z1.sub.sql hs, ?_⟩⟩
    rw [← rs.length]
    exact k _ m1 P1 _ H1 l1 z1 (wk fun F m P' H l z _ => ⟨_, z.sub.sql (l.sql hs), rs.mono l⟩) q1
  | ref =>
    rename_i a
    dsimp only at q1
    cases q : m1 a with
    | none => rw [q] at q1; exact q1.elim
    | some o =>
      rw [q] at q1
      cases o with
      | lst xs =>
        obtain ⟨us, e1, rs⟩ := z1.ok a _ q
        refine ⟨_, _, rfl, .inl ⟨.inl (.inl e1), ?_⟩⟩
        rw [← rs.length]
        refine k _ m1 P1 _ H1 l1 z1 (wk fun F m P' H l z hi => ?_) q1
        obtain ⟨ws, e2, rs2⟩ := z.ok a _ hi
        exact ⟨ws, .inl (.inl e2), rs2⟩
      | _ => exact q1.elim
  | tup hs rs =>
    rename_i a vs xs
    refine ⟨_, _, rfl, .inr ⟨z1.sub.sqt hs, ?_⟩⟩
    rw [← rs.length]
    refine k _ m1 P1 _ H1 l1 z1 (fun F i m P' H l z _ => ⟨fun h => ?_, fun h => Nat.le_of_eq h.symm⟩) q1
    have hj : xs.length - 1 - i < xs.length := by
      have h' : i < xs.length := h
      omega
    obtain ⟨v, e, r⟩ := reps_getD (rs.mono l) hj
    refine ⟨⟨h, vs, v, z.sub.sqt (l.sqt hs), e⟩, fun x H' hy => ?_⟩
    obtain ⟨rfl, f⟩ := hy
    have e2 := f vs (z.sub.sqt (l.sqt hs))
    rw [e] at e2
    cases e2
    exact ⟨P', PLe.refl, z, r⟩
  | _ => exact q1.elim

/-! ### methods of a list -/
def zapp (a : ZTE) (t : ZTA) : ZTE := fun ρ m Q E => a ρ m (fun x m1 => match x with
  | .ref p => (∃ xs, m1 p = some (.lst xs)) ∧ t ρ m1 (fun ys m2 => match ys, m2 p with
    | [y], some (.lst xs) => xs.length < sizeLine ∧ Q .non (updM m2 p (.lst (xs ++ [y])))
    | _, _ => False) E
  | _ => False) E
theorem r_app {apos : Pos} (ho : PE X a (LE X.K W za)) (ha : PA X [e] (LA X.K W zl)) (hbase : attributeBase a "append" X.env (eval a X.env) = eval a X.env := by rfl)
    (hfew : ((backTo pos (starEach [e] X.env)).all (fun x => !x.1) && (backToKw pos (keywordEach [] X.env)).all (fun x => x.1.isSome)
      && decide ([e].length + ([] : List Keyword).length + (if ([] : List Keyword).isEmpty then 0 else 1) < 30)) = true := by rfl)
    (hline : (apos.endLine == pos.line) = true := by rfl) (hs : starEach [e] X.env = (false, eval e X.env) :: starEach [] X.env := by rfl) (hplain : (backTo pos (starEach [] X.env)).any (·.1) = false := by rfl) :
    PE X (.Call (.Attribute a "append" apos) [e] [] pos) (LE X.K W (zapp za zl)) := by
  refine pe_imp (pe_bm PySem.F.plainAttrs_list PySem.F.slot_list_append PySem.F.type_list_append mt_append ho ha hbase hfew hline hs hplain) fun σ H Q ⟨F, ρ, m, Pi, Qz, Ez, hz, he, h, k, kx⟩ => ?_
  refine ⟨F, ρ, m, Pi, _, Ez, hz, he, h, fun x m1 P1 v H1 l1 z1 r1 q1 => ?_, kx⟩
  cases r1 with
  | ref =>
    rename_i l
    obtain ⟨⟨xs, q⟩, q1⟩ := q1
    obtain ⟨us, e1, rs⟩ := z1.ok l _ q
    refine ⟨.inl ⟨rfl, _, .inl (.inl e1)⟩, F, ρ, m1, P1, _, Ez, z1, he.mono l1, q1, fun ys m2 P2 vs H2 l2 z2 r2 q2 => ?_, kx.mono l1⟩
    dsimp only at q2
    split at q2
    · rename_i y xs2 q3
      obtain ⟨v1, rfl, r3⟩ := reps1 r2
      obtain ⟨us2, e2, rs2⟩ := z2.ok l _ q3
      exact ⟨l, us2, v1, rfl, rfl, e2, by rw [← rs2.length]; exact q2.1, k _ _ P2 _ _ (l1.trans l2) (z2.setMu (u := .lst (xs2 ++ [y])) q3 ⟨_, upd_same, rs2.append (.cons r3 .nil)⟩) .non q2.2⟩
    · exact q2.elim
  | _ => exact q1.elim
/-- xs.pop() -/
def zpop (a : ZTE) : ZTE := fun ρ m Q E => a ρ m (fun x m1 => match x with
  | .ref p => match m1 p with
    | some (.lst xs) => match xs[xs.length - 1]? with
      | some y => Q y (updM m1 p (.lst xs.dropLast))
      | none => False
    | _ => False
  | _ => False) E
theorem Reps.dropLast {K : PySem.W.Frag} {Pi : Hp} {ds : List D} {vs : List V} (r : Reps K Pi ds vs) : Reps K Pi ds.dropLast vs.dropLast := by
  rw [List.dropLast_eq_take, List.dropLast_eq_take, r.length]
  exact r.take _
theorem r_pop {apos : Pos} (ho : PE X a (LE X.K W za)) (hbase : attributeBase a "pop" X.env (eval a X.env) = eval a X.env := by rfl) (hline : (apos.endLine == pos.line) = true := by rfl) :
    PE X (.Call (.Attribute a "pop" apos) [] [] pos) (LE X.K W (zpop za)) := by
  refine pe_imp (pe_bm0 PySem.F.plainAttrs_list PySem.F.slot_list_pop PySem.F.type_list_pop mt_pop ho hbase hline) fun σ H Q ⟨F, ρ, m, Pi, Qz, Ez, hz, he, h, k, kx⟩ => ?_
  refine ⟨F, ρ, m, Pi, _, Ez, hz, he, h, fun x m1 P1 v H1 l1 z1 r1 q1 => ?_, kx⟩
  cases r1 with
  | ref =>
    rename_i l
    dsimp only at q1
    cases q : m1 l with
    | none => rw [q] at q1; exact q1.elim
    | some o =>
      rw [q] at q1
      cases o with
      | lst xs =>
        dsimp only at q1
        obtain ⟨us, e1, rs⟩ := z1.ok l _ q
        cases q2 : xs[xs.length - 1]? with
        | none => rw [q2] at q1; exact q1.elim
        | some y =>
          rw [q2] at q1
          obtain ⟨v, e2, r⟩ := rs.get q2
          exact ⟨.inl ⟨rfl, _, .inl (.inl e1)⟩, l, us, v, rfl, rfl, e1, by rw [← rs.length]; exact e2, k _ _ P1 _ _ l1 (z1.setMu (u := .lst xs.dropLast) q ⟨_, upd_same, rs.dropLast⟩) r q1⟩
      | _ => exact q1.elim
  | _ => exact q1.elim
end

/-! ### calls of defs -/
def SpOf (K : PySem.W.Frag) (c : ZSp) : Sp := fun vs H Q E => ∃ ds F m Pi Qz Ez, Zm K F m Pi H ∧ Reps K Pi ds vs ∧ c ds m Qz Ez ∧ ContE K F Pi Qz Q ∧ ContX K F Pi Ez E
/-- the def by that name, called by place alone (what lacks are its defaults) -/
def GDef (P : Program) (w : World) (K : PySem.W.Frag) (mg : Str → Option Value) (base : Heap) (k : Nat) (x : Str) (c : ZSp) : Prop :=
  ∃ f fd ps dvs ds dd c0, mg x = some (.ref f) ∧ PySem.W.keepIn K (.ref f) = true ∧ FnOk P w K mg base (L2.CX P w) k f fd ps (SpOf K c0) ∧ Binds K fd ps ds ∧ Vals dvs ds ∧ Reps K (fun _ => none) dd dvs ∧ ∀ xs m Q E, c xs m Q E → c0 (xs ++ dd) m Q E
theorem GDef.mono {P w K mg base j k x c} (h : GDef P w K mg base j x c) (l : j ≤ k) : GDef P w K mg base k x c := by
  obtain ⟨f, fd, ps, dvs, ds, dd, c0, h1, h2, h3, h4⟩ := h
  exact ⟨f, fd, ps, dvs, ds, dd, c0, h1, h2, h3.mono l, h4⟩
/-- the same, called with n values by place and the words ks -/
def GDefK (P : Program) (w : World) (K : PySem.W.Frag) (mg : Str → Option Value) (base : Heap) (k : Nat) (x : Str) (n : Nat) (ks : List Str) (c : List D → ZSp) : Prop :=
  ∃ f fd ps gv gV c0, mg x = some (.ref f) ∧ PySem.W.keepIn K (.ref f) = true ∧ FnOk P w K mg base (L2.CX P w) k f fd ps (SpOf K c0) ∧ KBn K fd ps n ks gv gV ∧
    ∀ Pi xs zs vs ws m Q E, Reps K Pi xs vs → Reps K Pi zs ws → c xs zs m Q E → xs.length = n ∧ zs.length = ks.length ∧ ∃ ds, Reps K Pi ds (gV vs ws) ∧ c0 ds m Q E
theorem GDefK.mono {P w K mg base j k x n ks c} (h : GDefK P w K mg base j x n ks c) (l : j ≤ k) : GDefK P w K mg base k x n ks c := by
  obtain ⟨f, fd, ps, gv, gV, c0, h1, h2, h3, h4⟩ := h
  exact ⟨f, fd, ps, gv, gV, c0, h1, h2, h3.mono l, h4⟩
def LK (K : PySem.W.Frag) (W : WX) (z : ZTA) : TA := LA K W z
/-- by place and by words -/
def zcallK (c : List D → ZSp) (t u : ZTA) : ZTE := fun ρ m Q E => t ρ m (fun xs m1 => u ρ m1 (fun zs m2 => c xs zs m2 Q E) E) E
section
variable {X : Cx} {W : WX} {pos p kpos : Pos} {e : Expr} {es : List Expr} {ze : ZTE} {t u : ZTA} {c : ZSp} {c2 : List D → ZSp} {k n : Nat} {x : Str} {ks : List Str} {kws : List Keyword} {nm : Option Str}
theorem r_call (g : GDef X.prog X.w X.K X.mg X.base k x c) (hr : Room k X.A) (tk : Takes X W) (ha : PA X (e :: es) (LA X.K W t)) (hg : Gl X x := by rfl) (hdb : (x == ("__debug__" : Str)) = false := by decide)
    (he : starEach (e :: es) X.env = (false, eval e X.env) :: starEach es X.env := by rfl) (hpl : (backTo pos (starEach es X.env)).any (·.1) = false := by rfl) : PE X (.Call (.Name x p) (e :: es) [] pos) (LE X.K W (zcall c t)) := by
  obtain ⟨f, fd, ps, dvs, ds, dd, c0, h1, h2, h3, h4, h5, h6, h7⟩ := g
  refine pe_imp (pe_callSD (dvs := dvs) (E := WE W) h3 hr hg h1 h2 h4 h5 (fun σ => passAt tk σ) ha hdb he hpl) fun σ H Q ⟨F, ρ, m, Pi, Qz, Ez, hz, he, h, k, kx⟩ => ?_
  exact ⟨F, ρ, m, Pi, _, Ez, hz, he, h, fun xs m1 P1 v H1 l1 z1 r1 q1 => ⟨xs ++ dd, F, m1, P1, Qz, Ez, z1, r1.append (h6.mono PLe.bot), h7 _ _ _ _ q1, k.mono l1, kx.mono l1⟩, kx⟩
theorem pk_imp {X : Cx} {e : List Keyword} {t t' : TA} (h : PK X e t) (i : ∀ σ H Q, t' σ H Q → t σ H Q) : PK X e t' := ⟨fun pos pins s σ H Q I q => h.run pos pins s σ H Q I (i σ H Q q)⟩
theorem r_knil : PK X [] (LA X.K W anil) := pk_imp pk_nil fun σ H Q ⟨F, ρ, m, Pi, Qz, Ez, hz, he, h, k, _⟩ => k _ m Pi _ H PLe.refl hz .nil h
theorem r_kcons (ha : PE X e (LE X.K W ze)) (hr : PK X kws (LA X.K W t)) : PK X (⟨nm, e, kpos⟩ :: kws) (LA X.K W (acons ze t)) := by
  refine pk_imp (pk_cons ha hr) fun σ H Q ⟨F, ρ, m, Pi, Qz, Ez, hz, he, h, k, kx⟩ => ?_
  exact ⟨F, ρ, m, Pi, _, Ez, hz, he, h, fun x m1 P1 v H1 l1 z1 r1 q1 => ⟨F, ρ, m1, P1, _, Ez, z1, he.mono l1, q1, fun xs m2 P2 vs H2 l2 z2 r2 q2 => k _ m2 P2 _ H2 (l1.trans l2) z2 (.cons (r1.mono l2) r2) q2, kx.mono l1⟩, kx⟩
theorem r_callK (g : GDefK X.prog X.w X.K X.mg X.base k x n ks c2) (hr : Room k X.A) (tk : Takes X W) (ha : PA X (e :: es) (LA X.K W t)) (hkw : PK X kws (LA X.K W u)) (hks : (backToKw pos (keywordEach kws X.env)).filterMap (·.1) = ks := by rfl) (hall : (backToKw pos (keywordEach kws X.env)).all (·.1.isSome) = true := by rfl)
    (hg : Gl X x := by rfl) (hdb : (x == ("__debug__" : Str)) = false := by decide) (he : starEach (e :: es) X.env = (false, eval e X.env) :: starEach es X.env := by rfl)
    (hpl : ((backTo pos (starEach (e :: es) X.env)).any (·.1) || (backToKw pos (keywordEach kws X.env)).any (·.1.isNone)) = false := by rfl) : PE X (.Call (.Name x p) (e :: es) kws pos) (LE X.K W (zcallK c2 t u)) := by
  obtain ⟨f, fd, ps, gv, gV, c0, h1, h2, h3, hb, h5⟩ := g
  refine ⟨fun pins s σ H Q I ⟨F, ρ, m, Pi, Qz, Ez, hz, hE, h, kq, kx⟩ => ?_⟩
  have hB : LA X.K W t σ H (fun vs H1 => LA X.K W u σ H1 fun ws H2 => ∃ l1 : vs.length = n, ∃ l2 : ws.length = ks.length, SpOf X.K c0 (gV vs ws) H2 Q (WE W σ)) := by
    refine ⟨F, ρ, m, Pi, _, Ez, hz, hE, h, fun xs m1 P1 vs H1 l1 z1 r1 q1 => ⟨F, ρ, m1, P1, _, Ez, z1, hE.mono l1, q1, fun zs m2 P2 ws H2 l2 z2 r2 q2 => ?_, kx.mono l1⟩, kx⟩
    obtain ⟨e1, e2, ds, r3, q3⟩ := h5 P2 xs zs vs ws m2 Qz Ez (r1.mono l2) r2 q2
    exact ⟨by rw [← r1.length]; exact e1, by rw [← r2.length]; exact e2, ds, F, m2, P2, Qz, Ez, z2, r3, q3, kq.mono (l1.trans l2), kx.mono (l1.trans l2)⟩
  refine wpAny_Call_Name_kw (ld_glob I hg h1 ?_ hdb)
  refine PySem.W.callWith_KW (h₀ := X.base) I.ok.mod.kin h2 hall (thn (ha.run pos pins s σ H _ I hB) fun us s1 hs1 => ?_) hpl he
  obtain ⟨vs, H1, I1, r1, q1⟩ := hs1
  refine thn (hkw.run pos pins s1 σ H1 _ I1 q1) fun ws s2 hs2 => ?_
  obtain ⟨zs, H2, I2, r2, l1, l2, q2⟩ := hs2
  refine ⟨I2.kIn, ?_⟩
  rw [hks]
  refine wpAny_call (codeAny_mono (h3.run X.A X.stack s2 H2 ⟨us, ks.zip ws⟩ (gv us ws) (gV vs zs) Q (WE W σ) hr I2.env0 (hb.to s2 us ws I2.kIn (r1.length.symm.trans l1) (r2.length.symm.trans l2)) (hb.rel r1 r2) q2) fun r s' hq => ?_)
  match r, hq with
  | .error e, hq => exact passAt tk σ pins H2 s2 e s' I2 hq
  | .ok (.ret u), hq => exact I2.after hq
  | .ok .next, hq => exact hq.elim
  | .ok .brk, hq => exact hq.elim
  | .ok .cont, hq => exact hq.elim
end
theorem start_rel {K : PySem.W.Frag} {Pi : Hp} {N : List Str} {ds : List D} {vs : List V} (hrs : Reps K Pi ds vs) : EnvR K Pi (ds.map some ++ List.replicate (N.length - ds.length) none) (L2.start N vs) := by
  refine ⟨?_, fun i d q => ?_⟩
  · unfold L2.start
    rw [List.length_append, List.length_append, List.length_map, List.length_map, List.length_replicate, List.length_replicate, hrs.length]
  · unfold L2.start
    by_cases hi : i < ds.length
    · rw [List.getElem?_append_left (by rw [List.length_map]; exact hi), List.getElem?_map] at q
      cases q2 : ds[i]? with
      | none => rw [q2] at q; cases q
      | some d' =>
        rw [q2] at q
        cases q
        obtain ⟨v, e, r⟩ := hrs.get q2
        exact ⟨v, by rw [List.getElem?_append_left (by rw [List.length_map, ← hrs.length]; exact hi), List.getElem?_map, e]; rfl, r⟩
    · rw [List.getElem?_append_right (by rw [List.length_map]; omega)] at q
      rw [List.getElem?_replicate] at q
      split at q <;> cases q
/-- THE RULE for a def -/
theorem def_ok {P : Program} {w : World} {K : PySem.W.Frag} {mg : Str → Option Value} {base : Heap} {x qual : Str} {st : Stmt} {f : Addr} {fd : FuncData} {N ps : List Str} {k : Nat} {c : ZSp} {b : ZTS} (F : Fun K x qual st f fd) (S : FnScope N ps (defScope st))
    (hw : ∀ ds m Q E, c ds m Q E → ds.length = ps.length ∧ b ⟨fun _ m => Q .non m, Q, fun x _ m => E x m⟩ (ds.map some ++ List.replicate (N.length - ds.length) none) m)
    (hb : ∀ (cdv : Value) (A : Around) (outer : List PySem.Env) (s : Shared) (H : Hp) (E : XK), Room k (A.deeper (envOfC qual (defScope st) s.heap.objs.size f cdv)) →
      PSs (cxOf (L2.CX P w) P w K mg base N qual (defScope st) f cdv A outer s H E) (defBody st) (LS K (fun c d _ H => E c d H) b)) : FnOk P w K mg base (L2.CX P w) (k + 1) f fd ps (SpOf K c) := by
  refine F.okX S (fun vs H Q E h => ?_) (fun cdv A outer s H vs Q E hr h => ?_)
  · obtain ⟨ds, F, m, Pi, Qz, Ez, hz, hrs, hc, _, _⟩ := h
    rw [← hrs.length]
    exact (hw ds m Qz Ez hc).1
  · obtain ⟨ds, F, m, Pi, Qz, Ez, hz, hrs, hc, kq, kx⟩ := h
    exact ⟨_, hb cdv A outer s H E hr, F, ds.map some ++ List.replicate (N.length - ds.length) none, m, Pi, _, hz, start_rel hrs, (hw ds m Qz Ez hc).2, fun ρ' m' P' σ' H' l z e q => kq _ m' P' _ H' l z .non q, kq, fun x ρ' m' P' c dd σ' H' l z e r q => kx x m' P' c dd H' l z r q⟩
/-- the same with defaults -/
theorem def_okD {P : Program} {w : World} {K : PySem.W.Frag} {mg : Str → Option Value} {base : Heap} {x qual : Str} {st : Stmt} {f : Addr} {fd : FuncData} {N ps : List Str} {k : Nat} {c : ZSp} {b : ZTS} {dvs : List V} {kws : List (Str × V)} (F : FunD K x qual (defArgs st) (defBody st) (defScope st) dvs kws f fd) (S : FnScope N ps (defScope st))
    (hw : ∀ ds m Q E, c ds m Q E → ds.length = ps.length ∧ b ⟨fun _ m => Q .non m, Q, fun x _ m => E x m⟩ (ds.map some ++ List.replicate (N.length - ds.length) none) m)
    (hb : ∀ (cdv : Value) (A : Around) (outer : List PySem.Env) (s : Shared) (H : Hp) (E : XK), Room k (A.deeper (envOfC qual (defScope st) s.heap.objs.size f cdv)) →
      PSs (cxOf (L2.CX P w) P w K mg base N qual (defScope st) f cdv A outer s H E) (defBody st) (LS K (fun c d _ H => E c d H) b)) : FnOk P w K mg base (L2.CX P w) (k + 1) f fd ps (SpOf K c) := by
  obtain ⟨oc, od, dV, kV, doc, pm, an, cdv, ct, osl, rfl, lk, hcd, _, _⟩ := F.ex
  refine fn_of lk hcd S (fun vs H Q E h => ?_) (fun A outer s H vs Q E hr h => ?_)
  · obtain ⟨ds, F, m, Pi, Qz, Ez, hz, hrs, hc, _, _⟩ := h
    rw [← hrs.length]
    exact (hw ds m Qz Ez hc).1
  · obtain ⟨ds, F, m, Pi, Qz, Ez, hz, hrs, hc, kq, kx⟩ := h
    exact ⟨_, hb cdv A outer s H E hr, F, ds.map some ++ List.replicate (N.length - ds.length) none, m, Pi, _, hz, start_rel hrs, (hw ds m Qz Ez hc).2, fun ρ' m' P' σ' H' l z e q => kq _ m' P' _ H' l z .non q, kq, fun x ρ' m' P' c dd σ' H' l z e r q => kx x m' P' c dd H' l z r q⟩
end Zed
end
section
set_option maxHeartbeats 4000000
/-! Zed7: the built-ins' names, in-place operators, short words for proofs. -/
namespace Zed
open PySem PySem.Spec PyProof.Rows L2

/-- the built-in names that the texts use, which no module's name hides -/
structure Blt (mg : Str → Option Value) : Prop where
  abs : mg "abs" = none
  all : mg "all" = none
  any : mg "any" = none
  bool : mg "bool" = none
  dict : mg "dict" = none
  divmod : mg "divmod" = none
  enumerate : mg "enumerate" = none
  int : mg "int" = none
  isinstance : mg "isinstance" = none
  len : mg "len" = none
  list : mg "list" = none
  max : mg "max" = none
  min : mg "min" = none
  range : mg "range" = none
  repr : mg "repr" = none
  reversed : mg "reversed" = none
  sorted : mg "sorted" = none
  str : mg "str" = none
  sum : mg "sum" = none
  tuple : mg "tuple" = none
  zip : mg "zip" = none
theorem bv_abs : bootBuiltins "abs" = some (.builtin "abs") := by decide +kernel
theorem bv_all : bootBuiltins "all" = some (.builtin "all") := by decide +kernel
theorem bv_any : bootBuiltins "any" = some (.builtin "any") := by decide +kernel
theorem bv_divmod : bootBuiltins "divmod" = some (.builtin "divmod") := by decide +kernel
theorem bv_len : bootBuiltins "len" = some (.builtin "len") := by decide +kernel
theorem bv_max : bootBuiltins "max" = some (.builtin "max") := by decide +kernel
theorem bv_min : bootBuiltins "min" = some (.builtin "min") := by decide +kernel
theorem bv_sum : bootBuiltins "sum" = some (.builtin "sum") := by decide +kernel
theorem bv_sorted : bootBuiltins "sorted" = some (.builtin "sorted") := by decide +kernel
theorem bv_repr : bootBuiltins "repr" = some (.builtin "repr") := by decide +kernel
theorem bv_int : bootBuiltins "int" = some (.type "int") := by decide +kernel
theorem bv_str : bootBuiltins "str" = some (.type "str") := by decide +kernel
theorem bv_bool : bootBuiltins "bool" = some (.type "bool") := by decide +kernel
theorem bv_tuple : bootBuiltins "tuple" = some (.type "tuple") := by decide +kernel
theorem bv_list : bootBuiltins "list" = some (.type "list") := by decide +kernel
theorem bv_dict : bootBuiltins "dict" = some (.type "dict") := by decide +kernel
section
variable {X : Cx} {W : WX} {e : Expr} {pos k1 k2 : Pos} {ze : ZTE}
theorem i_int (B : Blt X.mg) (he : PE X e (LE X.K W ze)) (hgT : Gl X "int" := by rfl) (hg : Gl X "isinstance" := by rfl) (h1 : starEach (e :: [.Name "int" k2]) X.env = (false, eval e X.env) :: starEach [.Name "int" k2] X.env := by rfl) : PE X (.Call (.Name "isinstance" k1) [e, .Name "int" k2] [] pos) (LE X.K W (zisi .int ze)) :=
  r_isi .int B.isinstance B.int he (by decide) bv_int hgT (by decide) (by decide) hg h1
theorem i_bool (B : Blt X.mg) (he : PE X e (LE X.K W ze)) (hgT : Gl X "bool" := by rfl) (hg : Gl X "isinstance" := by rfl) (h1 : starEach (e :: [.Name "bool" k2]) X.env = (false, eval e X.env) :: starEach [.Name "bool" k2] X.env := by rfl) : PE X (.Call (.Name "isinstance" k1) [e, .Name "bool" k2] [] pos) (LE X.K W (zisi .bool ze)) :=
  r_isi .bool B.isinstance B.bool he (by decide) bv_bool hgT (by decide) (by decide) hg h1
theorem i_tuple (B : Blt X.mg) (he : PE X e (LE X.K W ze)) (hgT : Gl X "tuple" := by rfl) (hg : Gl X "isinstance" := by rfl) (h1 : starEach (e :: [.Name "tuple" k2]) X.env = (false, eval e X.env) :: starEach [.Name "tuple" k2] X.env := by rfl) : PE X (.Call (.Name "isinstance" k1) [e, .Name "tuple" k2] [] pos) (LE X.K W (zisi .tuple ze)) :=
  r_isi .tuple B.isinstance B.tuple he (by decide) bv_tuple hgT (by decide) (by decide) hg h1
theorem i_str (B : Blt X.mg) (he : PE X e (LE X.K W ze)) (hgT : Gl X "str" := by rfl) (hg : Gl X "isinstance" := by rfl) (h1 : starEach (e :: [.Name "str" k2]) X.env = (false, eval e X.env) :: starEach [.Name "str" k2] X.env := by rfl) : PE X (.Call (.Name "isinstance" k1) [e, .Name "str" k2] [] pos) (LE X.K W (zisi .str ze)) :=
  r_isi .str B.isinstance B.str he (by decide) bv_str hgT (by decide) (by decide) hg h1
theorem i_list (B : Blt X.mg) (he : PE X e (LE X.K W ze)) (hgT : Gl X "list" := by rfl) (hg : Gl X "isinstance" := by rfl) (h1 : starEach (e :: [.Name "list" k2]) X.env = (false, eval e X.env) :: starEach [.Name "list" k2] X.env := by rfl) : PE X (.Call (.Name "isinstance" k1) [e, .Name "list" k2] [] pos) (LE X.K W (zisi .list ze)) :=
  r_isi .list B.isinstance B.list he (by decide) bv_list hgT (by decide) (by decide) hg h1

/-! ### op= -/
def oIAdd : ZOp
  | .int i, .int j, m, Q => Q (.int (i + j)) m
  | .str x, .str y, m, Q => x.length + y.length ≤ sizeLine ∧ Q (.str (x ++ y)) m
  | _, _, _, _ => False
theorem a_add : OpR X (inplaceOp .Add) (RS X.K oIAdd) := by
  intro pins s σ H x y v u Q I rx ry ⟨d, e, F, m, Pi, Qz, z, r1, r2, h, k⟩
  cases r1 with
  | int =>
    cases r2 with
    | int => exact iop_add pins s σ H _ _ v u Q I rx ry ⟨_, _, rfl, rfl, fin_int k z h⟩
    | _ => exact h.elim
  | str =>
    cases r2 with
    | str => exact iop_add_str pins s σ H _ _ v u Q I rx ry ⟨_, _, rfl, rfl, h.1, fin_str k z h.2⟩
    | _ => exact h.elim
  | _ => exact h.elim
theorem a_sub : OpR X (inplaceOp .Sub) (RS X.K oSub) := by
  intro pins s σ H x y v u Q I rx ry ⟨d, e, F, m, Pi, Qz, z, r1, r2, h, k⟩
  cases r1 with
  | int =>
    cases r2 with
    | int => exact iop_sub pins s σ H _ _ v u Q I rx ry ⟨_, _, rfl, rfl, fin_int k z h⟩
    | _ => exact h.elim
  | _ => exact h.elim
theorem iop_mulW : OpR X (inplaceOp .Mult) (rI CMulW fun i j => .int (i * j)) := opI fun _ _ _ _ _ _ _ hc q => imul_int q hc.ok
theorem a_mul : OpR X (inplaceOp .Mult) (RS X.K oMul) := op_of_int iop_mulW
theorem a_fdv : OpR X (inplaceOp .FloorDiv) (RS X.K oFdv) := op_of_int iop_fdivW
theorem a_shr : OpR X (inplaceOp .RShift) (RS X.K oShr) := op_of_int iop_shr
theorem a_mod : OpR X (inplaceOp .Mod) (RS X.K oMod) := op_of_int iop_mod
end
/-- the names' values -/
theorem gval_int {K : PySem.W.Frag} {mg : Str → Option Value} {x : Str} {i : Int} {t : Tok} (h : mg x = some (.int i t)) : GVal K mg x (.int i) := ⟨.int i, .int i t, h, ⟨t, rfl⟩, .int⟩

/-! ### short words -/
theorem ix2 {α : Type} {a b c d : α} : ([a, b, c, d] : List α)[2]? = some c := rfl
theorem small_div {i j : Int} (h : 0 < j) (hb : j < 2 ^ 8000) : CDivP i j := by
  refine ⟨h, PyProof.noPylong_of_log2 ?_⟩
  have h2 : j.natAbs < 2 ^ 8000 := by omega
  exact Nat.lt_of_lt_of_le (PySem.Flt.log2_lt_of (by decide) h2) (by decide)
theorem small_fdv {i j : Int} (h : 0 < j) (hb : j < 2 ^ 8000) : CDivW i j := wide_div h (b := 8000) (by omega) (by decide) (by decide)
/-- products: both within 2 ^ 400000 -/
theorem small_mul {i j : Int} (h1 : i.natAbs < 2 ^ 400000) (h2 : j.natAbs < 2 ^ 400000) : CMulW i j := wide_mul h1 h2 (by decide) (by decide) (by decide)
end Zed
end
section
set_option maxHeartbeats 4000000
/-! Zed8: enumerate of a tuple, a tuple from behind, a statement never reached. -/
namespace Zed
open PySem PySem.Spec PyProof.Rows L2
open PySem.AutoSeq1

def snever : ZTS := fun _ _ _ => False
theorem r_never {X : Cx} {W : WX} {sts : List Stmt} : PSs X sts (LS X.K W snever) := pss_imp pss_never fun _ _ _ ⟨_, _, _, _, _, _, _, h, _⟩ => h

/-! ### t[::-1] -/
theorem rev_adjust (n : Nat) : Builtin.Slice.sliceAdjust none none (-1) (n : Int) = ((n : Int) - 1, -1) := by
  unfold Builtin.Slice.sliceAdjust
  simp
theorem rev_places (n : Nat) : Builtin.Slice.slicePlaces ((n : Int) - 1) (-1) (-1) = n := by
  unfold Builtin.Slice.slicePlaces
  have h1 : ¬ ((-1 : Int) > 0) := by decide
  simp only [h1, if_false]
  split
  · rw [show (-(-1 : Int)) = 1 by decide, Int.ediv_one]
    omega
  · omega
theorem rev_picked (xs : Array Value) : ((List.range xs.size).filterMap fun (k : Nat) => xs[(((xs.size : Nat) : Int) - 1 + (k : Int) * (-1)).toNat]?).toArray = xs.toList.reverse.toArray := by
  congr 1
  have e : ∀ n : Nat, n ≤ xs.size → (List.range n).filterMap (fun (k : Nat) => xs[(((xs.size : Nat) : Int) - 1 + (k : Int) * (-1)).toNat]?) = (xs.toList.reverse).take n := by
    intro n
    induction n with
    | zero => intro _; rfl
    | succ n ih =>
      intro hn
      rw [List.range_succ, List.filterMap_append, ih (by omega)]
      have hk : (((xs.size : Nat) : Int) - 1 + (n : Int) * (-1)).toNat = xs.size - 1 - n := by omega
      have hlt : xs.size - 1 - n < xs.size := by omega
      have hr : n < xs.toList.reverse.length := by rw [List.length_reverse, Array.length_toList]; omega
      rw [List.take_succ_eq_append_getElem hr]
      congr 1
      simp only [List.filterMap_cons, hk, List.filterMap_nil]
      rw [Array.getElem?_eq_getElem hlt]
      simp
  rw [e xs.size (Nat.le_refl _)]
  apply List.take_of_length_le
  simp
section
variable {prog : Program} {w : World} {A : Around} {E : Value → Shared → Prop} {s : Shared}
theorem rev_applied {sl : Addr} {t : Tok} {n : Nat} {Q : Int × Int × Nat → Shared → Prop} (hs : s.heap.IsSliceOf sl .none .none (.int (-1) t)) (h : Q ((n : Int) - 1, -1, n) s) :
    wpAny (model prog w) A (Builtin.Slice.sliceApplied (.ref sl) (pure (n : Int))) Q E s := by
  obtain ⟨ob, hob, _, hdat⟩ := id hs
  unfold Builtin.Slice.sliceApplied Builtin.Slice.sliceFields
  refine wpAny_bind (wpAny_bind (wpAny_field hob hdat (x := .none) rfl (wpAny_bind (wpAny_field hob hdat (x := .none) rfl (wpAny_bind (wpAny_field hob hdat (x := .int (-1) t) rfl (wpAny_pure ?_)))))))
  refine wpAny_bind (HT.slicePart_ (.int (-1) t) ?_)
  show wpAny _ _ (if (((-1 : Int)) == 0) = true then _ else _) _ _ s
  rw [if_neg (by decide)]
  refine wpAny_bind (HT.slicePart_ .none (wpAny_bind (HT.slicePart_ .none (wpAny_bind (wpAny_pure ?_)))))
  show wpAny _ _ (match Builtin.Slice.sliceAdjust none none (-1) (n : Int) with | (lo, hi) => pure (lo, (-1 : Int), Builtin.Slice.slicePlaces lo hi (-1))) _ _ s
  rw [rev_adjust]
  show wpAny _ _ (pure (((n : Int) - 1), (-1 : Int), Builtin.Slice.slicePlaces ((n : Int) - 1) (-1) (-1))) _ _ s
  rw [rev_places]
  exact wpAny_pure h
theorem rev_item {a sl : Addr} {items : Array Value} {t : Tok} {Q : Value → Shared → Prop} (ht : IsTup s.heap a items) (hs : s.heap.IsSliceOf sl .none .none (.int (-1) t))
    (h : Q (.ref s.heap.objs.size) { s with heap := s.heap.push { cls := .type "tuple", data := .seq items.toList.reverse.toArray } }) (hz : items.size ≤ sizeLine) : wpAny (model prog w) A (getItem (.ref a) (.ref sl)) Q E s := by
  have fits : sizeOk (.seq items.toList.reverse.toArray) := by
    show items.toList.reverse.toArray.size ≤ sizeLine
    rw [List.size_toArray, List.length_reverse, Array.length_toList]
    exact hz
  have isSl : s.TypeIs (.ref sl) "slice" := by
    obtain ⟨ob, hob, hcl, _⟩ := id hs
    exact ⟨ob, hob, hcl⟩
  unfold getItem
  try with_reducible refine wpAny_holding ?_
  first | refine wpAny_bind (wpAny_pure ?_) | skip
  refine wpAny_bind (wpAny_sequenceKey ht.typeIs (by decide) ?_)
  refine wpAny_bind (wpAny_callSpecial?_slot (name := Str.ofString "__getitem__") ht.typeIs PyProof.Rows.slot_tuple_getitem (wpAny_call_entry PyProof.Rows.slot_tuple_getitem ht.typeIs entry_tuple_getitem ?_ (args_tuple_getitem _ _)))
  show wpAny _ _ (Builtin.Tuple.tupleItemsOf (.ref a) >>= _) _ _ s
  refine wpAny_bind (tupleItemsOf_ ht (wpAny_bind (wpAny_typeOf isSl ?_)))
  rw [if_pos (by decide)]
  refine wpAny_bind (rev_applied hs ?_)
  show wpAny _ _ (if ((((items.size : Nat) : Int) - 1) == 0 && (-1 : Int) == 1 && items.size == items.size) = true then _ else _) _ _ s
  rw [if_neg (by simp), rev_picked]
  first
    | exact wpAny_bind (m := Builtin.Tuple.tupleExact _) (wpAny_newObj_type (wpAny_pure ⟨_, rfl, wpAny_pure h⟩) fits)
    | exact wpAny_bind (m := Builtin.Tuple.tupleExact _) (wpAny_newObj_type (wpAny_bind (wpAny_pure (wpAny_pure ⟨_, rfl, wpAny_pure h⟩))) fits)
    | exact wpAny_bind (wpAny_bind (m := Builtin.Tuple.tupleExact _) (wpAny_newObj_type (wpAny_pure (wpAny_pure ⟨_, rfl, wpAny_pure h⟩)) fits))
    | exact wpAny_bind (wpAny_bind (m := Builtin.Tuple.tupleExact _) (wpAny_newObj_type (wpAny_pure ⟨_, rfl, wpAny_pure h⟩) fits))
end
section
variable {X : Cx} {W : WX} {e : Expr} {pos : Pos} {ze : ZTE}
/-- x[::-1] of a list or a tuple -/
def zrevA (a : ZTE) : ZTE := fun ρ m Q E => a ρ m (fun x m1 => match x with
  | .tup xs => Q (.tup xs.reverse) m1
  | d => match seqD m1 d with
    | some xs => Q (.fl xs.reverse) m1
    | none => False) E
theorem r_revA {k : Nat} {p1 p2 p3 : Pos} (he : PE X e (LE X.K W ze)) : PE X (.Subscript e (.Slice none none (some (.UnaryOp .USub (.Constant (.int 1) k p1) p2)) p3) pos) (LE X.K W (zrevA ze)) := by
  refine ⟨fun pins s σ H Q I ⟨F, ρ, m, Pi, Qz, Ez, hz, hE, h, kq, kx⟩ => ?_⟩
  -- its value first
  have h0 : LE X.K W ze σ H (fun v H1 => ∃ d m1 P1, Zm X.K F m1 P1 H1 ∧ PLe Pi P1 ∧ Rep X.K P1 d v ∧ (match d with
    | .tup xs => Qz (.tup xs.reverse) m1
    | d => match seqD m1 d with
      | some xs => Qz (.fl xs.reverse) m1
      | none => False)) := ⟨F, ρ, m, Pi, _, Ez, hz, hE, h, fun x m1 P1 v H1 l1 z1 r1 q1 => ⟨x, m1, P1, z1, l1, r1, q1⟩, kx⟩
  refine Subscript_ (thn (he.run pins s σ H _ I h0) fun v s1 ⟨x, H1, I1, rv, d, m1, P1, z1, l1, r1, q1⟩ => ?_)
  have part : PO X (some (.UnaryOp .USub (.Constant (.int 1) k p1) p2)) (tPart (tUn (rU fun i => .int (-i)) (tC (.int 1)))) := po_some (pe_un un_neg pe_int)
  refine wpAny_Slice (thn (po_none.run pins s1 σ H1 (fun o G => o = none ∧ G = H1) I1 ⟨rfl, rfl⟩) fun vl s2 ⟨l, G2, I2, pl, el, e2⟩ => ?_)
  subst el e2
  refine thn (po_none.run pins s2 σ G2 (fun o G => o = none ∧ G = G2) I2 ⟨rfl, rfl⟩) fun vu s3 ⟨u, G3, I3, pu, eu, e3⟩ => ?_
  subst eu e3
  refine thn (part.run pins s3 σ G3 (fun o G => o = some (-1) ∧ G = G3) I3 ⟨1, rfl, -1, rfl, rfl, rfl⟩) fun vst s4 ⟨o, G4, I4, pst, eo, e4⟩ => ?_
  subst eo e4
  have I5 : Inv X pins σ G4 { s4 with heap := s4.heap.push { cls := .type "slice", data := .fields #[vl, vu, vst] } } := I4.kept (t' := s4.toks) fun b ob q => Heap.get?_push_of_some _ q
  have asList : ∀ {a : Addr} {vs : List V} {xs : List D}, v = .ref a → SqL X.K G4 a vs → Reps X.K P1 xs vs → Qz (.fl xs.reverse) m1 →
      wpAny (model X.prog X.w) X.A (subscriptTail e (.Slice none none (some (.UnaryOp .USub (.Constant (.int 1) k p1) p2)) p3) v (.ref s4.heap.objs.size)) (EP X pins σ Q) X.xe { s4 with heap := s4.heap.push { cls := .type "slice", data := .fields #[vl, vu, vst] } } := by
    intro a vs xs ev hs rs hq
    subst ev
    obtain ⟨its, r, ht, hsz⟩ := I5.list hs
    have hlen := r.length
    refine tail_any (ops := [.ref a, .ref s4.heap.objs.size]) ht.isList.typeIs (PySem.slot_list_getitem.lookup) ?_ (by with_unfolding_all rfl)
    refine wpAny_getItem_list_slice ht.isList (Heap.IsSliceOf.new _ vl vu vst) pl pu pst (by decide) ?_ (by rw [List.size_toArray]; omega)
    rw [PySem.W.krv_pick]
    refine ⟨.ref _, _, I5.laid (t' := s4.toks) (o := .lst vs.reverse) (fun b ob q => Heap.get?_push_of_some _ q) (Nat.le_refl _) ?_, rfl, fin_fl (kq.mono l1) z1 rs.reverse (I5.hok.fresh (Nat.le_refl _)) hq⟩
    exact ⟨by rw [List.length_reverse]; exact hsz, _, 0, r.reverse, Heap.get?_push_size _ rfl⟩
  cases r1 with
  | tup hs rs =>
    rename_i a vs xs
    obtain rfl : v = .ref a := rv
    obtain ⟨its, r, ht, hsz⟩ := I5.tuple (z1.sub.sqt hs)
    have hlen := r.length
    cases pl
    cases pu
    cases pst with
    | int i t =>
      refine tail_any (ops := [.ref a, .ref s4.heap.objs.size]) ht.typeIs (PyProof.Rows.slot_tuple_getitem.lookup) ?_ (by with_unfolding_all rfl)
      refine rev_item ht (Heap.IsSliceOf.new _ .none .none (.int (-1) t)) ?_ (by rw [List.size_toArray]; omega)
      refine ⟨.ref _, _, I5.laid (t' := s4.toks) (o := .tup vs.reverse) (fun b ob q => Heap.get?_push_of_some _ q) (Nat.le_refl _) ?_, rfl, fin_tup (kq.mono l1) z1 rs.reverse (I5.hok.fresh (Nat.le_refl _)) q1⟩
      exact ⟨by rw [List.length_reverse]; exact hsz, _, r.reverse, IsTup.new _ _⟩
  | fl hs rs => exact asList rv (z1.sub.sql hs) rs q1
  | ref =>
    rename_i a
    cases q : seqD m1 (.ref a) with
    | none => simp only [q] at q1
    | some xs =>
      simp only [q] at q1
      obtain ⟨b, vs, eb, hs, rs⟩ := seq_of z1 (.ref (a := a)) q
      cases eb
      exact asList rv hs rs q1
  | _ => exact q1.elim
end

/-! ### enumerate(t) -/
section
variable {prog : Program} {w : World} {A : Around} {E : Value → Shared → Prop} {s : Shared}
set_option maxHeartbeats 1000000 in
theorem meets_enum1 {v : Value} {o : Obj} {H : Heap → Prop} (B : Begins v o H) :
    Meets (Builtin.«enumerate.__new__» ⟨[.type "enumerate", v], []⟩) (fun _ R s => H s.heap ∧
      R (.ok (.ret (.ref (s.heap.push o).objs.size))) { s with heap := (s.heap.push o).push { cls := .type "enumerate", data := .fields #[.none, .bool false, .ref s.heap.objs.size, rawInt 0, .none, .none] } }) :=
  .of_wp fun prog w A R s hh => by
    obtain ⟨hp, g, d, tk, os⟩ := s
    obtain ⟨hH, hR⟩ := hh
    have hsub := sub_enumerate
    have itr : ∀ {A' : Around} {E : Value → Shared → Prop} {Q : Value → Shared → Prop}, Q (.ref hp.objs.size) ⟨hp.push o, g, d, tk, os⟩ → wpAny (model prog w) A' (pyIter v) Q E ⟨hp, g, d, tk, os⟩ := fun q => B.iter prog w _ _ ⟨hp, g, d, tk, os⟩ _ hH q
    wp_walk using itr
    refine wpAny_stack_any fun st => wpAny_pure ?_
    split
    · rename_i c _ _ _ _ _
      cases (c == Value.type "enumerate") <;> (wp_walk using itr; exact ⟨_, rfl, hR⟩)
    · wp_walk using itr
      exact ⟨_, rfl, hR⟩
theorem enum1_begins {v : Value} {o : Obj} {H : Heap → Prop} {Q : Value → Shared → Prop} (B : Begins v o H) (h1 : H s.heap)
    (h : ∀ h', IsEnum h' (s.heap.objs.size + 1) s.heap.objs.size 0 .none → h'.get? s.heap.objs.size = some o → (∀ b o, s.heap.get? b = some o → h'.get? b = some o) → Q (.ref (s.heap.objs.size + 1)) { s with heap := h' }) :
    wpAny (model prog w) A (call (.type "enumerate") [v]) Q E s := by
  refine callType_new F.called_enumerate (by decide) (F.typeCall_enumerate_1 _) (F.newCall_enumerate_1 _) (fun obj => F.args_object_init_2 obj _) F.entry_enumerate_new (meets_enum1 B) ⟨h1, ?_⟩
  have hz : (s.heap.push o).objs.size = s.heap.objs.size + 1 := Heap.size_push ..
  show _ ∧ _
  rw [hz]
  have isE : IsEnum ((s.heap.push o).push { cls := .type "enumerate", data := .fields #[.none, .bool false, .ref s.heap.objs.size, rawInt 0, .none, .none] }) (s.heap.objs.size + 1) s.heap.objs.size 0 .none := by
    have q := Heap.get?_push_size (s.heap.push o) (o := { cls := .type "enumerate", data := .fields #[.none, .bool false, .ref s.heap.objs.size, rawInt 0, .none, .none] }) rfl
    rw [hz] at q
    exact q
  exact ⟨⟨_, isE, rfl⟩, h _ isE (Heap.get?_push_of_some _ (Heap.get?_push_size _ B.free)) fun b o x => Heap.get?_push_of_some _ (Heap.get?_push_of_some _ x)⟩
end
/-- the tuple at a, each item in a new pair with its place -/
def IteT (K : PySem.W.Frag) (a : Addr) : It :=
  ⟨fun i H => ∃ (xs : List V) (x : V), SqT K H a xs ∧ xs[i]? = some x, fun i H v H' => ∃ p x, v = .ref p ∧ H p = none ∧ H' = upd H p (.tup [.int (i : Nat), x]) ∧ ∀ xs, SqT K H a xs → xs[i]? = some x, fun i H => ∃ xs : List V, SqT K H a xs ∧ xs.length ≤ i⟩
theorem turn_enumT {P : Program} {w : World} {K : PySem.W.Frag} {elts : List Expr} {kk : Nat} {tpos : Pos} (a e it : Addr) :
    Turn P w K (.Tuple elts kk tpos) (IteT K a) [e, it] e (fun i h => (∃ old, IsEnum h e it ((i : Nat) : Int) old) ∧ h.IsTupleIter it a i ∧ e ≠ it ∧ a ≠ it ∧ e ≠ a) where
  mem := by simp
  obj := fun i h st b hb => by
    obtain ⟨⟨old, isE⟩, ⟨o, ho, _, hd⟩, _⟩ := st
    rcases (by simpa using hb : b = e ∨ b = it) with z | z
    · rw [z]
      exact ⟨_, isE, fun v q => nomatch q⟩
    · rw [z]
      exact ⟨o, ho, fun v q => by rw [hd] at q; cases q⟩
  keep := fun i h h' st k => by
    obtain ⟨⟨old, isE⟩, hi, hr⟩ := st
    exact ⟨⟨old, k e (by simp) _ isE⟩, hi.at fun o q => k it (by simp) o q, hr⟩
  item := by
    intro X hP hw hK hc i pins s σ H E I hf st hg
    subst hP hw hK
    obtain ⟨⟨old, isE⟩, hit, hne, hai, hea⟩ := st
    obtain ⟨xs, x, hq, hx⟩ := hg
    obtain ⟨its, rv, ht, hz⟩ := I.tuple hq
    obtain ⟨u, hu, ru⟩ := rv.get hx
    have le1 : e < s.heap.objs.size := Heap.lt_size isE
    have le2 : it < s.heap.objs.size := by obtain ⟨_, q, _⟩ := hit; exact Heap.lt_size q
    have hlt : i < its.toArray.size := by
      rw [List.size_toArray]
      exact (List.getElem?_eq_some_iff.mp hu).1
    refine wpAny_pyNext_enum_itemD (Draws.tuple (prog := X.prog) (w := X.w) (A := X.A.in1) (I.ok.hd hc) it a hai its.toArray) isE ⟨hit, ht⟩ hlt hne (by simp [hne, hea]) fun y h' tk hy hout hst hT hsz hk => ?_
    have ey : y = u := by
      have h1 : its.toArray[i]? = some y := hy
      rw [List.getElem?_toArray, hu] at h1
      exact (Option.some.inj h1).symm
    subst ey
    refine ⟨_, rfl, wpAny_letOwnedTupleGo_enum (s := { s with heap := h', toks := tk + 1 }) hout fun h2 isE2 sb => ?_⟩
    have hT2 : h2.get? s.heap.objs.size = some { cls := .type "tuple", data := .seq #[.int i tk, y] } := (sb.2 _ (Nat.ne_of_gt le1)).trans hT
    have new : ObjOk X.prog X.w (upd H s.heap.objs.size (.tup [.int (i : Nat), x])) h2 s.heap.objs.size (.tup [.int (i : Nat), x]) := ⟨by show 2 ≤ sizeLine; decide, [.int i tk, y], .cons ⟨_, rfl⟩ (.cons ru .nil), ⟨_, hT2, rfl, _, rfl⟩⟩
    have J : Inv X pins σ (upd H s.heap.objs.size (.tup [.int (i : Nat), x])) { s with heap := h2, toks := tk + 1 } :=
      I.turnedNew (ch := [e, it]) (fun b ob hb q => (sb.2 b fun z => hb (by simp [z])).trans (hk b ob (fun z => hb (by simp [z])) (fun z => hb (by simp [z])) q)) hf (Nat.le_refl _) new
    refine ⟨.ref s.heap.objs.size, _, J, rfl, ⟨_, x, rfl, I.hok.fresh (Nat.le_refl _), rfl, fun ys hy => by rw [I.tuple_inj hy hq]; exact hx⟩, ⟨⟨y, ?_⟩, hst.1.at fun o q => (sb.2 it (Ne.symm hne)).trans q, hne, hai, hea⟩, fun b hb => ?_⟩
    · rw [show ((i + 1 : Nat) : Int) = (i : Int) + 1 by omega]
      exact isE2
    · have hb' : b < s.heap.objs.size := by
        rcases (by simpa using hb : b = e ∨ b = it) with z | z
        · rw [z]; exact le1
        · rw [z]; exact le2
      rw [upd_ne (Nat.ne_of_lt hb')]
      exact (hf b hb).1
  done := by
    intro X hP hw hK hc i pins s σ H E I hf st hg
    subst hP hw hK
    obtain ⟨⟨old, isE⟩, hit, hne, hai, hea⟩ := st
    obtain ⟨xs, hq, hx⟩ := hg
    obtain ⟨its, rv, ht, hz⟩ := I.tuple hq
    obtain ⟨f0, f1, f2, f3, f4, f5⟩ := hf it (by simp)
    have hlen := rv.length
    have D' : Draws X.prog X.w X.A.in1 it [it, a] i (fun _ _ => True) (fun j h => j = i ∧ h.IsTupleIter it a i ∧ h.IsTuple a its.toArray) :=
      ⟨fun _ _ st => by obtain ⟨_, ⟨o, ho, _⟩, _⟩ := st; exact ⟨o, ho⟩, fun _ _ _ st hk => ⟨st.1, st.2.1.at fun o e => hk it (by simp) o e, st.2.2.at fun o e => hk a (by simp) o e⟩,
        fun j _ _ _ hj st _ => absurd st.1 (Nat.ne_of_lt hj), fun s Q E st hE => wpAny_nextOf_tuple_end (I.ok.hd hc) st.2.1 st.2.2 (by rw [List.getElem?_toArray]; exact List.getElem?_eq_none (by omega)) hE⟩
    exact wpAny_pyNext_enum_endD D' isE ⟨rfl, hit, ht⟩ fun h' eb => ⟨rfl, I.turned (t' := s.toks) (fun b o hb q => eb b o hb q) f0 f1 f3 f4 f5⟩
  self := fun A i s Q E st h => let ⟨⟨_, he⟩, _⟩ := st; wpAny_pyIter_enum he h
/-- enumerate of a list or a tuple -/
def ienumT (t : ZTA) : ZTI := fun ρ m Q E => t ρ m (fun xs m1 => match xs with
  | [.tup xs] => Q ⟨xs.length, fun i => .tup [.int i, xs.getD i .non], fun _ => True⟩ m1
  | _ => False) E
theorem r_ienumT {X : Cx} {W : WX} {e : Expr} {p pos : Pos} {zl : ZTA} {elts : List Expr} {kk : Nat} {tpos : Pos} (hm : X.mg "enumerate" = none) (ha : PA X [e] (LA X.K W zl)) (hg : Gl X "enumerate" := by rfl) (hs : starEach [e] X.env = [(false, eval e X.env)] := by rfl) : PI X (.Tuple elts kk tpos) (.Call (.Name "enumerate" p) [e] [] pos) (LI X.K W (ienumT zl)) := by
  refine ⟨fun pins s σ H R I ⟨F, ρ, m, Pi, Qz, Ez, hz, hE, h, kq, kx⟩ => ?_⟩
  have h0 : LA X.K W zl σ H (fun vs H1 => ∃ a xs vs' m1 P1, vs = [.ref a] ∧ Zm X.K F m1 P1 H1 ∧ PLe Pi P1 ∧ SqT X.K P1 a vs' ∧ Reps X.K P1 xs vs' ∧ Qz ⟨xs.length, fun i => .tup [.int i, xs.getD i .non], fun _ => True⟩ m1) := by
    refine ⟨F, ρ, m, Pi, _, Ez, hz, hE, h, fun ds m1 P1 vs H1 l1 z1 r1 q1 => ?_, kx⟩
    dsimp only at q1
    split at q1
    · obtain ⟨v, rfl, r2⟩ := reps1 r1
      cases r2 with
      | tup hs rs => exact ⟨_, _, _, m1, P1, rfl, z1, l1, hs, rs, q1⟩
    · exact q1.elim
  refine Call_ (ld_blt I hg hm boot_enumerate (PyProof.Rows.callWith_type1 (thn (ha.run pos pins s σ H _ I h0) fun us s1 ⟨vs, H1, I1, r1, a, xs, vs', m1, P1, ev, z1, l1, hT, rs, q1⟩ => ?_) hs rfl))
  subst ev
  obtain ⟨u, rfl, ru⟩ := vals1 r1
  obtain rfl : u = .ref a := ru
  obtain ⟨its, rv, ht, hsz⟩ := I1.tuple (z1.sub.sqt hT)
  have hlt := ht.lt
  refine enum1_begins (begins_tuple a its.toArray) ht fun h' isE hit hk => wpAny_pyIter_enum isE ?_
  have I2 : Inv X pins σ H1 { s1 with heap := h' } := I1.kept (t' := s1.toks) hk
  have wk : WkOk X.K P1 (IteT X.K a) ⟨xs.length, fun i => .tup [.int i, xs.getD i .non], fun _ => True⟩ := by
    intro F i m P' H l z _
    have hT' := z.sub.sqt (l.sqt hT)
    have rs' := rs.mono l
    refine ⟨fun h => ?_, fun h => ⟨vs', hT', by rw [← rs'.length]; exact Nat.le_of_eq h.symm⟩⟩
    obtain ⟨v, e, r⟩ := reps_getD rs' h
    refine ⟨⟨vs', v, hT', e⟩, fun x H' hy => ?_⟩
    obtain ⟨T, y, rfl, nT, rfl, f⟩ := hy
    have e2 := f vs' hT'
    rw [e] at e2
    cases e2
    obtain ⟨z2, l2⟩ := z.newPi nT (.tup [.int (i : Nat), v])
    exact ⟨_, l2, z2, .tup (.inl (.inl upd_same)) (.cons .int (.cons (r.mono l2) .nil))⟩
  refine ⟨s1.heap.objs.size + 1, [s1.heap.objs.size + 1, s1.heap.objs.size], _, IteT X.K a, H1, rfl, I2, turn_enumT a (s1.heap.objs.size + 1) s1.heap.objs.size,
    ⟨⟨.none, isE⟩, ⟨_, hit, rfl, rfl⟩, Nat.succ_ne_self _, Nat.ne_of_lt hlt, Nat.ne_of_gt (Nat.lt_succ_of_lt hlt)⟩, fun b hb => ?_, kq _ m1 P1 _ H1 l1 z1 wk q1⟩
  have hle : s1.heap.objs.size ≤ b := by
    rcases (by simpa using hb : b = s1.heap.objs.size + 1 ∨ b = s1.heap.objs.size) with z | z
    · rw [z]; exact Nat.le_succ _
    · rw [z]; exact Nat.le_refl _
  exact I1.fpOk hle (I1.hok.fresh hle)
section
variable {X : Cx} {W : WX} {a b c : Expr} {pos : Pos} {za zb zc' : ZTE}
theorem r_tcmp {op : CmpOp} {o : ZOp} (ho : OpR X (compareOp op) (RS X.K o)) (ha : PE X a (LE X.K W za)) (hb : PE X b (LE X.K W zb)) (hm : behindInMarks op b = false := by rfl) : PT X (.Compare a [op] [b] pos) (LT X.K W (tvl (zop o za zb))) := by
  refine pt_imp (pt_cmpR ho ha hb hm) fun σ H Q ⟨F, ρ, m, Pi, Qz, Ez, hz, he, h, k, kx⟩ => ?_
  refine ⟨F, ρ, m, Pi, _, Ez, hz, he, h, fun x m1 P1 v H1 l1 z1 r1 q1 => ⟨F, ρ, m1, P1, _, Ez, z1, he.mono l1, q1, fun y m2 P2 u H2 l2 z2 r2 q2 => ⟨x, y, F, m2, P2, _, z2, r1.mono l2, r2, q2, fun d m3 P3 v3 H3 l3 z3 r3 q3 => ?_⟩, kx.mono l1⟩, kx⟩
  cases r3 with
  | bl => exact ⟨_, rfl, k _ m3 P3 H3 ((l1.trans l2).trans l3) z3 q3⟩
  | _ => exact q3.elim
theorem r_tchn {op op' : CmpOp} {o o' : ZOp} (ho : OpR X (compareOp op) (RS X.K o)) (ho' : OpR X (compareOp op') (RS X.K o')) (ha : PE X a (LE X.K W za)) (hb : PE X b (LE X.K W zb)) (hc : PE X c (LE X.K W zc')) (hm : lastMarks [op, op'] [b, c] = false := by with_unfolding_all rfl) :
    PT X (.Compare a [op, op'] [b, c] pos) (LT X.K W (tvl (zchn o o' za zb zc'))) := by
  refine pt_imp (pt_chain ho ho' ha hb hc hm) fun σ H Q ⟨F, ρ, m, Pi, Qz, Ez, hz, he, h, k, kx⟩ => ?_
  refine ⟨F, ρ, m, Pi, _, Ez, hz, he, h, fun x m1 P1 v H1 l1 z1 r1 q1 => ⟨F, ρ, m1, P1, _, Ez, z1, he.mono l1, q1, fun y m2 P2 u H2 l2 z2 r2 q2 => ⟨x, y, F, m2, P2, _, z2, r1.mono l2, r2, q2, fun d m3 P3 v3 H3 l3 z3 r3 q3 => ?_⟩, kx.mono l1⟩, kx⟩
  cases r3 with
  | bl =>
    rename_i kb
    refine ⟨kb, rfl, ?_⟩
    cases kb with
    | true =>
      simp only [if_true] at q3 ⊢
      refine ⟨F, ρ, m3, P3, _, Ez, z3, (he.mono l1).mono (l2.trans l3), q3, fun w m4 P4 u4 H4 l4 z4 r4 q4 => ⟨y, w, F, m4, P4, _, z4, (r2.mono l3).mono l4, r4, q4, fun d m5 P5 v5 H5 l5 z5 r5 q5 => ?_⟩, kx.mono ((l1.trans l2).trans l3)⟩
      cases r5 with
      | bl => exact ⟨_, rfl, k _ m5 P5 H5 ((((l1.trans l2).trans l3).trans l4).trans l5) z5 q5⟩
      | _ => exact q5.elim
    | false =>
      simp only [Bool.false_eq_true, if_false] at q3 ⊢
      exact ⟨false, rfl, k _ m3 P3 H3 ((l1.trans l2).trans l3) z3 q3⟩
  | _ => exact q3.elim
end
/-- a list or a tuple is walked -/
def iseq (a : ZTE) : ZTI := fun ρ m Q E => a ρ m (fun x m1 => match x with
  | .fl xs => Q (wkL xs) m1
  | .tup xs => Q (wkL xs) m1
  | .ref p => match m1 p with
    | some (.lst xs) => Q ⟨xs.length, fun i => xs.getD i .non, fun m => m p = some (.lst xs)⟩ m1
    | _ => False
  | _ => False) E
def tSeqs (K : PySem.W.Frag) (tl : TE) : TI := fun σ H R => tl σ H fun x H1 => ∃ a, x = .ref a ∧ (((∃ xs, SqL K H1 a xs) ∧ R (Itl K a) H1) ∨ ((∃ xs, SqT K H1 a xs) ∧ R (Itt K a) H1))
theorem pi_seqs {X : Cx} {tg l : Expr} {tl : TE} (hl : PE X l tl) : PI X tg l (tSeqs X.K tl) := by
  refine ⟨fun pins s σ H R I h => thn (hl.run pins s σ H _ I h) fun v s1 hv => ?_⟩
  obtain ⟨x, H1, I1, r1, a, rfl, q1⟩ := hv
  obtain rfl : v = .ref a := r1
  have fresh : ∀ b ∈ [s1.heap.objs.size], FpOk X pins H1 b := fun b hb => by
    obtain rfl : b = s1.heap.objs.size := by simpa using hb
    exact I1.fpOk (Nat.le_refl _) (I1.hok.fresh (Nat.le_refl _))
  rcases q1 with ⟨⟨xs, hq⟩, q⟩ | ⟨⟨xs, hq⟩, q⟩
  · obtain ⟨its, _, pl, _⟩ := I1.list hq
    exact wpAny_pyIter_list pl.isList ⟨_, [s1.heap.objs.size], _, _, H1, rfl, I1.kept (t' := s1.toks) fun b o e => Heap.get?_push_of_some _ e, turn_list a _, ⟨_, Heap.get?_push_size _ rfl, rfl, rfl⟩, fresh, q⟩
  · obtain ⟨its, _, pt, _⟩ := I1.tuple hq
    exact wpAny_pyIter_tuple (show s1.heap.IsTuple a its.toArray from pt) ⟨_, [s1.heap.objs.size], _, _, H1, rfl, I1.kept (t' := s1.toks) fun b o e => Heap.get?_push_of_some _ e, turn_tuple a _, ⟨_, Heap.get?_push_size _ rfl, rfl, rfl⟩, fresh, q⟩
theorem r_iseq {X : Cx} {W : WX} {tg e : Expr} {ze : ZTE} (he : PE X e (LE X.K W ze)) : PI X tg e (LI X.K W (iseq ze)) := by
  refine pi_imp (pi_seqs he) fun σ H Q ⟨F, ρ, m, Pi, Qz, Ez, hz, he, h, k, kx⟩ => ?_
  refine ⟨F, ρ, m, Pi, _, Ez, hz, he, h, fun x m1 P1 v H1 l1 z1 r1 q1 => ?_, kx⟩
  cases r1 with
  | fl hs rs => exact ⟨_, rfl, .inl ⟨⟨_, z1.sub.sql hs⟩, k _ m1 P1 _ H1 l1 z1 (wk_list (vs := []) fun F m P' H l z _ => ⟨_, z.sub.sql (l.sql hs), rs.mono l⟩) q1⟩⟩
  | ref =>
    rename_i a
    dsimp only at q1
    cases q : m1 a with
    | none => rw [q] at q1; exact q1.elim
    | some o =>
      rw [q] at q1
      cases o with
      | lst xs =>
        obtain ⟨us, e1, rs⟩ := z1.ok a _ q
        refine ⟨_, rfl, .inl ⟨⟨_, .inl (.inl e1)⟩, k _ m1 P1 _ H1 l1 z1 (wk_list (vs := []) fun F m P' H l z hi => ?_) q1⟩⟩
        obtain ⟨ws, e2, rs2⟩ := z.ok a _ hi
        exact ⟨ws, .inl (.inl e2), rs2⟩
      | _ => exact q1.elim
  | tup hs rs =>
    rename_i a vs xs
    refine ⟨_, rfl, .inr ⟨⟨_, z1.sub.sqt hs⟩, k _ m1 P1 _ H1 l1 z1 (fun F i m P' H l z _ => ⟨fun h => ?_, fun h => ⟨vs, z.sub.sqt (l.sqt hs), by rw [← rs.length]; exact Nat.le_of_eq h.symm⟩⟩) q1⟩⟩
    obtain ⟨v, e, r⟩ := reps_getD (rs.mono l) h
    refine ⟨⟨vs, v, z.sub.sqt (l.sqt hs), e⟩, fun x H' hy => ?_⟩
    obtain ⟨rfl, f⟩ := hy
    have e2 := f vs (z.sub.sqt (l.sqt hs))
    rw [e] at e2
    cases e2
    exact ⟨P', PLe.refl, z, r⟩
  | _ => exact q1.elim
end Zed
end
section
set_option maxHeartbeats 4000000
/-! Zed9: a def's promise made a name's. -/
namespace Zed
open PySem PySem.Spec PyProof.Rows L2
/-- contracts with defaults, with words -/
def defC (c0 : ZSp) (dd : List D) : ZSp := fun ds m Q E => c0 (ds ++ dd) m Q E
def kwC (c0 : ZSp) (n k : Nat) : List D → ZSp := fun xs zs m Q E => xs.length = n ∧ zs.length = k ∧ c0 (xs ++ zs) m Q E
/-- the law's own call -/
theorem sp_start {K : PySem.W.Frag} {H : Hp} {a : Addr} {ns : List Int} {c : ZSp} (hS : SqL K H a (ns.map V.int)) (h : ∀ m, c [.fl (ns.map .int)] m (fun d _ => d = .bl true) (fun _ _ => False)) :
    SpOf K c [.ref a] H (fun v _ => v = .bl true) fun _ _ _ => False := by
  refine ⟨[.fl (ns.map .int)], fun _ => none, fun _ => none, H, fun d _ => d = .bl true, fun _ _ => False, ⟨PLe.refl, (fun b o e => by cases e), (fun b e => absurd rfl e), (fun b o e => by cases e), (fun b e => absurd rfl e), (fun b o e => by cases e)⟩, .cons (.fl hS (Reps.ints ns)) .nil, h _, ?_, ?_⟩
  · intro d m Pi' v H' l z r e
    subst e
    cases r
    rfl
  · intro x m P' c dd H' l z r e
    exact e
theorem cx_no {P : Program} {w : World} (H : Hp) (s : Shared) (e : Value) (s' : Shared) (h : L2.CX P w [] H s (fun _ _ _ => False) e s') : False := by
  obtain ⟨_, _, _, _, _, _, _, _, _, _, _, _, z⟩ := h
  exact z.elim
/-- the end: facts of a part of the heap, the law's contract -/
theorem walk_z {L : PySem.W.OpenLaw} {r : Nat} {q : Program} {ls : List Str} {XP : (Str → Option Value) → Heap → Prop} {YP : World → Heap → Prop} {d : DefRec} {par : Str} {c : ZSp}
    (hn : L.most = some 63) (hdf : d.params.defaults = []) (hr : Room r callerA) (hc : ∀ (ns : List Int) m, ns.length ≤ 63 → c [.fl (ns.map .int)] m (fun d _ => d = .bl true) (fun _ _ => False))
    (F : ∀ (w : World) (mg : Str → Option Value) (fa : Addr) (h : Heap), YP w h → h.Ns mainGlobals mg → mg d.name = some (.ref fa) → ∃ (K : PySem.W.Frag) (fd : FuncData), K.In h ∧ (∀ (s : Shared) (u : Value), BindsTo s fd ⟨[u], []⟩ [(par, u)]) ∧
      ∀ base : Heap, K.In base → base.Ns mainGlobals mg → FnOk L.prog w K mg base (L2.CX L.prog w) r fa fd [par] (SpOf K c)) :
    PySem.W.WalkO q ls XP YP L.row.toRowW d [] (fun f vs => PySem.call f vs) := by
  refine Att.attach_call hn hdf fun w t0 t1 mg bi fa ob pm cd doc a vs ns G Y ho hd hcd hm hobj hi hl hg => ?_
  obtain ⟨K, fd, X, hb, hF⟩ := F w mg fa _ Y G.T.g hm
  exact law_call X G.T.g G.T.b G.T.builtins G.T.nolimit hg hobj hi (Nat.le_trans hl (by decide)) hr hF hb (fun H _ hS => sp_start hS fun m => hc ns m hl) fun H e s2 z => cx_no H t1 e s2 z
section
variable {P : Program} {w : World} {K : PySem.W.Frag} {mg : Str → Option Value} {base : Heap} {k n : Nat} {x qual : Str} {args : Arguments} {body : List Stmt} {scope : Scope} {f : Addr} {fd : FuncData} {ps : List Str} {c c0 : ZSp}
theorem g_mk (F : FunD K x qual args body scope [] [] f fd) (gx : mg x = some (.ref f)) (ok : FnOk P w K mg base (L2.CX P w) k f fd ps (SpOf K c))
    (h : ∀ (kV doc pm : Value) (an : Option Addr) (cdv ct : Value) (us : List Value), us.length = ps.length → bindArgs (PySem.W.fnOf x qual args body scope .none kV doc pm an cdv ct) ⟨us, []⟩ = pure (ps.zip us)) : GDef P w K mg base k x c :=
  ⟨f, fd, ps, [], [], [], c, gx, F.kp, ok, F.bindsN h, .nil, .nil, fun xs m Q E h => by rw [List.append_nil]; exact h⟩
/-- keyword-only parameters, by their defaults -/
theorem g_mkD {kws : List (Str × V)} {dd : List D} (F : FunD K x qual args body scope [] kws f fd) (gx : mg x = some (.ref f)) (ok : FnOk P w K mg base (L2.CX P w) k f fd ps (SpOf K c0)) (n : Nat) (hk : kws ≠ []) (hn : n + kws.length = ps.length) (hd : Reps K (fun _ => none) dd (kws.map (·.2)))
    (h : ∀ (D : Addr) (doc pm : Value) (an : Option Addr) (cdv ct : Value) (us ks : List Value), us.length = n → ks.length = kws.length →
      KwChain D ((kws.map (·.1)).zip ks) (bindArgs (PySem.W.fnOf x qual args body scope .none (.ref D) doc pm an cdv ct) ⟨us, []⟩) (ps.zip (us ++ ks))) : GDef P w K mg base k x (defC c0 dd) := by
  obtain ⟨ds, hv, hb⟩ := F.binds0 n hk hn h
  exact ⟨f, fd, ps, _, ds, dd, c0, gx, F.kp, ok, hb, hv, hd, fun xs m Q E h => h⟩
/-- keyword-only parameters, all told -/
theorem g_mkK {kws : List (Str × V)} (F : FunD K x qual args body scope [] kws f fd) (gx : mg x = some (.ref f)) (ok : FnOk P w K mg base (L2.CX P w) k f fd ps (SpOf K c0)) (n : Nat) (ks : List Str) (hk : kws ≠ [])
    (h : ∀ (D : Addr) (doc pm : Value) (an : Option Addr) (cdv ct : Value) (us ws : List Value), us.length = n → ws.length = ks.length →
      bindArgs (PySem.W.fnOf x qual args body scope .none (.ref D) doc pm an cdv ct) ⟨us, ks.zip ws⟩ = pure (ps.zip (us ++ ws))) : GDefK P w K mg base k x n ks (kwC c0 n ks.length) := by
  obtain ⟨mv, hb⟩ := F.kbinds0 n ks [] (fun us _ ws => us ++ ws) hk (fun q hq => by cases hq) (fun a _ c => a.append c) fun D doc pm an cdv ct us mv ws h1 _ h2 => h D doc pm an cdv ct us ws h1 h2
  exact ⟨f, fd, ps, _, _, c0, gx, F.kp, ok, hb, fun Pi xs zs vs ws m Q E r1 r2 h => ⟨h.1, h.2.1, xs ++ zs, r1.append r2, h.2.2⟩⟩
end
end Zed
end
section
set_option maxHeartbeats 4000000
/-! Zed10: a starred target. -/
namespace Zed
open PySem PySem.Spec PyProof.Rows L2
/-- *a, b, .. = a list: the i-th of n targets takes what is left -/
def gStarV (K : PySem.W.Frag) (n i : Nat) (t : TGs) : TG := fun v σ H Q => ∃ a xs, v = .ref a ∧ SqL K H a xs ∧ i < n ∧ n ≤ xs.length + 1 ∧ xs.length ≤ 16384 ∧
  ∀ p, H p = none → t (xs.take i ++ [.ref p] ++ (xs.drop i).drop (xs.length + 1 - n)) σ (upd H p (.lst ((xs.drop i).take (xs.length + 1 - n)))) Q
theorem vrel_take {xs : List V} {us : List Value} (k : Nat) : Vals xs us → Vals (xs.take k) (us.take k) := fun r => by
  induction r generalizing k with
  | nil => cases k <;> exact .nil
  | cons a b ih => cases k with
    | zero => exact .nil
    | succ k => exact .cons a (ih k)
theorem vrel_drop {xs : List V} {us : List Value} (k : Nat) : Vals xs us → Vals (xs.drop k) (us.drop k) := fun r => by
  induction r generalizing k with
  | nil => cases k <;> exact .nil
  | cons a b ih => cases k with
    | zero => exact .cons a b
    | succ k => exact ih k
theorem vrel_app {xs ys : List V} {us ws : List Value} : Vals xs us → Vals ys ws → Vals (xs ++ ys) (us ++ ws)
  | .nil, s => s
  | .cons a b, s => .cons a (vrel_app b s)
theorem pg_starV {X : Cx} {es : List Expr} {k : Nat} {pos : Pos} {t : TGs} {n i : Nat} (hc : X.calm = true) (h : PGs X es t)
    (hn : (assignEach es X.env).length = n) (hst : (assignEach es X.env).findIdx? (·.1) = some i) : PG X (.Tuple es k pos) (gStarV X.K n i t) := by
  refine ⟨fun pins s σ H v u Q I r hw => ?_⟩
  obtain ⟨l, xs, rfl, hq, hi, hnl, h16, hw⟩ := hw
  cases r
  obtain ⟨its, rv, hp, hz⟩ := I.list hq
  have hl : s.heap.IsList l its.toArray := hp.isList
  have hsz : its.toArray.size = xs.length := by rw [List.size_toArray]; exact rv.length.symm
  have hlt : l ≠ s.heap.objs.size := by obtain ⟨o, ho, _⟩ := hl; exact Nat.ne_of_lt (Heap.lt_size ho)
  have hll : l < s.heap.objs.size := by obtain ⟨o, ho, _⟩ := hl; exact Heap.lt_size ho
  have hh := I.ok.hd hc
  rw [PyProof.Rows.assign_Tuple]
  refine wpAny_bind (wpAny_standAt ?_)
  unfold unpack
  rw [hn, hst]
  refine wpAny_bind (wpAny_holding ?_)
  unfold unpackItems
  refine wpAny_bind ?_
  unfold notIterableAtAll
  refine wpAny_bind (wpAny_specialOf hl.typeIs slot_list_iter.lookup ?_)
  refine wpAny_pure ?_
  simp only [Bool.false_eq_true, if_false]
  refine wpAny_bind (wpAny_holding (wpAny_pyIter_list hl ?_))
  refine wpAny_bind (wpAny_holding (PySem.W.kun_draw hlt i 0 _ _ ⟨_, Heap.get?_push_size _ rfl, rfl, rfl⟩ (hl.push _) (by omega) fun h1 hit1 hs1 => ?_))
  have hl1 : h1.IsList l its.toArray := (hl.push _).extBut hs1.extBut hlt
  rw [Nat.zero_add] at hit1
  have hit1' := hit1
  obtain ⟨oi, hoi, _⟩ := hit1'
  have hl1' := hl1
  obtain ⟨ol, hol, _⟩ := hl1'
  rw [List.drop_zero]
  have hfl : (its.take i).length = i := by rw [List.length_take, ← rv.length]; omega
  rw [if_neg (show ¬ ((its.take i).length < i) by rw [hfl]; omega)]
  refine wpAny_bind (wpAny_holding (PySem.W.kun_collect (s := { s with heap := h1 }) (T := "list_iterator") (.inr (.inr (.inl rfl))) (Walks.list (A := X.A.in1) hh s.heap.objs.size l hlt its.toArray) (fun j u st => st.1.typeIs) (k := i) (by omega) ⟨hit1, hl1⟩
    (Heap.lt_size hoi) (Heap.lt_size hol) (fun h2 tk hk => ?_) (by rw [sizeLine_eq]; omega)))
  have hrl : (its.drop i).length = xs.length - i := by rw [List.length_drop, ← rv.length]
  have hmid : (its.drop i).length - (n - 1 - i) = xs.length + 1 - n := by rw [hrl]; omega
  show wpAny _ _ (if (its.drop i).length < n - 1 - i then _ else _) _ _ _
  rw [if_neg (by rw [hrl]; omega)]
  show wpAny _ _ (newList ((its.drop i).take ((its.drop i).length - (n - 1 - i))) >>= fun d => pure (its.take i ++ [d] ++ (its.drop i).drop ((its.drop i).length - (n - 1 - i)))) _ _ _
  rw [hmid]
  have he : ∀ b o, s.heap.get? b = some o → h2.get? b = some o := fun b o e => hk b o (Nat.ne_of_lt (Heap.lt_size e)) (hs1.extBut b o (Nat.ne_of_lt (Heap.lt_size e)) (Heap.get?_push_of_some _ e))
  have I1 : Inv X pins σ H { s with heap := h2, toks := tk } := I.kept he
  have hlen : ((its.drop i).take (xs.length + 1 - n)).length ≤ sizeLine := by rw [List.length_take, hrl, sizeLine_eq]; omega
  refine wpAny_bind (wpAny_newList ?_ hlen)
  have rm : Vals ((xs.drop i).take (xs.length + 1 - n)) ((its.drop i).take (xs.length + 1 - n)) := vrel_take _ (vrel_drop _ rv)
  have hf : H h2.objs.size = none := I1.hok.fresh (Nat.le_refl _)
  have I2 : Inv X pins σ (upd H h2.objs.size (.lst ((xs.drop i).take (xs.length + 1 - n)))) { s with heap := h2.push (seqObj "list" ((its.drop i).take (xs.length + 1 - n)).toArray 0), toks := tk } :=
    I1.laid (t' := tk) (fun b u e => Heap.get?_push_of_some _ e) (Nat.le_refl _) ⟨by rw [rm.length]; exact hlen, _, 0, rm, Heap.get?_push_size _ rfl⟩
  refine wpAny_pure ?_
  exact h.run pins _ σ _ _ _ Q I2 (vrel_app (vrel_app (vrel_take _ rv) (.cons (show RelV (.ref h2.objs.size) (Value.ref h2.objs.size) from rfl) .nil)) (vrel_drop _ (vrel_drop _ rv))) (hw _ hf)
theorem pg_or {X : Cx} {e : Expr} {t1 t2 : TG} (h1 : PG X e t1) (h2 : PG X e t2) : PG X e (fun v σ H Q => t1 v σ H Q ∨ t2 v σ H Q) :=
  ⟨fun pins s σ H v u Q I r hw => hw.elim (h1.run pins s σ H v u Q I r) (h2.run pins s σ H v u Q I r)⟩
/-- the same of data -/
def gstar (n i : Nat) (gs : ZTGs) : ZTG := fun d ρ m Q E => match seqD m d with
  | some xs => i < n ∧ n ≤ xs.length + 1 ∧ xs.length ≤ 16384 ∧ gs (xs.take i ++ [.fl ((xs.drop i).take (xs.length + 1 - n))] ++ (xs.drop i).drop (xs.length + 1 - n)) ρ m Q E
  | none => False
/-- a, b = a tuple or a list -/
def gtupA (n : Nat) (gs : ZTGs) : ZTG := fun d ρ m Q E => match d with
  | .tup xs => xs.length = n ∧ gs xs ρ m Q E
  | d => match seqD m d with
    | some xs => xs.length = n ∧ gs xs ρ m Q E
    | none => False
section
variable {X : Cx} {W : WX} {pos : Pos} {es : List Expr} {vs : List Nat} {gs : ZTGs}
theorem r_gstar {k n i : Nat} (hc : X.calm = true) (h : PGs X es (LGs X.K W vs gs)) (hn : (assignEach es X.env).length = n := by rfl) (hst : (assignEach es X.env).findIdx? (·.1) = some i := by rfl) : PG X (.Tuple es k pos) (LG X.K W vs (gstar n i gs)) := by
  refine pg_imp (pg_starV hc h hn hst) fun v σ H Q ⟨d, F, ρ, m, Pi, Qz, Ez, hz, he, hr, h, k, kx⟩ => ?_
  unfold gstar at h
  cases q : seqD m d with
  | none => rw [q] at h; exact h.elim
  | some xs =>
    rw [q] at h
    obtain ⟨h1, h2, h3, h4⟩ := h
    obtain ⟨a, us, rfl, hs, rs⟩ := seq_of hz hr q
    have el := rs.length
    refine ⟨a, us, rfl, hs, h1, by omega, by omega, fun p np => ?_⟩
    obtain ⟨z2, l2⟩ := hz.newPi np (.lst ((us.drop i).take (us.length + 1 - n)))
    rw [el] at h4
    exact ⟨_, F, ρ, m, _, Qz, Ez, z2, he.mono l2, (((rs.take i).mono l2).append (.cons (.fl (.inl (.inl upd_same)) (((rs.drop i).take _).mono l2)) .nil)).append (((rs.drop i).drop _).mono l2), h4, k.mono l2, fun σ' hw => (kx σ' hw).mono l2⟩
theorem r_gtupA {k n : Nat} (hc : X.calm = true) (h : PGs X es (LGs X.K W vs gs)) (hn : (assignEach es X.env).length = n := by rfl) (hst : (assignEach es X.env).findIdx? (·.1) = none := by rfl) : PG X (.Tuple es k pos) (LG X.K W vs (gtupA n gs)) := by
  refine pg_imp (pg_or (pg_tup hc h hn hst) (pg_lst hc h hn hst)) fun v σ H Q ⟨d, F, ρ, m, Pi, Qz, Ez, hz, he, hr, h, k, kx⟩ => ?_
  have hl : ∀ xs, seqD m d = some xs → xs.length = n ∧ gs xs ρ m Qz Ez → gLst X.K n (LGs X.K W vs gs) v σ H Q := fun xs q g => by
    obtain ⟨a, us, rfl, hs, rs⟩ := seq_of hz hr q
    exact ⟨_, _, rfl, hs, by rw [← rs.length]; exact g.1, _, F, ρ, m, Pi, Qz, Ez, hz, he, rs, g.2, k, kx⟩
  cases d with
  | tup xs =>
    cases hr with
    | tup hs rs => exact .inl ⟨_, _, rfl, hz.sub.sqt hs, by rw [← rs.length]; exact h.1, _, F, ρ, m, Pi, Qz, Ez, hz, he, rs, h.2, k, kx⟩
  | _ =>
    simp only [gtupA] at h
    split at h
    · rename_i xs q
      exact .inr (hl xs q h)
    · exact h.elim
end
theorem pgs_star {X : Cx} {e : Expr} {p : Pos} {es : List Expr} {t : TGs} (h : PGs X (e :: es) t) (hs : (assignEach (.Starred e p :: es) X.env).map (·.2) = (assignEach (e :: es) X.env).map (·.2) := by rfl) : PGs X (.Starred e p :: es) t :=
  ⟨fun pins s σ H vs us Q I r q => by rw [hs]; exact h.run pins s σ H vs us Q I r q⟩
/-! ### o[i] op= v, of a list -/
theorem get_list {X : Cx} : PGet X (rIxL X.K) := by
  intro pins s σ H x y v u Q I rx ry h
  obtain ⟨p, xs, i, z, rfl, rfl, hq, he, q⟩ := h
  cases rx
  obtain ⟨t, rfl⟩ := ry
  obtain ⟨its, r, pl, hz⟩ := I.list hq
  obtain ⟨j, h1, h2, h3, h4, h5⟩ := atI_get he
  obtain ⟨w, ew, rw'⟩ := r.get h2
  have hl := r.length
  have hn := line63
  have fin : EP X pins σ Q w s := ⟨z, H, I, rw', q⟩
  by_cases h0 : 0 ≤ i
  · have hj : i.toNat = j := by
      rw [seqIndex_of h0 h5] at h1
      exact Option.some.inj h1
    exact wpAny_getItem_list pl.isList h0 (by omega) (by rw [hj]; simpa using ew) fin
  · have hj : (i + (its.toArray.size : Int)).toNat = j := by
      rw [seqIndex_neg (by omega) h4] at h1
      rw [List.size_toArray, ← hl]
      exact Option.some.inj h1
    exact wpAny_getItem_list_neg pl.isList (by omega) (by rw [List.size_toArray] <;> omega) (by omega) (by rw [hj]; simpa using ew) fin
def oGetL (o i : D) (m : Mu) (Q : QE) : Prop := match o, i with
  | .ref a, .int k => match m a with
    | some (.lst xs) => match atI xs k with
      | some d => Q d m
      | none => False
    | _ => False
  | _, _ => False
def saugS (a b e : ZTE) (o : ZOp) : ZTS := fun Dz ρ m => a ρ m (fun x m1 => b ρ m1 (fun i m2 => oGetL x i m2 (fun y m3 => e ρ m3 (fun v m4 => o y v m4 (fun z m5 => oSet x i z m5 (fun m6 => Dz.nx ρ m6)) ) (xat Dz ρ))) (xat Dz ρ)) (xat Dz ρ)
section
variable {X : Cx} {W : WX} {pos p : Pos} {a b e : Expr} {za zb ze : ZTE}
theorem get_okL : PGet X (fun x y H Q => ∃ d i F m Pi Qz, Zm X.K F m Pi H ∧ Rep X.K Pi d x ∧ Rep X.K Pi i y ∧ oGetL d i m Qz ∧ ContE X.K F Pi Qz Q) := by
  intro pins s σ H x y v u Q I rx ry ⟨d, i, F, m, Pi, Qz, z, r1, r2, h, k⟩
  unfold oGetL at h
  split at h
  · rename_i a j
    cases r1
    cases r2
    split at h
    · rename_i xs q
      obtain ⟨vs, e1, rs⟩ := z.ok a _ q
      split at h
      · rename_i d q2
        obtain ⟨w, e2, r⟩ := reps_at rs q2
        exact get_list pins s σ H _ _ v u Q I rx ry ⟨a, vs, j, w, rfl, rfl, .inl (.inl e1), e2, fin_same k z r h⟩
      · exact h.elim
    · exact h.elim
  · exact h.elim
theorem r_augS {op : Operator} {o : ZOp} (ho : OpR X (inplaceOp op) (RS X.K o)) (ha : PE X a (LE X.K W za)) (hb : PE X b (LE X.K W zb)) (he : PE X e (LE X.K W ze))
    (hs : ∀ ov iv new, augStore b ov iv new = (do holding [new, ov, iv] (setItem ov iv new); release [new, ov, iv] []; pure .next) := by intros; rfl) : PS X (.AugAssign (.Subscript a b p) op e pos) (LS X.K W (saugS za zb ze o)) := by
  refine ps_imp (ps_augS ha hb get_okL he ho set_ok hs) fun Dv σ H ⟨F, ρ, m, Pi, Dz, hz, hE, h, kn, kr, kx⟩ => ?_
  refine ⟨F, ρ, m, Pi, _, _, hz, hE, h, fun x m1 P1 v1 H1 l1 z1 r1 q1 => ⟨F, ρ, m1, P1, _, _, z1, hE.mono l1, q1, fun y m2 P2 v2 H2 l2 z2 r2 q2 => ?_, (kx.at' hE).mono l1⟩, kx.at' hE⟩
  refine ⟨x, y, F, m2, P2, _, z2, r1.mono l2, r2, q2, fun w m3 P3 v3 H3 l3 z3 r3 q3 => ?_⟩
  refine ⟨F, ρ, m3, P3, _, _, z3, (((hE.mono l1).mono l2).mono l3), q3, fun v m4 P4 v4 H4 l4 z4 r4 q4 => ?_, (((kx.at' hE).mono l1).mono l2).mono l3⟩
  refine ⟨w, v, F, m4, P4, _, z4, r3.mono l4, r4, q4, fun n m5 P5 v5 H5 l5 z5 r5 q5 => ?_⟩
  exact ⟨x, y, n, F, m5, P5, _, z5, (((r1.mono l2).mono l3).mono l4).mono l5, ((r2.mono l3).mono l4).mono l5, r5, q5, fun m6 P6 H6 l6 z6 q6 => kn _ m6 P6 _ H6 (((((l1.trans l2).trans l3).trans l4).trans l5).trans l6) z6 ((((((hE.mono l1).mono l2).mono l3).mono l4).mono l5).mono l6) q6⟩
end
theorem Zm.giveMu {K : PySem.W.Frag} {F : Hp} {m : Mu} {Pi H : Hp} {p : Addr} {vs : List V} {acc : List D} (z : Zm K (upd F p (.lst vs)) m Pi H) (hf : F p = none) (r : Reps K Pi acc vs) : Zm K F (updM m p (.lst acc)) Pi H ∧ m p = none := by
  have hp : (upd F p (.lst vs)) p = some (.lst vs) := upd_same
  have hm : m p = none := by
    cases q : m p with
    | none => rfl
    | some w =>
      have := z.fdis p (by rw [q]; exact fun e => by cases e)
      rw [hp] at this
      cases this
  refine ⟨⟨z.sub, fun b u e => ?_, fun b e => ?_, fun b u e => ?_, fun b e => ?_, fun b u e => ?_⟩, hm⟩
  · have hb : b ≠ p := fun q => by subst q; rw [hf] at e; cases e
    exact z.frm b u (by rw [upd_ne hb]; exact e)
  · by_cases hb : b = p
    · rw [hb]; exact hf
    · rw [updM_ne hb] at e
      have := z.fdis b e
      rwa [upd_ne hb] at this
  · have hb : b ≠ p := fun q => by subst q; rw [hf] at e; cases e
    exact z.fpd b u (by rw [upd_ne hb]; exact e)
  · by_cases hb : b = p
    · rw [hb]; exact z.fpd p _ hp
    · rw [updM_ne hb] at e
      exact z.dis b e
  · by_cases hb : b = p
    · subst hb
      rw [updM_same] at e
      cases e
      exact ⟨vs, z.frm _ _ hp, r⟩
    · rw [updM_ne hb] at e
      exact z.ok b u e
/-- [..] by a comprehension, a list that may change -/
def zlcM (it : ZTI) (g : ZTG) (t : ZTT) (e : ZTE) (vs : List Nat) : ZTE := fun ρ m Q E => it ρ m (fun wk m1 => ∃ I : Nat → List D → Mu → Prop, I 0 [] m1 ∧ ∀ i acc m, I i acc m → wk.inv m ∧
  (i < wk.n → g (wk.item i) (wipeZ ρ vs) m (fun ρ2 m2 => t ρ2 m2 (fun c m3 => if c = true then e ρ2 m3 (fun y m4 => acc.length < sizeLine ∧ I (i + 1) (acc ++ [y]) m4) noX else I (i + 1) acc m3) noX) noX) ∧ (i = wk.n → ∀ p, m p = none → Q (.ref p) (updM m p (.lst acc)))) E
section
variable {X : Cx} {W : WX} {pos p p2 spos : Pos} {a b c e elt tg iter : Expr} {ifs es : List Expr} {za zb ze : ZTE} {zg : ZTG} {zt : ZTT} {zi : ZTI} {scope : Scope} {own : List (Str × Nat)} {vs : List Nat}
theorem lc_impM {zi : ZTI} {σ : St} {H : Hp} {Q : VK} (h : LE X.K W (zlcM zi zg zt ze vs) σ H Q) : tLc (LI X.K W zi) (LG X.K WF vs zg) (LT X.K WF zt) (LE X.K WF ze) vs σ H Q := by
  obtain ⟨F, ρ, m, Pi, Qz, Ez, hz, he, h, k, kx⟩ := h
  refine ⟨F, ρ, m, Pi, _, Ez, hz, he, h, fun wk m1 P1 J H1 l1 z1 w1 ⟨I, i0, turn⟩ Da hD => ?_, kx⟩
  have fD : F Da = none := z1.ffree hD
  have z1' : Zm X.K (upd F Da (.lst [])) m1 P1 (upd H1 Da (.lst [])) := by
    refine Zm.frame (o := .lst []) (F := F) ?_ (z1.free hD).1 (z1.free hD).2 upd_same
    refine ⟨fun b o e => ?_, fun b o e => ?_, z1.fdis, z1.fpd, z1.dis, fun b o e => ?_⟩
    · rw [upd_ne (ne_of_none (z1.sub b o e) hD)]; exact z1.sub b o e
    · rw [upd_ne (ne_of_none (z1.frm b o e) hD)]; exact z1.frm b o e
    · have hb : b ≠ Da := fun q => by subst q; rw [(z1.free hD).1] at e; cases e
      exact (z1.ok b o e).heap (upd_ne hb)
  refine ⟨fun i mm H' => i + mm = wk.n ∧ ∃ acc vs' m' P', PLe P1 P' ∧ Zm X.K (upd F Da (.lst vs')) m' P' H' ∧ Reps X.K P' acc vs' ∧ I i acc m', ⟨wk.n, by omega, [], [], m1, P1, PLe.refl, z1', .nil, i0⟩, ?_⟩
  rintro i mm H2 ⟨em, acc, vs', m2, P2, l2, z2, ra, i2⟩
  obtain ⟨hinv, hgo, hend⟩ := turn i acc m2 i2
  obtain ⟨g1, g2⟩ := w1 _ i m2 P2 H2 l2 z2 hinv
  by_cases hi : i < wk.n
  · obtain ⟨g3, g4⟩ := g1 hi
    refine .inr ⟨g3, fun H' => ∃ acc vs' m' P', PLe P1 P' ∧ Zm X.K (upd F Da (.lst vs')) m' P' H' ∧ Reps X.K P' acc vs' ∧ I (i + 1) acc m', ?_, fun x H3 hy => ?_⟩
    · rintro H' q
      exact ⟨mm - 1, by omega, by omega, q⟩
    · obtain ⟨P3, l3, z3, r3⟩ := g4 x H3 hy
      have e3 : EnvR X.K P3 (wipeZ ρ vs) (L2.wipe σ vs) := ((he.mono l1).mono (l2.trans l3)).wipe vs
      refine ⟨_, upd F Da (.lst vs'), wipeZ ρ vs, m2, P3, _, _, z3, e3, r3, hgo hi, fun ρ4 m4 P4 σ4 H4 l4 z4 e4 w4 q4 => ⟨?_, ?_⟩, fun σ' _ x m4 P4 c dd H4 _ _ _ q => q.elim⟩
      · rw [w4]
        have idem : ∀ (ws us : List Nat) (τ : St), (∀ w ∈ ws, w ∈ us) → L2.wipe (L2.wipe τ us) ws = L2.wipe τ us := by
          intro ws
          induction ws with
          | nil => intro us τ _; rfl
          | cons w ws ih =>
            intro us τ hs
            show (L2.wipe (L2.wipe τ us) ws).set w none = _
            rw [ih us τ fun q hq => hs q (List.mem_cons_of_mem _ hq)]
            exact wipe_none us τ (hs w List.mem_cons_self)
        exact idem vs vs σ fun _ h => h
      · refine ⟨upd F Da (.lst vs'), ρ4, m4, P4, _, _, z4, e4, q4, fun c m5 P5 H5 l5 z5 q5 => ?_, fun x m4 P4 c dd H4 _ _ _ q => q.elim⟩
        cases c with
        | true =>
          refine ⟨upd F Da (.lst vs'), ρ4, m5, P5, _, _, z5, e4.mono l5, q5, fun y m6 P6 v6 H6 l6 z6 r6 q6 => ?_, fun x m4 P4 c dd H4 _ _ _ q => q.elim⟩
          have l26 : PLe P2 P6 := ((l3.trans l4).trans l5).trans l6
          refine ⟨vs', z6.frm Da _ upd_same, by rw [← ra.length]; exact q6.1, acc ++ [y], vs' ++ [v6], m6, P6, l2.trans l26, z6.own, (ra.mono l26).append (.cons r6 .nil), q6.2⟩
        | false =>
          have l25 : PLe P2 P5 := (l3.trans l4).trans l5
          exact ⟨acc, vs', m5, P5, l2.trans l25, z5, ra.mono l25, q5⟩
  · have e : i = wk.n := by omega
    obtain ⟨z3, np⟩ := z2.giveMu fD ra
    exact .inl ⟨g2 e, k _ _ _ _ H2 (l1.trans l2) z3 .ref (hend e Da np)⟩
theorem r_lcM (hc : X.calm = true) (hN : X.N.Nodup) (own : List (Str × Nat)) (ok : blkC X.N X.env.scope scope own = true) (hi : PI X tg iter (LI X.K W zi))
    (hg : ∀ (s : Shared) (H : Hp) (C : Addr) (cl : List (Str × Addr)) (fp : List Addr), PG (X.blk s H scope (compEnvC scope cl C X.env) fp) tg (LG X.K WF (own.map (·.2)) zg))
    (ht : ∀ (s : Shared) (H : Hp) (C : Addr) (cl : List (Str × Addr)) (fp : List Addr), PTs (X.blk s H scope (compEnvC scope cl C X.env) fp) ifs (LT X.K WF zt))
    (he : ∀ (s : Shared) (H : Hp) (C : Addr) (cl : List (Str × Addr)) (fp : List Addr), PE (X.blk s H scope (compEnvC scope cl C X.env) fp) elt (LE X.K WF ze)) (hs : ∀ x, foldedSetIterable iter X.env x = pure x := by intro _; rfl) :
    PE X (.ListComp elt [⟨tg, iter, ifs, 0⟩] scope pos) (LE X.K W (zlcM zi zg zt ze (own.map (·.2)))) :=
  pe_imp (pe_lc hc hN hi (blkOk_by ok) hg ht he hs) fun _ _ _ h => lc_impM h
theorem r_setLcM {y : Str} {py : Pos} (i : Nat) (hc : X.calm = true) (hN : X.N.Nodup) (own : List (Str × Nat)) (ok : blkC X.N X.env.scope scope own = true) (hi : PI X tg iter (LI X.K W zi))
    (hg : ∀ (s : Shared) (H : Hp) (C : Addr) (cl : List (Str × Addr)) (fp : List Addr), PG (X.blk s H scope (compEnvC scope cl C X.env) fp) tg (LG X.K WF (own.map (·.2)) zg))
    (ht : ∀ (s : Shared) (H : Hp) (C : Addr) (cl : List (Str × Addr)) (fp : List Addr), PTs (X.blk s H scope (compEnvC scope cl C X.env) fp) ifs (LT X.K WF zt))
    (he : ∀ (s : Shared) (H : Hp) (C : Addr) (cl : List (Str × Addr)) (fp : List Addr), PE (X.blk s H scope (compEnvC scope cl C X.env) fp) elt (LE X.K WF ze))
    (ha : (scope.names.any fun (n, k) => n == y && (k == .local || k == .cell)) = false) (hy : X.N[i]? = some y := by rfl) (hyl : X.env.scope.names.lookup y = some .local := by rfl) (hk : X.env.scope.kind = .function := by rfl) (hl : (py.line == pos.line) = true := by rfl) (hs : ∀ x, foldedSetIterable iter X.env x = pure x := by intro _; rfl) :
    PS X (.Assign [.Name y py] (.ListComp elt [⟨tg, iter, ifs, 0⟩] scope pos) spos) (LS X.K W (sset (zlcM zi zg zt ze (own.map (·.2))) i)) := by
  refine ps_imp (ps_setLc hc hN hy hyl (sw_true hk hyl hl ha) hi (blkOk_by ok) hg ht he hs) fun Dv σ H ⟨F, ρ, m, Pi, Dz, hz, he, h, kn, kr, kx⟩ => ?_
  exact lc_impM (W := W) ⟨F, ρ, m, Pi, _, _, hz, he, h, fun x m1 P1 v H1 l1 z1 r1 q1 => kn _ m1 P1 _ H1 l1 z1 ((he.mono l1).set r1) q1, kx.at' he⟩
end
/-! ### list + list, whatever they are -/
theorem op_catS {X : Cx} : OpR X (binaryOp .Add) (fun x y H Q => ∃ l b xs zs, x = V.ref l ∧ y = V.ref b ∧ SqL X.K H l xs ∧ SqL X.K H b zs ∧ xs.length + zs.length ≤ sizeLine ∧ ∀ p, H p = none → Q (.ref p) (upd H p (.lst (xs ++ zs)))) := by
  intro pins s σ H x y v u Q I rx ry ⟨l, b, xs, zs, e1, e2, h1, h2, hz, q⟩
  subst e1 e2
  cases rx
  cases ry
  obtain ⟨its, r, ⟨⟨oc, od, dt, sl⟩, n, g1, g2, g3, g4⟩, _⟩ := I.list h1
  obtain ⟨its2, r2, ⟨⟨oc2, od2, dt2, sl2⟩, n2, k1, k2, k3, k4⟩, _⟩ := I.list h2
  dsimp only at g2 g3 g4 k2 k3 k4
  subst g2 g3 g4 k2 k3 k4
  have lz : its.toArray.size + its2.toArray.size ≤ sizeLine := by
    rw [List.size_toArray, List.size_toArray, ← r.length, ← r2.length]
    exact hz
  refine concat_meets ⟨_, g1, rfl⟩ ⟨_, k1, rfl⟩ noFill_list_add seq_list_add PySem.F.slot_list_add PySem.F.entry_list_add (PySem.F.args_list_add_2 _ _) (list_addW l b its.toArray its2.toArray n n2 none none sl sl2 lz) ⟨g1, k1, ?_⟩
  have ea : its.toArray ++ its2.toArray = (its ++ its2).toArray := by simp
  rw [ea]
  exact ⟨.ref _, _, I.lnew (t' := s.toks) (r.append r2) (by rw [List.length_append]; exact hz), rfl, q _ I.fresh⟩
def oAddL : ZOp := fun d e m Q => match seqD m d, seqD m e with
  | some xs, some ys => xs.length + ys.length ≤ sizeLine ∧ Q (.fl (xs ++ ys)) m
  | _, _ => False
theorem o_addL {X : Cx} : OpR X (binaryOp .Add) (RS X.K oAddL) := by
  intro pins s σ H x y v u Q I rx ry ⟨d, e, F, m, Pi, Qz, z, r1, r2, h, k⟩
  unfold oAddL at h
  split at h
  · rename_i xs ys q1 q2
    obtain ⟨a, vs, rfl, s1, p1⟩ := seq_of z r1 q1
    obtain ⟨b, ws, rfl, s2, p2⟩ := seq_of z r2 q2
    refine op_catS pins s σ H _ _ v u Q I rx ry ⟨a, b, vs, ws, rfl, rfl, s1, s2, by rw [← p1.length, ← p2.length]; exact h.1, fun p np => ?_⟩
    obtain ⟨z2, l2⟩ := z.newPi np (.lst (vs ++ ws))
    exact k _ _ _ _ _ l2 z2 (.fl (.inl (.inl upd_same)) ((p1.append p2).mono l2)) h.2
  · exact h.elim
end Zed
end
section
set_option maxHeartbeats 4000000
/-! Zed11: every other item of a tuple. -/
namespace Zed
open PySem PySem.Spec PyProof.Rows L2
open PySem.AutoSeq1
/-- t[lo::2] -/
def evG {α : Type} (xs : List α) (lo : Nat) : List α := (List.range ((xs.length - lo + 1) / 2)).filterMap fun k => xs[lo + k * 2]?
theorem ev_adjust (lo : Option Int) (l n : Nat) (h : lo = none ∧ l = 0 ∨ lo = some 1 ∧ l = min 1 n) : Builtin.Slice.sliceAdjust lo none 2 (n : Int) = ((l : Int), (n : Int)) := by
  rcases h with ⟨rfl, rfl⟩ | ⟨rfl, rfl⟩
  · unfold Builtin.Slice.sliceAdjust
    simp
  · unfold Builtin.Slice.sliceAdjust
    simp
    omega
theorem ev_places (l n : Nat) (h : l ≤ n) : Builtin.Slice.slicePlaces (l : Int) (n : Int) 2 = (n - l + 1) / 2 := by
  unfold Builtin.Slice.slicePlaces
  rw [if_pos (by decide)]
  split <;> omega
theorem ev_len {α : Type} (xs : List α) (lo : Nat) : (evG xs lo).length ≤ xs.length := by
  unfold evG
  refine Nat.le_trans (List.length_filterMap_le ..) ?_
  rw [List.length_range]
  omega
section
variable {prog : Program} {w : World} {A : Around} {E : Value → Shared → Prop} {s : Shared}
theorem ev_applied {sl : Addr} {vl : Value} {t : Tok} {n l : Nat} {lo : Option Int} {Q : Int × Int × Nat → Shared → Prop} (hs : s.heap.IsSliceOf sl vl .none (.int 2 t)) (pl : IsPart vl lo) (hlo : lo = none ∧ l = 0 ∨ lo = some 1 ∧ l = min 1 n)
    (h : Q ((l : Int), 2, (n - l + 1) / 2) s) : wpAny (model prog w) A (Builtin.Slice.sliceApplied (.ref sl) (pure (n : Int))) Q E s := by
  obtain ⟨ob, hob, _, hdat⟩ := id hs
  have hln : l ≤ n := by rcases hlo with ⟨_, rfl⟩ | ⟨_, rfl⟩ <;> omega
  unfold Builtin.Slice.sliceApplied Builtin.Slice.sliceFields
  refine wpAny_bind (wpAny_bind (wpAny_field hob hdat (x := vl) rfl (wpAny_bind (wpAny_field hob hdat (x := .none) rfl (wpAny_bind (wpAny_field hob hdat (x := .int 2 t) rfl (wpAny_pure ?_)))))))
  refine wpAny_bind (HT.slicePart_ (.int 2 t) ?_)
  show wpAny _ _ (if (((2 : Int)) == 0) = true then _ else _) _ _ s
  rw [if_neg (by decide)]
  refine wpAny_bind (HT.slicePart_ pl (wpAny_bind (HT.slicePart_ .none (wpAny_bind (wpAny_pure ?_)))))
  show wpAny _ _ (match Builtin.Slice.sliceAdjust lo none 2 (n : Int) with | (lo, hi) => pure (lo, (2 : Int), Builtin.Slice.slicePlaces lo hi 2)) _ _ s
  rw [ev_adjust lo l n hlo]
  show wpAny _ _ (pure ((l : Int), (2 : Int), Builtin.Slice.slicePlaces (l : Int) (n : Int) 2)) _ _ s
  rw [ev_places l n hln]
  exact wpAny_pure h
theorem ev_item {a sl : Addr} {items : Array Value} {vl : Value} {lo : Option Int} {l : Nat} {t : Tok} {Q : Value → Shared → Prop} (ht : IsTup s.heap a items) (hs : s.heap.IsSliceOf sl vl .none (.int 2 t)) (pl : IsPart vl lo) (hlo : lo = none ∧ l = 0 ∨ lo = some 1 ∧ l = min 1 items.size)
    (h : Q (.ref s.heap.objs.size) { s with heap := s.heap.push { cls := .type "tuple", data := .seq (evG items.toList l).toArray } }) (hz : items.size ≤ sizeLine) : wpAny (model prog w) A (getItem (.ref a) (.ref sl)) Q E s := by
  have fits : sizeOk (.seq (evG items.toList l).toArray) := by
    show (evG items.toList l).toArray.size ≤ sizeLine
    rw [List.size_toArray]
    refine Nat.le_trans (ev_len _ _) ?_
    rw [Array.length_toList]
    exact hz
  have isSl : s.TypeIs (.ref sl) "slice" := by
    obtain ⟨ob, hob, hcl, _⟩ := id hs
    exact ⟨ob, hob, hcl⟩
  unfold getItem
  try with_reducible refine wpAny_holding ?_
  first | refine wpAny_bind (wpAny_pure ?_) | skip
  refine wpAny_bind (wpAny_sequenceKey ht.typeIs (by decide) ?_)
  refine wpAny_bind (wpAny_callSpecial?_slot (name := Str.ofString "__getitem__") ht.typeIs PyProof.Rows.slot_tuple_getitem (wpAny_call_entry PyProof.Rows.slot_tuple_getitem ht.typeIs entry_tuple_getitem ?_ (args_tuple_getitem _ _)))
  show wpAny _ _ (Builtin.Tuple.tupleItemsOf (.ref a) >>= _) _ _ s
  refine wpAny_bind (tupleItemsOf_ ht (wpAny_bind (wpAny_typeOf isSl ?_)))
  rw [if_pos (by decide)]
  refine wpAny_bind (ev_applied hs pl hlo ?_)
  show wpAny _ _ (if ((l : Int) == 0 && (2 : Int) == 1 && (items.size - l + 1) / 2 == items.size) = true then _ else _) _ _ s
  rw [if_neg (by simp)]
  have pk : ((List.range ((items.size - l + 1) / 2)).filterMap fun (k : Nat) => items[((l : Int) + (k : Int) * 2).toNat]?).toArray = (evG items.toList l).toArray := by
    unfold evG
    rw [Array.length_toList]
    congr 1
    refine congrArg (fun f => List.filterMap f _) (funext fun k => ?_)
    rw [show ((l : Int) + (k : Int) * 2).toNat = l + k * 2 by omega, Array.getElem?_toList]
  rw [pk]
  first
    | exact wpAny_bind (m := Builtin.Tuple.tupleExact _) (wpAny_newObj_type (wpAny_pure ⟨_, rfl, wpAny_pure h⟩) fits)
    | exact wpAny_bind (m := Builtin.Tuple.tupleExact _) (wpAny_newObj_type (wpAny_bind (wpAny_pure (wpAny_pure ⟨_, rfl, wpAny_pure h⟩))) fits)
    | exact wpAny_bind (wpAny_bind (m := Builtin.Tuple.tupleExact _) (wpAny_newObj_type (wpAny_pure (wpAny_pure ⟨_, rfl, wpAny_pure h⟩)) fits))
    | exact wpAny_bind (wpAny_bind (m := Builtin.Tuple.tupleExact _) (wpAny_newObj_type (wpAny_pure ⟨_, rfl, wpAny_pure h⟩) fits))
end
theorem reps_pick {K : PySem.W.Frag} {P : Hp} {ds : List D} {vs : List V} (r : Reps K P ds vs) (f : Nat → Nat) : ∀ ks : List Nat, Reps K P (ks.filterMap fun k => ds[f k]?) (ks.filterMap fun k => vs[f k]?)
  | [] => .nil
  | k :: ks => by
    cases e : ds[f k]? with
    | none =>
      have hl : vs.length ≤ f k := by rw [← r.length]; exact List.getElem?_eq_none_iff.mp e
      rw [List.filterMap_cons_none (f := fun k => ds[f k]?) e, List.filterMap_cons_none (f := fun k => vs[f k]?) (List.getElem?_eq_none hl)]
      exact reps_pick r f ks
    | some d =>
      obtain ⟨v, e2, r2⟩ := r.get e
      rw [List.filterMap_cons_some (f := fun k => ds[f k]?) e, List.filterMap_cons_some (f := fun k => vs[f k]?) e2]
      exact .cons r2 (reps_pick r f ks)
theorem vals_pick {vs : List V} {us : List Value} (r : Vals vs us) (f : Nat → Nat) : ∀ ks : List Nat, Vals (ks.filterMap fun k => vs[f k]?) (ks.filterMap fun k => us[f k]?)
  | [] => .nil
  | k :: ks => by
    cases e : vs[f k]? with
    | none =>
      have hl : us.length ≤ f k := by rw [← r.length]; exact List.getElem?_eq_none_iff.mp e
      rw [List.filterMap_cons_none (f := fun k => vs[f k]?) e, List.filterMap_cons_none (f := fun k => us[f k]?) (List.getElem?_eq_none hl)]
      exact vals_pick r f ks
    | some d =>
      obtain ⟨v, e2, r2⟩ := r.get e
      rw [List.filterMap_cons_some (f := fun k => vs[f k]?) e, List.filterMap_cons_some (f := fun k => us[f k]?) e2]
      exact .cons r2 (vals_pick r f ks)
theorem reps_ev {K : PySem.W.Frag} {P : Hp} {ds : List D} {vs : List V} (r : Reps K P ds vs) (lo : Nat) : Reps K P (evG ds lo) (evG vs lo) := by
  unfold evG
  rw [r.length]
  exact reps_pick r _ _
theorem vals_ev {vs : List V} {us : List Value} (r : Vals vs us) (lo : Nat) : Vals (evG vs lo) (evG us lo) := by
  unfold evG
  rw [r.length]
  exact vals_pick r _ _
section
variable {X : Cx} {W : WX} {e : Expr} {pos : Pos} {ze : ZTE}
/-- t[::2], t[1::2] of a tuple -/
def zev (a : ZTE) (odd : Bool) : ZTE := fun ρ m Q E => a ρ m (fun x m1 => match x with
  | .tup xs => Q (.tup (evG xs (if odd then min 1 xs.length else 0))) m1
  | _ => False) E
theorem ev_core {lo : Option Expr} {odd : Bool} {k : Nat} {p1 p3 : Pos} (he : PE X e (LE X.K W ze))
    (hlo : ∀ (pins : List (Addr × Obj)) (s : Shared) (σ : St) (H : Hp), Inv X pins σ H s → wpAny (model X.prog X.w) X.A (valueOrNone (evalOpt lo X.env)) (fun v s' => Inv X pins σ H s' ∧ IsPart v (if odd then some 1 else none)) X.xe s) :
    PE X (.Subscript e (.Slice lo none (some (.Constant (.int 2) k p1)) p3) pos) (LE X.K W (zev ze odd)) := by
  refine ⟨fun pins s σ H Q I ⟨F, ρ, m, Pi, Qz, Ez, hz, hE, h, kq, kx⟩ => ?_⟩
  have h0 : LE X.K W ze σ H (fun v H1 => ∃ xs m1 P1, Zm X.K F m1 P1 H1 ∧ PLe Pi P1 ∧ Rep X.K P1 (.tup xs) v ∧ Qz (.tup (evG xs (if odd then min 1 xs.length else 0))) m1) :=
    ⟨F, ρ, m, Pi, _, Ez, hz, hE, h, fun x m1 P1 v H1 l1 z1 r1 q1 => by
      cases x with
      | tup xs => exact ⟨xs, m1, P1, z1, l1, r1, q1⟩
      | _ => exact q1.elim, kx⟩
  refine Subscript_ (thn (he.run pins s σ H _ I h0) fun v s1 ⟨x, H1, I1, rv, xs, m1, P1, z1, l1, r1, q1⟩ => ?_)
  have part : PO X (some (.Constant (.int 2) k p1)) (tPart (tC (.int 2))) := po_some pe_int
  refine wpAny_Slice (thn (hlo pins s1 σ H1 I1) fun vl s2 ⟨I2, pl⟩ => ?_)
  refine thn (po_none.run pins s2 σ H1 (fun o G => o = none ∧ G = H1) I2 ⟨rfl, rfl⟩) fun vu s3 ⟨u, G3, I3, pu, eu, e3⟩ => ?_
  subst eu e3
  refine thn (part.run pins s3 σ G3 (fun o G => o = some 2 ∧ G = G3) I3 ⟨2, rfl, rfl, rfl⟩) fun vst s4 ⟨o, G4, I4, pst, eo, e4⟩ => ?_
  subst eo e4
  have I5 : Inv X pins σ G4 { s4 with heap := s4.heap.push { cls := .type "slice", data := .fields #[vl, vu, vst] } } := I4.kept (t' := s4.toks) fun b ob q => Heap.get?_push_of_some _ q
  cases r1 with
  | tup hs rs =>
    rename_i a vs
    obtain rfl : v = .ref a := rv
    obtain ⟨its, r, ht, hsz⟩ := I5.tuple (z1.sub.sqt hs)
    have hlen := r.length
    have hl2 := rs.length
    cases pu
    cases pst with
    | int i t =>
      refine tail_any (ops := [.ref a, .ref s4.heap.objs.size]) ht.typeIs (PyProof.Rows.slot_tuple_getitem.lookup) ?_ (by with_unfolding_all rfl)
      refine ev_item (l := if odd then min 1 xs.length else 0) ht (Heap.IsSliceOf.new _ vl .none (.int 2 t)) pl ?_ ?_ (by rw [List.size_toArray]; omega)
      · cases odd with
        | false => exact .inl ⟨rfl, rfl⟩
        | true => exact .inr ⟨rfl, by rw [List.size_toArray, ← hlen, ← hl2]; rfl⟩
      · refine ⟨.ref _, _, I5.laid (t' := s4.toks) (o := .tup (evG vs (if odd then min 1 xs.length else 0))) (fun b ob q => Heap.get?_push_of_some _ q) (Nat.le_refl _) ?_, rfl, fin_tup (kq.mono l1) z1 (reps_ev rs _) (I5.hok.fresh (Nat.le_refl _)) q1⟩
        exact ⟨Nat.le_trans (ev_len _ _) hsz, _, vals_ev r _, IsTup.new _ _⟩
theorem r_ev0 {k : Nat} {p1 p3 : Pos} (he : PE X e (LE X.K W ze)) : PE X (.Subscript e (.Slice none none (some (.Constant (.int 2) k p1)) p3) pos) (LE X.K W (zev ze false)) :=
  ev_core he fun pins s σ H I => thn (po_none.run pins s σ H (fun o G => o = none ∧ G = H) I ⟨rfl, rfl⟩) fun v s2 ⟨l, G, I2, pl, el, e2⟩ => by
    subst el e2
    exact ⟨I2, pl⟩
theorem r_ev1 {k k2 : Nat} {p1 p2 p3 : Pos} (he : PE X e (LE X.K W ze)) : PE X (.Subscript e (.Slice (some (.Constant (.int 1) k2 p2)) none (some (.Constant (.int 2) k p1)) p3) pos) (LE X.K W (zev ze true)) :=
  ev_core he fun pins s σ H I => by
    have part : PO X (some (.Constant (.int 1) k2 p2)) (tPart (tC (.int 1))) := po_some pe_int
    exact thn (part.run pins s σ H (fun o G => o = some 1 ∧ G = H) I ⟨1, rfl, rfl, rfl⟩) fun v s2 ⟨l, G, I2, pl, el, e2⟩ => by
      subst el e2
      exact ⟨I2, pl⟩
end
end Zed
end
section
set_option maxHeartbeats 4000000
/-! Zed12: zip of two lists of one length, told strict. -/
namespace Zed
open PySem PySem.Spec PyProof.Rows L2
abbrev IsZipS (h : Heap) (z TI TO : Addr) (f0 : Value) : Prop :=
  h.get? z = some { cls := .type "zip", dict := none, data := .fields #[f0, .bool false, .bool true, .ref TI, .ref TO], slots := #[] }
section
variable {prog : Program} {w : World} {A : Around} {E : Value → Shared → Prop} {s : Shared}
theorem nextOrEnd_item {it l : Addr} {i : Nat} {items : Array Value} {x : Value} {Q : Option Value → Shared → Prop} (hit : s.heap.IsListIter it l i)
    (hl : s.heap.IsList l items) (hx : items[i]? = some x)
    (hQ : ∀ h', h'.IsListIter it l (i + 1) → Heap.SameBut it s.heap h' → Q (some x) { s with heap := h' }) :
    wpAny (model prog w) A (Builtin.SmallTypes.nextOrEnd (.ref it)) Q E s := by
  unfold Builtin.SmallTypes.nextOrEnd
  exact wpAny_bind (wpAny_attempt (wpAny_nextOf_list_item hit hl hx fun h' a b => wpAny_pure (hQ h' a b)))
theorem nextOrEnd_end {it l : Addr} {i : Nat} {items : Array Value} {Q : Option Value → Shared → Prop} (hh : A.handled = none)
    (hit : s.heap.IsListIter it l i) (hl : s.heap.IsList l items) (hx : items[i]? = none)
    (hQ : ∀ h', Heap.ExtBut it s.heap h' → Q none { s with heap := h' }) :
    wpAny (model prog w) A (Builtin.SmallTypes.nextOrEnd (.ref it)) Q E s := by
  unfold Builtin.SmallTypes.nextOrEnd
  refine wpAny_bind (wpAny_attempt (wpAny_nextOf_list_end hh hit hl hx fun h' e hk he => ?_))
  obtain ⟨o, ho, hc⟩ := he
  exact wpAny_bind (wpAny_isInstance (T := "StopIteration") (b := true) ⟨o, ho, hc⟩ isSubtype_stop (wpAny_pure (hQ h' hk)))
theorem zipS_next_item {z TI TO i1 i2 l1 l2 : Addr} {k1 k2 : Nat} {xs ys : Array Value} {x y a b : Value} {Q : Value → Shared → Prop} (D : ZipApart z TI TO i1 i2 l1 l2)
    (hz : IsZipS s.heap z TI TO .none) (hTI : IsPair s.heap TI (.ref i1) (.ref i2)) (hTO : IsPair s.heap TO a b)
    (h1 : s.heap.IsListIter i1 l1 k1) (h2 : s.heap.IsListIter i2 l2 k2) (hl1 : s.heap.IsList l1 xs) (hl2 : s.heap.IsList l2 ys) (hx : xs[k1]? = some x) (hy : ys[k2]? = some y)
    (hQ : ∀ h', IsZipS h' z TI TO (rawInt s.heap.objs.size) → IsPair h' TO x y → h'.IsListIter i1 l1 (k1 + 1) → h'.IsListIter i2 l2 (k2 + 1) → IsPair h' s.heap.objs.size x y → h'.objs.size = s.heap.objs.size + 1 →
      (∀ c o, c ≠ z → c ≠ TO → c ≠ i1 → c ≠ i2 → s.heap.get? c = some o → h'.get? c = some o) → Q (.ref s.heap.objs.size) { s with heap := h' }) :
    wpAny (model prog w) A (Builtin.«zip.__next__» ⟨[.ref z], []⟩) (fun fin s' => ∃ v, fin = .done (.ret v) ∧ Q v s') E s := by
  show wpAny _ _ (field (.ref z) 2 >>= _) _ _ _
  refine wpAny_bind (wpAny_field hz rfl (x := .bool true) rfl ?_)
  show wpAny _ _ (field (.ref z) 3 >>= _) _ _ _
  refine wpAny_bind (wpAny_field hz rfl (x := .ref TI) rfl ?_)
  refine wpAny_bind (wpAny_seqItems hTI rfl ?_)
  show wpAny _ _ (Builtin.SmallTypes.ownedTupleIsFree (.ref z) >>= _) _ _ _
  refine wpAny_bind ?_
  unfold Builtin.SmallTypes.ownedTupleIsFree
  refine wpAny_bind (wpAny_field hz rfl (x := .none) rfl (wpAny_pure ?_))
  simp only [if_true]
  refine wpAny_bind (wpAny_rule ?_)
  refine wpAny_bind (wpAny_field hz rfl (x := .ref TO) rfl ?_)
  refine wpAny_bind (wpAny_setField_rec hz (by simp) fun h₁ hz₁ hs₁ => ?_)
  replace hz₁ : IsZipS h₁ z TI TO .ellipsis := hz₁
  refine wpAny_bind ?_
  simp only [List.zipIdx_cons, List.zipIdx_nil, List.forIn_cons, List.forIn_nil]

  refine wpAny_bind (wpAny_bind (wpAny_onRaise ?_))
  show wpAny _ _ (Builtin.SmallTypes.nextOrEnd (.ref i1)) _ _ _
  refine (nextOrEnd_item (h1.extBut hs₁.extBut D.i1z) (hl1.extBut hs₁.extBut D.l1z) hx fun h₂ h1₂ hs₂ => ?_)
  have hTO₂ : IsPair h₂ TO a b := hs₂.extBut _ _ D.TOi1 (hs₁.extBut _ _ D.TOz hTO)
  refine wpAny_bind (wpAny_seqItems hTO₂ rfl ?_)
  refine wpAny_bind (wpAny_updateSeq_pair hTO₂ fun h₃ hTO₃ hs₃ => ?_)
  replace hTO₃ : IsPair h₃ TO x b := hTO₃
  refine wpAny_bind (wpAny_letGo (wpAny_pure ?_))

  refine wpAny_bind (wpAny_bind (wpAny_onRaise ?_))
  show wpAny _ _ (Builtin.SmallTypes.nextOrEnd (.ref i2)) _ _ _
  refine (nextOrEnd_item (((h2.extBut hs₁.extBut D.i2z).extBut hs₂.extBut D.i12.symm).extBut hs₃.extBut D.TOi2.symm)
    (((hl2.extBut hs₁.extBut D.l2z).extBut hs₂.extBut D.l2i1).extBut hs₃.extBut D.l2TO) hy fun h₄ h2₄ hs₄ => ?_)
  have hTO₄ : IsPair h₄ TO x b := hs₄.extBut _ _ D.TOi2 hTO₃
  refine wpAny_bind (wpAny_seqItems hTO₄ rfl ?_)
  refine wpAny_bind (wpAny_updateSeq_pair hTO₄ fun h₅ hTO₅ hs₅ => ?_)
  replace hTO₅ : IsPair h₅ TO x y := hTO₅
  refine wpAny_bind (wpAny_letGo (wpAny_pure (wpAny_pure ?_)))

  refine wpAny_bind (wpAny_seqItems hTO₅ rfl ?_)
  refine wpAny_bind (wpAny_newTuple ?_)
  have hsz : h₅.objs.size = s.heap.objs.size := by rw [hs₅.1, hs₄.1, hs₃.1, hs₂.1, hs₁.1]
  have hz₅ : IsZipS h₅ z TI TO .ellipsis := hs₅.extBut _ _ D.TOz.symm (hs₄.extBut _ _ D.i2z.symm (hs₃.extBut _ _ D.TOz.symm (hs₂.extBut _ _ D.i1z.symm hz₁)))
  have hk₅ : ∀ c o, c ≠ z → c ≠ TO → c ≠ i1 → c ≠ i2 → s.heap.get? c = some o → h₅.get? c = some o := fun c o c1 c2 c3 c4 e =>
    hs₅.extBut _ _ c2 (hs₄.extBut _ _ c4 (hs₃.extBut _ _ c2 (hs₂.extBut _ _ c3 (hs₁.extBut _ _ c1 e))))
  have h1₅ : h₅.IsListIter i1 l1 (k1 + 1) := ((h1₂.extBut hs₃.extBut D.TOi1.symm).extBut hs₄.extBut D.i12).extBut hs₅.extBut D.TOi1.symm
  have h2₅ : h₅.IsListIter i2 l2 (k2 + 1) := h2₄.extBut hs₅.extBut D.TOi2.symm
  have hzlt : z < h₅.objs.size := Heap.lt_size hz₅
  have hTOlt : TO < h₅.objs.size := Heap.lt_size hTO₅
  have hi1lt : i1 < h₅.objs.size := by obtain ⟨_, e, _⟩ := h1₅; exact Heap.lt_size e
  have hi2lt : i2 < h₅.objs.size := by obtain ⟨_, e, _⟩ := h2₅; exact Heap.lt_size e
  show wpAny _ _ (Builtin.SmallTypes.ownedTupleHandOut (.ref z) (.ref h₅.objs.size) >>= _) _ _ _
  refine wpAny_bind ?_
  unfold Builtin.SmallTypes.ownedTupleHandOut
  have hz₆ : IsZipS (h₅.push { cls := .type "tuple", data := .seq #[x, y] }) z TI TO .ellipsis := Heap.get?_push_of_some _ hz₅
  refine wpAny_bind (wpAny_setField_rec hz₆ (by simp) fun h₇ hz₇ hs₇ => ?_)
  replace hz₇ : IsZipS h₇ z TI TO (rawInt h₅.objs.size) := hz₇
  refine wpAny_setField_rec hz₇ (by simp) fun h₈ hz₈ hs₈ => ?_
  replace hz₈ : IsZipS h₈ z TI TO (rawInt h₅.objs.size) := hz₈
  have up : ∀ c o, c ≠ z → h₅.get? c = some o → h₈.get? c = some o := fun c o c1 e => hs₈.extBut _ _ c1 (hs₇.extBut _ _ c1 (Heap.get?_push_of_some _ e))
  have hT₈ : IsPair h₈ h₅.objs.size x y := hs₈.extBut _ _ (Nat.ne_of_gt hzlt) (hs₇.extBut _ _ (Nat.ne_of_gt hzlt) (Heap.get?_push_size _ rfl))
  have hz8 : h₈.objs.size = h₅.objs.size + 1 := by rw [hs₈.1, hs₇.1, Heap.size_push]
  rw [hsz] at hz₈ hT₈ hz8
  refine wpAny_pure ⟨_, rfl, ?_⟩
  show Q (.ref h₅.objs.size) _
  rw [hsz]
  exact hQ h₈ hz₈ (up _ _ D.TOz hTO₅) (h1₅.at fun o e => up _ o D.i1z e) (h2₅.at fun o e => up _ o D.i2z e) hT₈ hz8 fun c o c1 c2 c3 c4 e => up c o c1 (hk₅ c o c1 c2 c3 c4 e)

theorem zipS_next_end {z TI TO i1 i2 l1 l2 : Addr} {k1 k2 : Nat} {xs ys : Array Value} {a b : Value} {Q : Fin → Shared → Prop} (hh : A.handled = none) (D : ZipApart z TI TO i1 i2 l1 l2)
    (hz : IsZipS s.heap z TI TO .none) (hTI : IsPair s.heap TI (.ref i1) (.ref i2)) (hTO : IsPair s.heap TO a b)
    (h1 : s.heap.IsListIter i1 l1 k1) (h2 : s.heap.IsListIter i2 l2 k2) (hl1 : s.heap.IsList l1 xs) (hl2 : s.heap.IsList l2 ys) (hx : xs[k1]? = none) (hy : ys[k2]? = none)
    (hE : ∀ h' e, (∀ c o, c ≠ z → c ≠ TO → c ≠ i1 → c ≠ i2 → s.heap.get? c = some o → h'.get? c = some o) → (∃ o, h'.get? e = some o ∧ o.cls = .type "StopIteration") → E (.ref e) { s with heap := h' }) :
    wpAny (model prog w) A (Builtin.«zip.__next__» ⟨[.ref z], []⟩) Q E s := by
  show wpAny _ _ (field (.ref z) 2 >>= _) _ _ _
  refine wpAny_bind (wpAny_field hz rfl (x := .bool true) rfl ?_)
  show wpAny _ _ (field (.ref z) 3 >>= _) _ _ _
  refine wpAny_bind (wpAny_field hz rfl (x := .ref TI) rfl ?_)
  refine wpAny_bind (wpAny_seqItems hTI rfl ?_)
  show wpAny _ _ (Builtin.SmallTypes.ownedTupleIsFree (.ref z) >>= _) _ _ _
  refine wpAny_bind ?_
  unfold Builtin.SmallTypes.ownedTupleIsFree
  refine wpAny_bind (wpAny_field hz rfl (x := .none) rfl (wpAny_pure ?_))
  simp only [if_true]
  refine wpAny_bind (wpAny_rule ?_)
  refine wpAny_bind (wpAny_field hz rfl (x := .ref TO) rfl ?_)
  refine wpAny_bind (wpAny_setField_rec hz (by simp) fun h₁ hz₁ hs₁ => ?_)
  replace hz₁ : IsZipS h₁ z TI TO .ellipsis := hz₁
  refine wpAny_bind ?_
  simp only [List.zipIdx_cons, List.zipIdx_nil, List.forIn_cons, List.forIn_nil]
  refine wpAny_bind (wpAny_bind (wpAny_onRaise ?_))
  show wpAny _ _ (Builtin.SmallTypes.nextOrEnd (.ref i1)) _ _ _
  refine nextOrEnd_end hh (h1.extBut hs₁.extBut D.i1z) (hl1.extBut hs₁.extBut D.l1z) hx fun h₂ hs₂ => ?_
  have hz₂ : IsZipS h₂ z TI TO .ellipsis := hs₂ _ _ D.i1z.symm hz₁
  refine wpAny_bind (wpAny_setField_rec hz₂ (by simp) fun h₃ hz₃ hs₃ => ?_)
  refine wpAny_bind (wpAny_bind ?_)
  simp only [List.drop_succ_cons, List.drop_zero, List.zipIdx_cons, List.zipIdx_nil, List.forIn_cons, List.forIn_nil]
  refine wpAny_bind (wpAny_bind (nextOrEnd_end hh (((h2.extBut hs₁.extBut D.i2z).extBut hs₂ D.i12.symm).extBut hs₃.extBut D.i2z) (((hl2.extBut hs₁.extBut D.l2z).extBut hs₂ D.l2i1).extBut hs₃.extBut D.l2z) hy fun h₄ hs₄ => ?_))
  refine wpAny_pure (wpAny_pure ?_)
  refine wpAny_bind (wpAny_rule ?_)
  show wpAny _ _ (newExc (.type "StopIteration") [] >>= _) _ _ _
  refine wpAny_bind ?_
  simp only [newExc, newTuple]
  refine wpAny_bind (wpAny_newObj_type ?_ (by size_fits))
  refine wpAny_bind (m := firstArgMember _ _) (wpAny_of_eq (a := Value.none) (by first | rfl | (simp only [firstArgMember]; rfl)) ?_)
  refine wpAny_newObj_type ?_ (by size_fits)
  simp only [raiseNew]
  refine wpAny_bind (wpAny_handled ?_)
  first | rw [show A.in1.handled = none from hh] | rw [hh]
  refine wpAny_bind (wpAny_pure (wpAny_throw ?_))
  exact hE _ _ (fun c o c1 c2 c3 c4 e => Heap.get?_push_of_some _ (Heap.get?_push_of_some _ (hs₄ _ _ c4 (hs₃.extBut _ _ c1 (hs₂ _ _ c3 (hs₁.extBut _ _ c1 e)))))) ⟨_, Heap.get?_push_size _ rfl, rfl⟩
theorem pyNext_zipS_item {z TI TO i1 i2 l1 l2 : Addr} {k1 k2 : Nat} {xs ys : Array Value} {x y a b : Value} {Q : Option Value → Shared → Prop} (D : ZipApart z TI TO i1 i2 l1 l2)
    (hz : IsZipS s.heap z TI TO .none) (hTI : IsPair s.heap TI (.ref i1) (.ref i2)) (hTO : IsPair s.heap TO a b)
    (h1 : s.heap.IsListIter i1 l1 k1) (h2 : s.heap.IsListIter i2 l2 k2) (hl1 : s.heap.IsList l1 xs) (hl2 : s.heap.IsList l2 ys) (hx : xs[k1]? = some x) (hy : ys[k2]? = some y)
    (hQ : ∀ h', IsZipS h' z TI TO (rawInt s.heap.objs.size) → IsPair h' TO x y → h'.IsListIter i1 l1 (k1 + 1) → h'.IsListIter i2 l2 (k2 + 1) → IsPair h' s.heap.objs.size x y → h'.objs.size = s.heap.objs.size + 1 →
      (∀ c o, c ≠ z → c ≠ TO → c ≠ i1 → c ≠ i2 → s.heap.get? c = some o → h'.get? c = some o) → Q (some (.ref s.heap.objs.size)) { s with heap := h' }) :
    wpAny (model prog w) A (pyNext (.ref z)) Q E s := by
  have hT : s.TypeIs (.ref z) "zip" := ⟨_, hz, rfl⟩
  unfold pyNext
  exact wpAny_bind (wpAny_attempt (wpAny_callSpecial?_slot (name := Str.ofString "__next__") hT F.slot_zip_next
    (wpAny_call_entry F.slot_zip_next hT F.entry_zip_next
      (zipS_next_item D hz hTI hTO h1 h2 hl1 hl2 hx hy fun h' a1 a2 a3 a4 a5 a6 a7 => wpAny_pure (hQ h' a1 a2 a3 a4 a5 a6 a7)) (F.args_zip_next_1 _))))

theorem pyNext_zipS_end {z TI TO i1 i2 l1 l2 : Addr} {k1 k2 : Nat} {xs ys : Array Value} {a b : Value} {Q : Option Value → Shared → Prop} (hh : A.handled = none) (D : ZipApart z TI TO i1 i2 l1 l2)
    (hz : IsZipS s.heap z TI TO .none) (hTI : IsPair s.heap TI (.ref i1) (.ref i2)) (hTO : IsPair s.heap TO a b)
    (h1 : s.heap.IsListIter i1 l1 k1) (h2 : s.heap.IsListIter i2 l2 k2) (hl1 : s.heap.IsList l1 xs) (hl2 : s.heap.IsList l2 ys) (hx : xs[k1]? = none) (hy : ys[k2]? = none)
    (hQ : ∀ h', (∀ c o, c ≠ z → c ≠ TO → c ≠ i1 → c ≠ i2 → s.heap.get? c = some o → h'.get? c = some o) → Q none { s with heap := h' }) : wpAny (model prog w) A (pyNext (.ref z)) Q E s := by
  have hT : s.TypeIs (.ref z) "zip" := ⟨_, hz, rfl⟩
  unfold pyNext
  refine wpAny_bind (wpAny_attempt (wpAny_callSpecial?_slot (name := Str.ofString "__next__") hT F.slot_zip_next
    (wpAny_call_entry F.slot_zip_next hT F.entry_zip_next (zipS_next_end hh D hz hTI hTO h1 h2 hl1 hl2 hx hy fun h' e hk he => ?_) (F.args_zip_next_1 _))))
  obtain ⟨o, ho, hc⟩ := he
  refine wpAny_bind (wpAny_isInstance (T := "StopIteration") (b := true) ⟨o, ho, hc⟩ isSubtype_stop ?_)
  exact wpAny_pure (hQ _ hk)

theorem letGo_zipS {elts : List Expr} {x1} {pos : Pos} {z TI TO T : Addr} {Q : Unit → Shared → Prop} (hz : IsZipS s.heap z TI TO (rawInt T))
    (hQ : ∀ h', IsZipS h' z TI TO .none → Heap.SameBut z s.heap h' → Q () { s with heap := h' }) :
    wpAny (model prog w) A (letOwnedTupleGo (.Tuple elts x1 pos) (.ref z) (.ref T)) Q E s := by
  unfold letOwnedTupleGo
  refine wpAny_bind (wpAny_load hz ?_)
  show wpAny _ _ (if (["enumerate", "zip", "dict_itemiterator", "dict_reverseitemiterator", "odict_iterator", "itertools.zip_longest", "itertools.pairwise"].contains "zip" &&
      (#[rawInt T, .bool false, .bool true, .ref TI, .ref TO] : Array Value)[0]? == some (rawInt T)) = true then _ else _) Q E s
  rw [if_pos (by simp)]
  refine wpAny_bind (wpAny_rule ?_)
  show wpAny _ _ (setField (.ref z) 0 .none) Q E s
  exact wpAny_setField_rec hz (by simp) fun h' hz' hs' => hQ h' hz' hs'

theorem pyIter_zipS {z TI TO : Addr} {f0 : Value} {Q : Value → Shared → Prop} (hz : IsZipS s.heap z TI TO f0) (h : Q (.ref z) s) : wpAny (model prog w) A (pyIter (.ref z)) Q E s := by
  have hT : s.TypeIs (.ref z) "zip" := ⟨_, hz, rfl⟩
  refine wpAny_pyIter_slot hT F.slot_zip_iter (wpAny_call_entry F.slot_zip_iter hT F.entry_zip_iter ?_ (F.args_zip_iter_1 _))
  show wpAny _ _ (ret (.ref z)) _ _ s
  exact wpAny_pure ⟨_, rfl, "zip", _, hT, F.slot_zip_next.lookup, h⟩

end
abbrev zipH5S (h : Heap) (l1 l2 : Addr) : Heap := (zipH4 h l1 l2).push { cls := .type "zip", data := .fields #[.none, .bool false, .bool true, .ref (zipH2 h l1 l2).objs.size, .ref (zipH3 h l1 l2).objs.size] }
theorem typeCall_zipS (a b c : Value) : checkTypeCall "zip" ⟨[a, b], [(Str.ofString "strict", c)]⟩ = pure () := by kernel_rfl
theorem newCall_zipS (a b c : Value) : checkBuiltinCall "zip.__new__" ⟨[.type "zip", a, b], [(Str.ofString "strict", c)]⟩ = pure () := by kernel_rfl
theorem args_initS (obj a b c : Value) : argsOk "object.__init__" ⟨[obj, a, b], [(Str.ofString "strict", c)]⟩ := by unfold argsOk; kernel_rfl
theorem meets_zip_newS (l1 l2 : Addr) (xs ys : Array Value) :
    Meets (Builtin.«zip.__new__» ⟨[.type "zip", .ref l1, .ref l2], [(Str.ofString "strict", .bool true)]⟩) (fun _ R s => s.heap.IsList l1 xs ∧ s.heap.IsList l2 ys ∧
      R (.ok (.ret (.ref (zipH4 s.heap l1 l2).objs.size))) { s with heap := zipH5S s.heap l1 l2 }) :=
  .of_wp fun prog w A R s h => by
    obtain ⟨hp, g, d, tk, os⟩ := s; obtain ⟨hl1, hl2, h⟩ := h
    have hsub := sub_zip
    have hL1 : Heap.IsList (Shared.heap ⟨hp, g, d, tk, os⟩) l1 xs := hl1
    have hL2 : Heap.IsList (Shared.heap ⟨hp.push { cls := .type "list_iterator", data := .fields #[.ref l1, .int 0 0] }, g, d, tk, os⟩) l2 ys := Heap.IsList.push hl2 _
    have e1 : (Str.ofString "strict" != ("strict" : Str)) = false := by decide +kernel
    wp_walk using wpAny_pyIter_list hL1, wpAny_pyIter_list hL2
    exact ⟨_, rfl, h⟩
section
variable {prog : Program} {w : World} {A : Around} {E : Value → Shared → Prop} {s : Shared}
theorem call_zipS {l1 l2 : Addr} {xs ys : Array Value} {Q : Value → Shared → Prop} (hl1 : s.heap.IsList l1 xs) (hl2 : s.heap.IsList l2 ys)
    (h : ∀ h', IsZipS h' (s.heap.objs.size + 4) (s.heap.objs.size + 2) (s.heap.objs.size + 3) .none → IsPair h' (s.heap.objs.size + 2) (.ref s.heap.objs.size) (.ref (s.heap.objs.size + 1)) →
      IsPair h' (s.heap.objs.size + 3) .none .none → h'.IsListIter s.heap.objs.size l1 0 → h'.IsListIter (s.heap.objs.size + 1) l2 0 → h'.objs.size = s.heap.objs.size + 5 →
      (∀ c o, s.heap.get? c = some o → h'.get? c = some o) → Q (.ref (s.heap.objs.size + 4)) { s with heap := h' }) :
    wpAny (model prog w) A (call (.type "zip") [.ref l1, .ref l2] [(Str.ofString "strict", .bool true)]) Q E s := by
  refine callType_newKw F.called_zip (by decide) (typeCall_zipS _ _ _) (newCall_zipS _ _ _) (fun obj => args_initS obj _ _ _) F.entry_zip_new
    (meets_zip_newS l1 l2 xs ys) ⟨hl1, hl2, ?_⟩
  have z1 : (zipH1 s.heap l1).objs.size = s.heap.objs.size + 1 := Heap.size_push ..
  have z2 : (zipH2 s.heap l1 l2).objs.size = s.heap.objs.size + 2 := by rw [Heap.size_push, z1]
  have z3 : (zipH3 s.heap l1 l2).objs.size = s.heap.objs.size + 3 := by rw [Heap.size_push, z2]
  have z4 : (zipH4 s.heap l1 l2).objs.size = s.heap.objs.size + 4 := by rw [Heap.size_push, z3]
  have z5 : (zipH5S s.heap l1 l2).objs.size = s.heap.objs.size + 5 := by rw [Heap.size_push, z4]
  have g5 : (zipH5S s.heap l1 l2).get? (zipH4 s.heap l1 l2).objs.size = some _ := Heap.get?_push_size _ rfl
  have g4 : (zipH5S s.heap l1 l2).get? (zipH3 s.heap l1 l2).objs.size = some _ := Heap.get?_push_of_some _ (Heap.get?_push_size _ rfl)
  have g3 : (zipH5S s.heap l1 l2).get? (zipH2 s.heap l1 l2).objs.size = some _ := Heap.get?_push_of_some _ (Heap.get?_push_of_some _ (Heap.get?_push_size _ rfl))
  have g2 : (zipH5S s.heap l1 l2).get? (zipH1 s.heap l1).objs.size = some _ := Heap.get?_push_of_some _ (Heap.get?_push_of_some _ (Heap.get?_push_of_some _ (Heap.get?_push_size _ rfl)))
  have g1 : (zipH5S s.heap l1 l2).get? s.heap.objs.size = some _ := Heap.get?_push_of_some _ (Heap.get?_push_of_some _ (Heap.get?_push_of_some _ (Heap.get?_push_of_some _ (Heap.get?_push_size _ rfl))))
  show _ ∧ _
  rw [z2, z3, z4] at g5
  rw [z1, z2] at g3
  rw [z3] at g4
  rw [z1] at g2
  rw [z4]
  exact ⟨⟨_, g5, rfl⟩, h _ g5 g3 g4 ⟨_, g1, rfl, rfl⟩ ⟨_, g2, rfl, rfl⟩ z5 fun c o x =>
    Heap.get?_push_of_some _ (Heap.get?_push_of_some _ (Heap.get?_push_of_some _ (Heap.get?_push_of_some _ (Heap.get?_push_of_some _ x))))⟩

end
/-- the lists at a and b as they stand at each turn, the items in new pairs -/
def ItzS (K : PySem.W.Frag) (a b : Addr) : It :=
  ⟨fun i H => ∃ (xs ys : List V) (x y : V), SqL K H a xs ∧ SqL K H b ys ∧ xs[i]? = some x ∧ ys[i]? = some y,
    fun i H v H' => ∃ T x y, v = .ref T ∧ H T = none ∧ H' = upd H T (.tup [x, y]) ∧ (∀ xs, SqL K H a xs → xs[i]? = some x) ∧ ∀ ys, SqL K H b ys → ys[i]? = some y,
    fun i H => ∃ xs ys : List V, SqL K H a xs ∧ SqL K H b ys ∧ xs.length ≤ i ∧ ys.length ≤ i⟩
theorem turn_zipS {P : Program} {w : World} {K : PySem.W.Frag} {elts : List Expr} {kk : Nat} {tpos : Pos} {a b z TI TO i1 i2 : Addr} (D : ZipApart z TI TO i1 i2 a b) :
    Turn P w K (.Tuple elts kk tpos) (ItzS K a b) [z, TI, TO, i1, i2] z (fun i h => IsZipS h z TI TO .none ∧ IsPair h TI (.ref i1) (.ref i2) ∧ (∃ x y, IsPair h TO x y) ∧ h.IsListIter i1 a i ∧ h.IsListIter i2 b i) where
  mem := by simp
  obj := fun i h st c hc => by
    obtain ⟨hz, hTI, ⟨x, y, hTO⟩, ⟨o1, e1, _, d1⟩, ⟨o2, e2, _, d2⟩⟩ := st
    have e' : c = z ∨ c = TI ∨ c = TO ∨ c = i1 ∨ c = i2 := by simpa using hc
    rcases e' with q | q | q | q | q
    · rw [q]; exact ⟨_, hz, fun v q => nomatch q⟩
    · rw [q]; exact ⟨_, hTI, fun v q => nomatch q⟩
    · rw [q]; exact ⟨_, hTO, fun v q => nomatch q⟩
    · rw [q]; exact ⟨o1, e1, fun v q => by rw [d1] at q; cases q⟩
    · rw [q]; exact ⟨o2, e2, fun v q => by rw [d2] at q; cases q⟩
  keep := fun i h h' st k => by
    obtain ⟨hz, hTI, ⟨x, y, hTO⟩, h1, h2⟩ := st
    exact ⟨k z (by simp) _ hz, k TI (by simp) _ hTI, ⟨x, y, k TO (by simp) _ hTO⟩, h1.at fun o q => k i1 (by simp) o q, h2.at fun o q => k i2 (by simp) o q⟩
  item := by
    intro X hP hw hK hc i pins s σ H E I hf st hg
    subst hP hw hK
    obtain ⟨hz, hTI, ⟨x0, y0, hTO⟩, h1, h2⟩ := st
    obtain ⟨xs, ys, x, y, hqx, hqy, hx, hy⟩ := hg
    obtain ⟨its, rv, p, _⟩ := I.list hqx
    obtain ⟨its2, rv2, p2, _⟩ := I.list hqy
    obtain ⟨u, hu, ru⟩ := rv.get hx
    obtain ⟨u2, hu2, ru2⟩ := rv2.get hy
    have hzl : z < s.heap.objs.size := Heap.lt_size hz
    refine pyNext_zipS_item D hz hTI hTO h1 h2 p.isList p2.isList (x := u) (y := u2) (by simpa using hu) (by simpa using hu2) fun h' z' TO' h1' h2' hT hsz hk => ?_
    refine ⟨_, rfl, letGo_zipS (s := { s with heap := h' }) z' fun h'' z'' sb => ?_⟩
    have hT2 : h''.get? s.heap.objs.size = some { cls := .type "tuple", data := .seq #[u, u2] } := (sb.2 _ (Nat.ne_of_gt hzl)).trans hT
    have new : ObjOk X.prog X.w (upd H s.heap.objs.size (.tup [x, y])) h'' s.heap.objs.size (.tup [x, y]) :=
      ⟨by show 2 ≤ sizeLine; decide, [u, u2], .cons ru (.cons ru2 .nil), ⟨_, hT2, rfl, _, rfl⟩⟩
    have I1 : Inv X pins σ (upd H s.heap.objs.size (.tup [x, y])) { s with heap := h'' } :=
      I.turnedNew (t' := s.toks) (ch := [z, TI, TO, i1, i2]) (fun c o hb q => (sb.2 c (fun q' => hb (by simp [q']))).trans (hk c o (fun q' => hb (by simp [q'])) (fun q' => hb (by simp [q'])) (fun q' => hb (by simp [q'])) (fun q' => hb (by simp [q'])) q)) hf (Nat.le_refl _) new
    refine ⟨.ref s.heap.objs.size, _, I1, rfl, ⟨_, x, y, rfl, I.hok.fresh (Nat.le_refl _), rfl, fun l hl => by rw [I.list_inj hl hqx]; exact hx, fun l hl => by rw [I.list_inj hl hqy]; exact hy⟩, ⟨z'', ?_, ⟨u, u2, ?_⟩, ?_, ?_⟩, fun c hcm => ?_⟩
    · exact (sb.2 _ D.TIz).trans (hk _ _ D.TIz D.TITO D.TIi1 D.TIi2 hTI)
    · exact (sb.2 _ D.TOz).trans TO'
    · exact h1'.at fun o q => (sb.2 _ D.i1z).trans q
    · exact h2'.at fun o q => (sb.2 _ D.i2z).trans q
    · have hlt : c < s.heap.objs.size := by
        have e' : c = z ∨ c = TI ∨ c = TO ∨ c = i1 ∨ c = i2 := by simpa using hcm
        rcases e' with q | q | q | q | q
        · rw [q]; exact hzl
        · rw [q]; exact Heap.lt_size hTI
        · rw [q]; exact Heap.lt_size hTO
        · rw [q]; obtain ⟨_, e1, _⟩ := h1; exact Heap.lt_size e1
        · rw [q]; obtain ⟨_, e2, _⟩ := h2; exact Heap.lt_size e2
      rw [upd_ne (Nat.ne_of_lt hlt)]
      exact (hf c hcm).1
  done := by
    intro X hP hw hK hc i pins s σ H E I hf st hg
    subst hP hw hK
    obtain ⟨hz, hTI, ⟨x0, y0, hTO⟩, h1, h2⟩ := st
    obtain ⟨xs, ys, hqx, hqy, hend⟩ := hg
    obtain ⟨its, rv, p, _⟩ := I.list hqx
    obtain ⟨its2, rv2, p2, _⟩ := I.list hqy
    have l1 := rv.length
    have l2 := rv2.length
    have he1 : its.toArray[i]? = none := by have := hend.1; simp; omega
    have he2 : its2.toArray[i]? = none := by have := hend.2; simp; omega
    exact pyNext_zipS_end (I.ok.hd hc) D hz hTI hTO h1 h2 p.isList p2.isList he1 he2 fun h' hk => ⟨rfl, I.turnedL (t' := s.toks) (ch := [z, TI, TO, i1, i2]) (fun c o hb q =>
      hk c o (fun q' => hb (by simp [q'])) (fun q' => hb (by simp [q'])) (fun q' => hb (by simp [q'])) (fun q' => hb (by simp [q'])) q) hf⟩
  self := fun A i s Q E st h => pyIter_zipS st.1 h
theorem callWith_type_kwB {M : Model} {A : Around} {E : Value → Shared → Prop} {s : Shared} {pos : Pos} {id : String} {first : List Value} {args : List (Bool × Sem Value)} {keywords : List (Option Str × Sem Value)} {Q : Value → Shared → Prop}
    (hplain : args.any (·.1) = false) (hkw : keywords.any (·.1.isNone) = false)
    (h : wpAny M A (evalArgs (.type id) true args keywords) (fun a s₁ => wpAny M A (call (.type id) (first ++ a.pos) a.kw) Q E s₁) E s) :
    wpAny M A (callWith pos (.type id) first args keywords) Q E s := by
  unfold callWith
  refine wpAny_bind (wpAny_holding (wpAny_mono h (fun a s₁ h₁ => wpAny_bind (wpAny_standAt ?_)) fun _ _ x => x))
  simp only [hplain, hkw, Bool.or_false]
  refine wpAny_bind (wpAny_pure ?_)
  exact wpAny_bind (wpAny_mono h₁ (fun r s₂ hr => wpAny_bind (wpAny_holding (wpAny_point (wpAny_pure hr)))) fun _ _ x => x)
theorem callWith_typeK {M : Model} {A : Around} {E : Value → Shared → Prop} {s : Shared} {env : Env} {pos : Pos} {id : String} {e : Expr} {rest : List Expr} {kws : List Keyword} {Q : Value → Shared → Prop}
    (h : wpAny M A (spliced (backTo pos (starEach (e :: rest) env))) (fun vs s₁ => wpAny M A (evalAll ((backToKw pos (keywordEach kws env)).map (·.2)))
      (fun kvs s₂ => wpAny M A (call (.type id) vs (((backToKw pos (keywordEach kws env)).filterMap (·.1)).zip kvs)) Q E s₂) E s₁) E s)
    (he : backTo pos (starEach (e :: rest) env) = (false, eval e env) :: backTo pos (starEach rest env) := by rfl)
    (hplain : (backTo pos (starEach (e :: rest) env)).any (·.1) = false := by rfl)
    (hall : (backToKw pos (keywordEach kws env)).all (·.1.isSome) = true := by rfl)
    (hkw : (backToKw pos (keywordEach kws env)).any (·.1.isNone) = false := by rfl) :
    wpAny M A (callWith pos (.type id) [] (backTo pos (starEach (e :: rest) env)) (backToKw pos (keywordEach kws env))) Q E s := by
  refine callWith_type_kwB hplain hkw ?_
  rw [he] at h ⊢
  exact evalArgs_kwB hall h
def iZipS (K : PySem.W.Frag) (ta : TA) : TI := fun σ H R => ta σ H fun vs H1 => ∃ a b xs ys, vs = [.ref a, .ref b] ∧ SqL K H1 a xs ∧ SqL K H1 b ys ∧ R (ItzS K a b) H1
theorem pi_zipS {X : Cx} {e e2 : Expr} {ta : TA} {p pos tpos kp kpos : Pos} {j : Nat} {elts : List Expr} {kk : Nat} (hg : Gl X "zip") (hm : X.mg "zip" = none) (ha : PA X [e, e2] ta)
    (he : backTo pos (starEach [e, e2] X.env) = (false, eval e X.env) :: backTo pos (starEach [e2] X.env) := by rfl) (hpl : (backTo pos (starEach [e, e2] X.env)).any (·.1) = false := by rfl) :
    PI X (.Tuple elts kk tpos) (.Call (.Name "zip" p) [e, e2] [⟨some "strict", .Constant (.bool true) j kp, kpos⟩] pos) (iZipS X.K ta) := by
  refine ⟨fun pins s σ H R I h => ?_⟩
  refine wpAny_Call_Name_kw (ld_blt I hg hm PyProof.Rows.boot_zip ?_)
  refine callWith_typeK (thn (ha.run pos pins s σ H _ I h) fun us s1 ⟨vs, H1, I1, r1, q1⟩ => ?_) he hpl
  have kb : PK X [⟨some "strict", .Constant (.bool true) j kp, kpos⟩] _ := pk_cons (pe_bl (b := true)) pk_nil
  refine thn (kb.run pos pins s1 σ H1 (fun zs H2 => zs = [V.bl true] ∧ H2 = H1) I1 ⟨rfl, rfl⟩) fun ws s2 ⟨zs, H2, I2, r2, ez, eh⟩ => ?_
  subst ez eh
  obtain ⟨a, b, xs, ys, ex, hqx, hqy, q⟩ := q1
  subst ex
  cases r2 with
  | cons rw rr2 =>
    cases rr2
    cases rw
    cases r1 with
    | cons r rr =>
      cases rr with
      | cons r' rr =>
        cases rr
        cases r
        cases r'
        have fresh5 : ∀ c, c ∈ [s2.heap.objs.size + 4, s2.heap.objs.size + 2, s2.heap.objs.size + 3, s2.heap.objs.size, s2.heap.objs.size + 1] → FpOk X pins H2 c := fun c hcm => by
          have e' : c = s2.heap.objs.size + 4 ∨ c = s2.heap.objs.size + 2 ∨ c = s2.heap.objs.size + 3 ∨ c = s2.heap.objs.size ∨ c = s2.heap.objs.size + 1 := by simpa using hcm
          have hle : s2.heap.objs.size ≤ c := by
            rcases e' with z | z | z | z | z
            · rw [z]; exact Nat.le_add_right _ _
            · rw [z]; exact Nat.le_add_right _ _
            · rw [z]; exact Nat.le_add_right _ _
            · rw [z]; exact Nat.le_refl _
            · rw [z]; exact Nat.le_add_right _ _
          exact I2.fpOk hle (I2.hok.fresh hle)
        obtain ⟨its, rv, p1, _⟩ := I2.list hqx
        obtain ⟨its2, rv2, p2, _⟩ := I2.list hqy
        refine call_zipS p1.isList p2.isList fun h' hz hTI hTO h1 h2 hsz hk => pyIter_zipS hz ?_
        have I3 : Inv X pins σ H2 { s2 with heap := h' } := I2.kept (t' := s2.toks) hk
        exact ⟨s2.heap.objs.size + 4, [s2.heap.objs.size + 4, s2.heap.objs.size + 2, s2.heap.objs.size + 3, s2.heap.objs.size, s2.heap.objs.size + 1], _, _, H2, rfl, I3, turn_zipS (PySem.W.ktu_apart s2.heap.objs.size a b p1.lt p2.lt), ⟨hz, hTI, ⟨_, _, hTO⟩, h1, h2⟩, fresh5, q⟩
/-- zip(xs, ys, strict=True) of two lists of one length -/
def izipS (t : ZTA) : ZTI := fun ρ m Q E => t ρ m (fun xs m1 => match xs with
  | [.fl xs, .fl ys] => xs.length = ys.length ∧ Q ⟨xs.length, fun i => .tup [xs.getD i .non, ys.getD i .non], fun _ => True⟩ m1
  | _ => False) E
theorem r_izipS {X : Cx} {W : WX} {a b : Expr} {zl : ZTA} {p pos tpos kp kpos : Pos} {j : Nat} {elts : List Expr} {kk : Nat} (hm : X.mg "zip" = none) (ha : PA X [a, b] (LA X.K W zl)) (hg : Gl X "zip" := by rfl)
    (he : backTo pos (starEach [a, b] X.env) = (false, eval a X.env) :: backTo pos (starEach [b] X.env) := by rfl) (hpl : (backTo pos (starEach [a, b] X.env)).any (·.1) = false := by rfl) :
    PI X (.Tuple elts kk tpos) (.Call (.Name "zip" p) [a, b] [⟨some "strict", .Constant (.bool true) j kp, kpos⟩] pos) (LI X.K W (izipS zl)) := by
  refine pi_imp (pi_zipS hg hm ha he hpl) fun σ H Q ⟨F, ρ, m, Pi, Qz, Ez, hz, he, h, k, kx⟩ => ?_
  refine ⟨F, ρ, m, Pi, _, Ez, hz, he, h, fun xs m1 P1 v H1 l1 z1 r1 q1 => ?_, kx⟩
  dsimp only at q1
  split at q1
  · obtain ⟨v1, v2, rfl, r2, r3⟩ := reps2 r1
    obtain ⟨el, q1⟩ := q1
    cases r2 with
    | fl hs rs =>
      cases r3 with
      | fl hs2 rs2 =>
        rename_i xs ys a vs b ws
        refine ⟨_, _, _, _, rfl, z1.sub.sql hs, z1.sub.sql hs2, k _ m1 P1 _ H1 l1 z1 (fun F i m P' H l z _ => ⟨fun h => ?_, fun h => ⟨_, _, z.sub.sql (l.sql hs), z.sub.sql (l.sql hs2), ?_⟩⟩) q1⟩
        · have h1 : i < xs.length := h
          have h2 : i < ys.length := by omega
          obtain ⟨v, e, r⟩ := reps_getD (rs.mono l) h1
          obtain ⟨u, e2, r2⟩ := reps_getD (rs2.mono l) h2
          refine ⟨⟨_, _, v, u, z.sub.sql (l.sql hs), z.sub.sql (l.sql hs2), e, e2⟩, fun x H' hy => ?_⟩
          obtain ⟨T, y1, y2, rfl, nT, rfl, f1, f2⟩ := hy
          have g1 := f1 _ (z.sub.sql (l.sql hs))
          have g2 := f2 _ (z.sub.sql (l.sql hs2))
          rw [e] at g1
          rw [e2] at g2
          cases g1
          cases g2
          obtain ⟨z2, l2⟩ := z.newPi nT (.tup [v, u])
          exact ⟨_, l2, z2, .tup (.inl (.inl upd_same)) (.cons (r.mono l2) (.cons (r2.mono l2) .nil))⟩
        · rw [← rs.length, ← rs2.length]
          have h' : i = xs.length := h
          omega
  · exact q1.elim
end Zed
end
section
set_option maxHeartbeats 4000000
/-! Zed14: classes: attributes, methods, new instances. -/
namespace Zed
open PySem PySem.Spec PyProof.Rows L2
/-- an attribute read -/
def attrD (m : Mu) (f : Str) : D → Option (Addr × D)
  | .obj C fs => (fs.lookup f).map fun d => (C, d)
  | .ref p => match m p with
    | some (.ins C fs) => (fs.lookup f).map fun d => (C, d)
    | _ => none
  | _ => none
def zattr (cs : List Addr) (f : Str) (a : ZTE) : ZTE := fun ρ m Q E => a ρ m (fun x m1 => match attrD m1 f x with
  | some (C, d) => C ∈ cs ∧ Q d m1
  | none => False) E
/-- an instance of the class at C, without an attribute of this name -/
def isObj (C : Addr) (nm : Str) (m : Mu) : D → Prop
  | .obj C' fs => C' = C ∧ fs.lookup nm = none
  | .ref p => match m p with
    | some (.ins C' fs) => C' = C ∧ fs.lookup nm = none
    | _ => False
  | _ => False
def zmeth (C : Addr) (nm : Str) (c : ZSp) (a : ZTE) (t : ZTA) : ZTE := fun ρ m Q E => a ρ m (fun x m1 => isObj C nm m1 x ∧ t ρ m1 (fun xs m2 => c (x :: xs) m2 Q E) E) E
def zmethK (C : Addr) (nm : Str) (c : List D → ZSp) (a : ZTE) (t u : ZTA) : ZTE := fun ρ m Q E => a ρ m (fun x m1 => isObj C nm m1 x ∧ t ρ m1 (fun xs m2 => u ρ m2 (fun zs m3 => c (x :: xs) zs m3 Q E) E) E) E
/-- o.f = e -/
def putD (f : Str) (d : D) : List (Str × D) → List (Str × D)
  | [] => [(f, d)]
  | (g, v) :: r => if g = f then (f, d) :: r else (g, v) :: putD f d r
def sfld (cs : List Addr) (a e : ZTE) (f : Str) : ZTS := fun Dz ρ m => e ρ m (fun d m1 => a ρ m1 (fun x m2 => match x with
  | .ref p => match m2 p with
    | some (.ins C fs) => C ∈ cs ∧ fs.length < 1000 ∧ Dz.nx ρ (updM m2 p (.ins C (putD f d fs)))
    | _ => False
  | _ => False) (xat Dz ρ)) (xat Dz ρ)
/-- C(..): what __init__ (c) makes of a new instance; it changes no more -/
def mkC (C : Addr) (c : ZSp) : ZSp := fun ds m Q E => ∀ p, m p = none → c (.ref p :: ds) (updM m p (.ins C [])) (fun v m3 => v = .non ∧ ∃ fs, m3 p = some (.ins C fs) ∧ Q (.obj C fs) (dropM m3 p)) E
/-- .. it may change -/
def mkM (C : Addr) (c : ZSp) : ZSp := fun ds m Q E => ∀ p, m p = none → c (.ref p :: ds) (updM m p (.ins C [])) (fun v m3 => v = .non ∧ Q (.ref p) m3) E
structure ClF (K : PySem.W.Frag) (C : Addr) (f : Str) : Prop where
  cls : Cls K C
  no : NoAttr K C f
def GMeth (P : Program) (w : World) (K : PySem.W.Frag) (mg : Str → Option Value) (base : Heap) (k : Nat) (C : Addr) (nm : Str) (c : ZSp) : Prop :=
  Cls K C ∧ ∃ f fd ps dvs ds dd c0, Meth K C nm f ∧ FnOk P w K mg base (L2.CX P w) k f fd ps (SpOf K c0) ∧ Binds K fd ps ds ∧ Vals dvs ds ∧ Reps K (fun _ => none) dd dvs ∧ ∀ xs m Q E, c xs m Q E → c0 (xs ++ dd) m Q E
theorem GMeth.mono {P w K mg base j k C x c} (h : GMeth P w K mg base j C x c) (l : j ≤ k) : GMeth P w K mg base k C x c := by
  obtain ⟨h0, f, fd, ps, dvs, ds, dd, c0, h1, h3, h4⟩ := h
  exact ⟨h0, f, fd, ps, dvs, ds, dd, c0, h1, h3.mono l, h4⟩
/-- with n values by place (the instance first) and the words ks -/
def GMethK (P : Program) (w : World) (K : PySem.W.Frag) (mg : Str → Option Value) (base : Heap) (k : Nat) (C : Addr) (nm : Str) (n : Nat) (ks : List Str) (c : List D → ZSp) : Prop :=
  Cls K C ∧ ∃ f fd ps gv gV c0, Meth K C nm f ∧ FnOk P w K mg base (L2.CX P w) k f fd ps (SpOf K c0) ∧ KBn K fd ps n ks gv gV ∧
    ∀ Pi xs zs vs ws m Q E, Reps K Pi xs vs → Reps K Pi zs ws → c xs zs m Q E → xs.length = n ∧ zs.length = ks.length ∧ ∃ ds, Reps K Pi ds (gV vs ws) ∧ c0 ds m Q E
theorem GMethK.mono {P w K mg base j k C x n ks c} (h : GMethK P w K mg base j C x n ks c) (l : j ≤ k) : GMethK P w K mg base k C x n ks c := by
  obtain ⟨h0, f, fd, ps, gv, gV, c0, h1, h3, h4⟩ := h
  exact ⟨h0, f, fd, ps, gv, gV, c0, h1, h3.mono l, h4⟩
/-- the class by that name, made by place alone, and with n values (the instance first) and the words ks; c: its __init__'s promise -/
def GMake (P : Program) (w : World) (K : PySem.W.Frag) (mg : Str → Option Value) (base : Heap) (k : Nat) (x : Str) (C : Addr) (c : ZSp) : Prop :=
  ∃ f fd ps dvs ds dd c0, mg x = some (.ref C) ∧ Mk K C f ∧ FnOk P w K mg base (L2.CX P w) k f fd ps (SpOf K c0) ∧ Binds K fd ps ds ∧ Vals dvs ds ∧ Reps K (fun _ => none) dd dvs ∧ ∀ xs m Q E, c xs m Q E → c0 (xs ++ dd) m Q E
theorem GMake.mono {P w K mg base j k C x c} (h : GMake P w K mg base j x C c) (l : j ≤ k) : GMake P w K mg base k x C c := by
  obtain ⟨f, fd, ps, dvs, ds, dd, c0, h1, h2, h3, h4⟩ := h
  exact ⟨f, fd, ps, dvs, ds, dd, c0, h1, h2, h3.mono l, h4⟩
def GMakeK (P : Program) (w : World) (K : PySem.W.Frag) (mg : Str → Option Value) (base : Heap) (k : Nat) (x : Str) (C : Addr) (n : Nat) (ks : List Str) (c : List D → ZSp) : Prop :=
  ∃ f fd ps gv gV c0, mg x = some (.ref C) ∧ Mk K C f ∧ FnOk P w K mg base (L2.CX P w) k f fd ps (SpOf K c0) ∧ KBn K fd ps n ks gv gV ∧
    ∀ Pi xs zs vs ws m Q E, Reps K Pi xs vs → Reps K Pi zs ws → c xs zs m Q E → xs.length = n ∧ zs.length = ks.length ∧ ∃ ds, Reps K Pi ds (gV vs ws) ∧ c0 ds m Q E
theorem GMakeK.mono {P w K mg base j k C x n ks c} (h : GMakeK P w K mg base j x C n ks c) (l : j ≤ k) : GMakeK P w K mg base k x C n ks c := by
  obtain ⟨f, fd, ps, gv, gV, c0, h1, h2, h3, h4⟩ := h
  exact ⟨f, fd, ps, gv, gV, c0, h1, h2, h3.mono l, h4⟩
section
variable {K : PySem.W.Frag} {F : Hp} {m : Mu} {Pi P2 H H2 : Hp}
theorem attr_of_rep {f : Str} (z : Zm K F m Pi H) {d y : D} {v : V} {C : Addr} (r : Rep K Pi d v) (h : attrD m f d = some (C, y)) : ∃ a dx fs u, v = .ref a ∧ H a = some (.ins C dx fs) ∧ fs.lookup f = some u ∧ Rep K Pi y u := by
  cases r with
  | obj hp rs =>
    rename_i a C' dx kvs fs
    simp only [attrD] at h
    cases q : fs.lookup f with
    | none => rw [q] at h; cases h
    | some w =>
      rw [q] at h
      cases h
      obtain ⟨u, e, r⟩ := rs.lookup q
      exact ⟨a, dx, kvs, u, rfl, z.sub _ _ hp, e, r⟩
  | ref =>
    rename_i a
    simp only [attrD] at h
    cases e : m a with
    | none => rw [e] at h; cases h
    | some o =>
      rw [e] at h
      cases o with
      | ins C' fs =>
        dsimp only at h
        cases q : fs.lookup f with
        | none => rw [q] at h; cases h
        | some w =>
          rw [q] at h
          cases h
          obtain ⟨dx, kvs, hH, rs⟩ := z.ok a _ e
          obtain ⟨u, e2, r⟩ := rs.lookup q
          exact ⟨a, dx, kvs, u, rfl, hH, e2, r⟩
      | _ => cases h
  | _ => cases h
theorem obj_of_rep {nm : Str} {C : Addr} (z : Zm K F m Pi H) {d : D} {v : V} (r : Rep K Pi d v) (h : isObj C nm m d) : ∃ a dx fs, v = .ref a ∧ H a = some (.ins C dx fs) ∧ fs.lookup nm = none := by
  cases r with
  | obj hp rs =>
    rename_i a C' dx kvs fs
    obtain ⟨rfl, h⟩ := h
    exact ⟨a, dx, kvs, rfl, z.sub _ _ hp, rs.lookup_none h⟩
  | ref =>
    rename_i a
    simp only [isObj] at h
    cases e : m a with
    | none => rw [e] at h; exact h.elim
    | some o =>
      rw [e] at h
      cases o with
      | ins C' fs =>
        obtain ⟨rfl, h⟩ := h
        obtain ⟨dx, kvs, hH, rs⟩ := z.ok a _ e
        exact ⟨a, dx, kvs, rfl, hH, rs.lookup_none h⟩
      | _ => exact h.elim
  | _ => exact h.elim
theorem putD_rep {f : Str} {d : D} {v : V} (r : Rep K Pi d v) : ∀ {fs kvs}, RepF K Pi fs kvs → RepF K Pi (putD f d fs) (putF f v kvs)
  | _, _, .nil => .cons r .nil
  | (g, d') :: fs, (_, v') :: kvs, .cons r1 t => by
    show RepF K Pi (if g = f then (f, d) :: fs else (g, d') :: putD f d fs) (putF f v ((g, v') :: kvs))
    unfold putF
    by_cases e : g = f
    · rw [if_pos e]
      subst e
      first
        | (rw [if_pos rfl]; exact .cons r t)
        | (simp only [beq_self_eq_true, if_true]; exact .cons r t)
    · rw [if_neg e]
      first
        | (rw [if_neg e]; exact .cons r1 (putD_rep r t))
        | (rw [if_neg (by simpa using e)]; exact .cons r1 (putD_rep r t))
end
section
variable {X : Cx} {W : WX} {pos pos' apos p kpos : Pos} {e o : Expr} {es : List Expr} {zo ze : ZTE} {t u : ZTA} {c : ZSp} {c2 : List D → ZSp} {k n : Nat} {x nm f : Str} {ks : List Str} {kws : List Keyword} {C : Addr} {cs : List Addr}
theorem r_attr (hc : ∀ C ∈ cs, ClF X.K C f) (he : PE X o (LE X.K W zo)) (hb : attributeBase o f X.env (eval o X.env) = eval o X.env := by rfl) : PE X (.Attribute o f pos) (LE X.K W (zattr cs f zo)) := by
  refine pe_imp (pe_fld he hb) fun σ H Q ⟨F, ρ, m, Pi, Qz, Ez, hz, he, h, k, kx⟩ => ?_
  refine ⟨F, ρ, m, Pi, _, Ez, hz, he, h, fun x m1 P1 v H1 l1 z1 r1 q1 => ?_, kx⟩
  dsimp only at q1
  cases q : attrD m1 f x with
  | none => rw [q] at q1; exact q1.elim
  | some pr =>
    obtain ⟨C, y⟩ := pr
    rw [q] at q1
    obtain ⟨a, dx, fs, u, rfl, hH, hl, ry⟩ := attr_of_rep z1 r1 q
    exact ⟨a, C, dx, fs, u, rfl, hH, (hc C q1.1).cls, (hc C q1.1).no, hl, k _ m1 P1 _ H1 l1 z1 ry q1.2⟩
theorem r_fld (hc : ∀ C ∈ cs, ClF X.K C f) (ho : PE X o (LE X.K W zo)) (he : PE X e (LE X.K W ze)) (hs : swapsWith e (some (.Attribute o f pos')) pos.line X.env = pure false := by rfl) : PS X (.Assign [.Attribute o f pos'] e pos) (LS X.K W (sfld cs zo ze f)) := by
  refine ps_imp (ps_fld ho he hs) fun Dv σ H ⟨F, ρ, m, Pi, Dz, hz, he, h, kn, kr, kx⟩ => ?_
  refine ⟨F, ρ, m, Pi, _, _, hz, he, h, fun d m1 P1 v H1 l1 z1 r1 q1 => ?_, kx.at' he⟩
  refine ⟨F, ρ, m1, P1, _, _, z1, he.mono l1, q1, fun x m2 P2 w H2 l2 z2 r2 q2 => ?_, (kx.at' he).mono l1⟩
  cases r2 with
  | ref =>
    rename_i a
    dsimp only at q2
    cases q : m2 a with
    | none => rw [q] at q2; exact q2.elim
    | some o =>
      rw [q] at q2
      cases o with
      | ins C fs =>
        obtain ⟨hC, hl, q3⟩ := q2
        obtain ⟨dx, kvs, hH, rs⟩ := z2.ok a _ q
        refine ⟨a, C, dx, kvs, rfl, hH, (hc C hC).cls, (hc C hC).no, by rw [← rs.length]; exact hl, ?_⟩
        exact kn ρ _ P2 σ _ (l1.trans l2) (z2.setMu (u := .ins C (putD f d fs)) q ⟨dx, _, upd_same, putD_rep (r1.mono l2) rs⟩) (he.mono (l1.trans l2)) q3
      | _ => exact q2.elim
  | _ => exact q2.elim
theorem r_meth {pl : Sem Bool} (g : GMeth X.prog X.w X.K X.mg X.base k C nm c) (hr : Room k X.A) (tk : Takes X W) (ho : PE X o (LE X.K W zo)) (ha : PA X (e :: es) (LA X.K W t))
    (hst : starEach (e :: es) X.env = (false, eval e X.env) :: starEach es X.env := by rfl) (hpl : (backTo pos (starEach es X.env)).any (·.1) = false := by rfl)
    (ht : eval (.Call (.Attribute o nm apos) (e :: es) [] pos) X.env = (do
      let ov ← eval o X.env
      standAt apos.atName
      let (f, first) ← holding [ov] (getMethod ov nm pl)
      callWith pos f first (backTo pos (starEach (e :: es) X.env)) (backToKw pos (keywordEach [] X.env))) := by rfl) :
    PE X (.Call (.Attribute o nm apos) (e :: es) [] pos) (LE X.K W (zmeth C nm c zo t)) := by
  obtain ⟨hcl, f, fd, ps, dvs, ds, dd, c0, h1, h3, h4, h5, h6, h7⟩ := g
  refine ⟨fun pins s σ H Q I ⟨F, ρ, m, Pi, Qz, Ez, hz, hE, h, kq, kx⟩ => ?_⟩
  have hB : LE X.K W zo σ H (fun x H1 => ∃ a dx fs, x = .ref a ∧ H1 a = some (.ins C dx fs) ∧ fs.lookup nm = none ∧ LA X.K W t σ H1 (fun vs H2 => SpOf X.K c0 ((x :: vs) ++ dvs) H2 Q (WE W σ))) := by
    refine ⟨F, ρ, m, Pi, _, Ez, hz, hE, h, fun x m1 P1 v H1 l1 z1 r1 ⟨q0, q1⟩ => ?_, kx⟩
    obtain ⟨a, dx, fs, ev, hH, hl⟩ := obj_of_rep z1 r1 q0
    exact ⟨a, dx, fs, ev, hH, hl, F, ρ, m1, P1, _, Ez, z1, hE.mono l1, q1, fun xs m2 P2 vs H2 l2 z2 r2 q2 => ⟨(x :: xs) ++ dd, F, m2, P2, Qz, Ez, z2, Reps.append (.cons (r1.mono l2) r2) (h6.mono PLe.bot), h7 _ _ _ _ q2, kq.mono (l1.trans l2), kx.mono (l1.trans l2)⟩, kx.mono l1⟩
  refine PySem.W.methodCall_KW (pl := pl) (thn (ho.run pins s σ H _ I hB) fun u s1 ⟨x, H1, I1, rx, a, dx, fs, ex, ea, l, q⟩ => ?_) ht
  subst ex
  obtain rfl : u = Value.ref a := rx
  refine getmeth_ok I1 ea hcl h1 l ?_
  refine PySem.W.callWith_K (first := [.ref a]) (h₀ := X.base) I.ok.mod.kin h1.kp (thn (ha.run pos pins s1 σ H1 _ I1 q) fun us s2 ⟨vs, H2, I2, r, q2⟩ => ⟨I2.kIn, ?_⟩) hst hpl
  exact run_fnSD (E := WE W) (us := .ref a :: us) (vs := .ref a :: vs) h3 hr h4 h5 (passAt tk σ) I2 (.cons rfl r) q2
theorem r_meth0 {pl : Sem Bool} (g : GMeth X.prog X.w X.K X.mg X.base k C nm c) (hr : Room k X.A) (tk : Takes X W) (ho : PE X o (LE X.K W zo))
    (ht : eval (.Call (.Attribute o nm apos) [] [] pos) X.env = (do
      let ov ← eval o X.env
      standAt apos.atName
      let (f, first) ← holding [ov] (getMethod ov nm pl)
      callWith pos f first (backTo pos (starEach [] X.env)) (backToKw pos (keywordEach [] X.env))) := by rfl) :
    PE X (.Call (.Attribute o nm apos) [] [] pos) (LE X.K W (zmeth C nm c zo anil)) := by
  obtain ⟨hcl, f, fd, ps, dvs, ds, dd, c0, h1, h3, h4, h5, h6, h7⟩ := g
  refine ⟨fun pins s σ H Q I ⟨F, ρ, m, Pi, Qz, Ez, hz, hE, h, kq, kx⟩ => ?_⟩
  have hB : LE X.K W zo σ H (fun x H1 => ∃ a dx fs, x = .ref a ∧ H1 a = some (.ins C dx fs) ∧ fs.lookup nm = none ∧ SpOf X.K c0 ([x] ++ dvs) H1 Q (WE W σ)) := by
    refine ⟨F, ρ, m, Pi, _, Ez, hz, hE, h, fun x m1 P1 v H1 l1 z1 r1 ⟨q0, q1⟩ => ?_, kx⟩
    obtain ⟨a, dx, fs, ev, hH, hl⟩ := obj_of_rep z1 r1 q0
    exact ⟨a, dx, fs, ev, hH, hl, [x] ++ dd, F, m1, P1, Qz, Ez, z1, Reps.append (.cons r1 .nil) (h6.mono PLe.bot), h7 _ _ _ _ q1, kq.mono l1, kx.mono l1⟩
  refine PySem.W.methodCall_KW (pl := pl) (thn (ho.run pins s σ H _ I hB) fun u s1 ⟨x, H1, I1, rx, a, dx, fs, ex, ea, l, q⟩ => ?_) ht
  subst ex
  obtain rfl : u = Value.ref a := rx
  refine getmeth_ok I1 ea hcl h1 l ?_
  exact PySem.W.callWith_K0 (first := [.ref a]) I1.kIn h1.kp (run_fnSD (E := WE W) (us := [.ref a]) (vs := [.ref a]) h3 hr h4 h5 (passAt tk σ) I1 (.cons rfl .nil) q)
theorem run_kw {pins : List (Addr × Obj)} {σ : St} {H : Hp} {s : Shared} {Q : VK} {us ws : List Value} {vs zs : List V} {ps : List Str} {f : Addr} {fd : FuncData} {c0 : ZSp} {gv : List Value → List Value → List Value} {gV : List V → List V → List V} (tk : Takes X W) (hr : Room k X.A)
    (h3 : FnOk X.prog X.w X.K X.mg X.base (L2.CX X.prog X.w) k f fd ps (SpOf X.K c0)) (hb : KBn X.K fd ps n ks gv gV) (I : Inv X pins σ H s) (r1 : Vals vs us) (r2 : Vals zs ws) (l1 : vs.length = n) (l2 : zs.length = ks.length) (q : SpOf X.K c0 (gV vs zs) H Q (WE W σ)) :
    wpAny (model X.prog X.w) X.A (call (.ref f) us (ks.zip ws)) (EP X pins σ Q) X.xe s := by
  refine wpAny_call (codeAny_mono (h3.run X.A X.stack s H ⟨us, ks.zip ws⟩ (gv us ws) (gV vs zs) Q (WE W σ) hr I.env0 (hb.to s us ws I.kIn (r1.length.symm.trans l1) (r2.length.symm.trans l2)) (hb.rel r1 r2) q) fun r s' hq => ?_)
  match r, hq with
  | .error e, hq => exact passAt tk σ pins H s e s' I hq
  | .ok (.ret u), hq => exact I.after hq
  | .ok .next, hq => exact hq.elim
  | .ok .brk, hq => exact hq.elim
  | .ok .cont, hq => exact hq.elim
theorem r_methK {pl : Sem Bool} (g : GMethK X.prog X.w X.K X.mg X.base k C nm n ks c2) (hr : Room k X.A) (tk : Takes X W) (ho : PE X o (LE X.K W zo)) (ha : PA X (e :: es) (LA X.K W t)) (hkw : PK X kws (LA X.K W u))
    (hks : (backToKw pos (keywordEach kws X.env)).filterMap (·.1) = ks := by rfl) (hall : (backToKw pos (keywordEach kws X.env)).all (·.1.isSome) = true := by rfl)
    (he : starEach (e :: es) X.env = (false, eval e X.env) :: starEach es X.env := by rfl) (hpl : ((backTo pos (starEach (e :: es) X.env)).any (·.1) || (backToKw pos (keywordEach kws X.env)).any (·.1.isNone)) = false := by rfl)
    (ht : eval (.Call (.Attribute o nm apos) (e :: es) kws pos) X.env = (do
      let ov ← eval o X.env
      standAt apos.atName
      let (f, first) ← holding [ov] (getMethod ov nm pl)
      callWith pos f first (backTo pos (starEach (e :: es) X.env)) (backToKw pos (keywordEach kws X.env))) := by rfl) :
    PE X (.Call (.Attribute o nm apos) (e :: es) kws pos) (LE X.K W (zmethK C nm c2 zo t u)) := by
  obtain ⟨hcl, f, fd, ps, gv, gV, c0, h1, h3, hb, h5⟩ := g
  refine ⟨fun pins s σ H Q I ⟨F, ρ, m, Pi, Qz, Ez, hz, hE, h, kq, kx⟩ => ?_⟩
  have hB : LE X.K W zo σ H (fun x H1 => ∃ a dx fs, x = .ref a ∧ H1 a = some (.ins C dx fs) ∧ fs.lookup nm = none ∧ LA X.K W t σ H1 (fun vs H2 => LA X.K W u σ H2 fun ws H3 => ∃ l1 : (x :: vs).length = n, ∃ l2 : ws.length = ks.length, SpOf X.K c0 (gV (x :: vs) ws) H3 Q (WE W σ))) := by
    refine ⟨F, ρ, m, Pi, _, Ez, hz, hE, h, fun x m1 P1 v H1 l1 z1 r1 ⟨q0, q1⟩ => ?_, kx⟩
    obtain ⟨a, dx, fs, ev, hH, hl⟩ := obj_of_rep z1 r1 q0
    refine ⟨a, dx, fs, ev, hH, hl, F, ρ, m1, P1, _, Ez, z1, hE.mono l1, q1, fun xs m2 P2 vs H2 l2 z2 r2 q2 => ⟨F, ρ, m2, P2, _, Ez, z2, (hE.mono l1).mono l2, q2, fun zs m3 P3 ws H3 l3 z3 r3 q3 => ?_, (kx.mono l1).mono l2⟩, kx.mono l1⟩
    obtain ⟨e1, e2, ds, r4, q4⟩ := h5 P3 (x :: xs) zs (v :: vs) ws m3 Qz Ez (.cons ((r1.mono l2).mono l3) (r2.mono l3)) r3 q3
    refine ⟨by rw [← e1]; exact congrArg Nat.succ r2.length.symm, by rw [← r3.length]; exact e2, ds, F, m3, P3, Qz, Ez, z3, r4, q4, kq.mono ((l1.trans l2).trans l3), kx.mono ((l1.trans l2).trans l3)⟩
  refine PySem.W.methodCall_KW (pl := pl) (thn (ho.run pins s σ H _ I hB) fun u s1 ⟨x, H1, I1, rx, a, dx, fs, ex, ea, l, q⟩ => ?_) ht
  subst ex
  obtain rfl : u = Value.ref a := rx
  refine getmeth_ok I1 ea hcl h1 l ?_
  refine PySem.W.callWith_KW (first := [.ref a]) (h₀ := X.base) I.ok.mod.kin h1.kp hall (thn (ha.run pos pins s1 σ H1 _ I1 q) fun us s2 hs2 => ?_) hpl he
  obtain ⟨vs, H2, I2, r, q2⟩ := hs2
  refine thn (hkw.run pos pins s2 σ H2 _ I2 q2) fun ws s3 hs3 => ?_
  obtain ⟨zs, H3, I3, r3, l1, l2, q3⟩ := hs3
  refine ⟨I3.kIn, ?_⟩
  rw [hks]
  exact run_kw (us := .ref a :: us) (vs := .ref a :: vs) tk hr h3 hb I3 (.cons rfl r) r3 l1 l2 q3
end
end Zed
end
section
set_option maxHeartbeats 4000000
/-! Zed15: new instances; a written dict read; a local that is a def. -/
namespace Zed
open PySem PySem.Spec PyProof.Rows L2
theorem Zm.more {K : PySem.W.Frag} {F : Hp} {m : Mu} {Pi H : Hp} (z : Zm K F m Pi H) {p : Addr} (hp : H p = none) (o : HO) : Zm K F m Pi (upd H p o) := by
  refine ⟨fun b u e => ?_, fun b u e => ?_, z.fdis, z.fpd, z.dis, fun b u e => ?_⟩
  · rw [upd_ne (ne_of_none (z.sub b u e) hp)]; exact z.sub b u e
  · rw [upd_ne (ne_of_none (z.frm b u e) hp)]; exact z.frm b u e
  · have k := z.ok b u e
    have hb : b ≠ p := fun q => by subst q; exact k.isSome hp
    exact k.heap (upd_ne hb)
/-- the level is the call's: one above its __init__'s -/
def GMk (P : Program) (w : World) (K : PySem.W.Frag) (mg : Str → Option Value) (base : Heap) (k : Nat) (x : Str) (C : Addr) (c : ZSp) : Prop := ∃ j, j + 1 ≤ k ∧ GMake P w K mg base j x C c
theorem GMk.mono {P w K mg base j k x C c} (h : GMk P w K mg base j x C c) (l : j ≤ k) : GMk P w K mg base k x C c := by
  obtain ⟨i, h1, h2⟩ := h
  exact ⟨i, Nat.le_trans h1 l, h2⟩
def GMkK (P : Program) (w : World) (K : PySem.W.Frag) (mg : Str → Option Value) (base : Heap) (k : Nat) (x : Str) (C : Addr) (n : Nat) (ks : List Str) (c : List D → ZSp) : Prop := ∃ j, j + 1 ≤ k ∧ GMakeK P w K mg base j x C n ks c
theorem GMkK.mono {P w K mg base j k x C n ks c} (h : GMkK P w K mg base j x C n ks c) (l : j ≤ k) : GMkK P w K mg base k x C n ks c := by
  obtain ⟨i, h1, h2⟩ := h
  exact ⟨i, Nat.le_trans h1 l, h2⟩
/-- with words: c tells of the instance's place, the values, the words' values -/
def mkCK (C : Addr) (c : List D → ZSp) : List D → ZSp := fun ds zs m Q E => ∀ p, m p = none → c (.ref p :: ds) zs (updM m p (.ins C [])) (fun v m3 => v = .non ∧ ∃ fs, m3 p = some (.ins C fs) ∧ Q (.obj C fs) (dropM m3 p)) E
def mkMK (C : Addr) (c : List D → ZSp) : List D → ZSp := fun ds zs m Q E => ∀ p, m p = none → c (.ref p :: ds) zs (updM m p (.ins C [])) (fun v m3 => v = .non ∧ Q (.ref p) m3) E
section
variable {X : Cx} {W : WX}
theorem make_run {pins : List (Addr × Obj)} {σ : St} {H : Hp} {s : Shared} {Q : VK} {k : Nat} {f C : Addr} {fd : FuncData} {ps : List Str} {sp : Sp} {args : Args} {us : List Value} {args1 : List Value} {kw : List (Str × Value)} {vs : List V} (M : Mk X.K C f) (F : FnOk X.prog X.w X.K X.mg X.base (L2.CX X.prog X.w) k f fd ps sp) (hr : Room (k + 1) X.A) (tk : Takes X W)
    (I : Inv X pins σ H s) (hb : ∀ s2 : Shared, X.K.In s2.heap → BindsTo s2 fd ⟨Value.ref (s.heap.objs.size + 1) :: args1, kw⟩ (ps.zip us)) (r : Vals vs us)
    (h : sp vs (upd (upd H s.heap.objs.size (.own (s.heap.objs.size + 1))) (s.heap.objs.size + 1) (.ins C s.heap.objs.size [])) (fun v H2 => v = .non ∧ Q (.ref (s.heap.objs.size + 1)) H2) (WE W σ)) :
    wpAny (model X.prog X.w) X.A (call (.ref C) args1 kw) (EP X pins σ Q) X.xe s := by
  have I2 := Inv.made (C := C) I
  refine wpAny_call (make_map (f := f) I.kIn M.makes M.init (beq_iff_eq.mp M.fn) (codeAny_mono (F.run _ X.stack _ _ ⟨Value.ref (s.heap.objs.size + 1) :: args1, kw⟩ us vs _ (WE W σ) (hr.make C args1 kw)
    (I2.env0.make C args1 kw) (hb _ I2.kIn) r h) fun r s' hq' => ?_))
  cases r with
  | error e => exact passAt tk σ pins _ _ e s' I2 hq'
  | ok fl =>
    cases fl with
    | ret u =>
      obtain ⟨v, H', I3, rv, ev, q3⟩ := I2.after hq'
      subst ev
      exact ⟨rv, ⟨V.ref (s.heap.objs.size + 1), H', I3, rfl, q3⟩⟩
    | next => exact False.elim hq'
    | brk => exact False.elim hq'
    | cont => exact False.elim hq'
/-- what __init__ leaves, sealed or not -/
theorem made_seal {K : PySem.W.Frag} {F Pi : Hp} {C x : Addr} {Qz : QE} {Q : VK} (k : ContE K F Pi Qz Q) : ContE K F Pi (fun v m3 => v = .non ∧ ∃ fs, m3 x = some (.ins C fs) ∧ Qz (.obj C fs) (dropM m3 x)) (fun v H2 => v = .non ∧ Q (.ref x) H2) := by
  intro d m' P' v H' l z r ⟨ed, fs, hm, q⟩
  subst ed
  cases r
  refine ⟨rfl, ?_⟩
  obtain ⟨dx, kvs, hH, rs⟩ := z.ok x _ hm
  obtain ⟨z2, l2⟩ := z.seal hm hH
  exact k _ _ _ _ _ (l.trans l2) z2 (.obj upd_same (rs.mono l2)) q
theorem made_open {K : PySem.W.Frag} {F Pi : Hp} {x : Addr} {Qz : QE} {Q : VK} (k : ContE K F Pi Qz Q) : ContE K F Pi (fun v m3 => v = .non ∧ Qz (.ref x) m3) (fun v H2 => v = .non ∧ Q (.ref x) H2) := by
  intro d m' P' v H' l z r ⟨ed, q⟩
  subst ed
  cases r
  exact ⟨rfl, k _ _ _ _ _ l z .ref q⟩
variable {pos p : Pos} {e : Expr} {es : List Expr} {t u : ZTA} {c : ZSp} {c2 : List D → ZSp} {k n : Nat} {x : Str} {ks : List Str} {kws : List Keyword} {C : Addr}
theorem made_zm {K : PySem.W.Frag} {F : Hp} {m : Mu} {Pi H : Hp} (z : Zm K F m Pi H) {a dx : Addr} (ha : H a = none) (hd : H dx = none) (hn : dx ≠ a) : Zm K F (updM m a (.ins C [])) Pi (upd (upd H dx (.own a)) a (.ins C dx [])) :=
  (z.more hd (.own a)).newMu (u := .ins C []) (by rw [upd_ne hn.symm]; exact ha) ⟨dx, [], upd_same, .nil⟩
theorem r_makeX (G : ZSp → QE → Prop) (g : GMk X.prog X.w X.K X.mg X.base k x C c) (hr : Room k X.A) (tk : Takes X W) (ha : PA X (e :: es) (LA X.K W t)) (cc : ZSp)
    (hcc : ∀ {K : PySem.W.Frag} {F Pi : Hp} {ds : List D} {m : Mu} {Qz : QE} {Ez : QX} {Q : VK} {a : Addr}, m a = none → cc ds m Qz Ez → ContE K F Pi Qz Q → ∃ Qz2, c (.ref a :: ds) (updM m a (.ins C [])) Qz2 Ez ∧ ContE K F Pi Qz2 (fun v H2 => v = .non ∧ Q (.ref a) H2))
    (hg : Gl X x := by rfl) (hdb : (x == ("__debug__" : Str)) = false := by decide)
    (he : starEach (e :: es) X.env = (false, eval e X.env) :: starEach es X.env := by rfl) (hpl : (backTo pos (starEach es X.env)).any (·.1) = false := by rfl) : PE X (.Call (.Name x p) (e :: es) [] pos) (LE X.K W (zcall cc t)) := by
  obtain ⟨j, hj, f, fd, ps, dvs, ds, dd, c0, h1, M, h3, h4, h5, h6, h7⟩ := g
  refine ⟨fun pins s σ H Q I ⟨F, ρ, m, Pi, Qz, Ez, hz, hE, h, kq, kx⟩ => ?_⟩
  have hB : LA X.K W t σ H (fun vs H1 => ∀ a dx, H1 a = none → H1 dx = none → dx ≠ a → SpOf X.K c0 ((V.ref a :: vs) ++ dvs) (upd (upd H1 dx (.own a)) a (.ins C dx [])) (fun v H2 => v = .non ∧ Q (.ref a) H2) (WE W σ)) := by
    refine ⟨F, ρ, m, Pi, _, Ez, hz, hE, h, fun xs m1 P1 vs H1 l1 z1 r1 q1 => fun a dx na nd hn => ?_, kx⟩
    obtain ⟨Qz2, q2, k2⟩ := hcc (K := X.K) (F := F) (Pi := P1) (z1.free na).1 q1 (kq.mono l1)
    exact ⟨(.ref a :: xs) ++ dd, F, _, P1, Qz2, Ez, made_zm z1 na nd hn, Reps.append (.cons .ref r1) (h6.mono PLe.bot), h7 _ _ _ _ q2, k2, kx.mono l1⟩
  refine wpAny_Call_Name_kw (ld_glob I hg h1 ?_ hdb)
  refine PySem.W.callWith_K (h₀ := X.base) I.ok.mod.kin M.kp (thn (ha.run pos pins s σ H _ I hB) fun us s1 ⟨vs, H1, I1, r, q⟩ => ⟨I1.kIn, ?_⟩) he hpl
  have q' := q (s1.heap.objs.size + 1) s1.heap.objs.size (I1.hok.fresh (Nat.le_succ _)) (I1.hok.fresh (Nat.le_refl _)) (Nat.ne_of_lt (Nat.lt_succ_self _))
  have r2 : Vals ((V.ref (s1.heap.objs.size + 1) :: vs) ++ dvs) ((Value.ref (s1.heap.objs.size + 1) :: us) ++ ds) := Vals.append (.cons rfl r) h5
  have hl : ((Value.ref (s1.heap.objs.size + 1) :: us) ++ ds).length = ps.length := by rw [← r2.length]; exact h3.len _ _ _ _ q'
  exact make_run (args := ⟨[], []⟩) M h3 (hr.mono hj) tk I1 (fun s2 hk => h4 s2 (Value.ref (s1.heap.objs.size + 1) :: us) hk hl) r2 q'
/-- C(e, ..), an instance that changes no more -/
theorem r_make (g : GMk X.prog X.w X.K X.mg X.base k x C c) (hr : Room k X.A) (tk : Takes X W) (ha : PA X (e :: es) (LA X.K W t)) (hg : Gl X x := by rfl) (hdb : (x == ("__debug__" : Str)) = false := by decide)
    (he : starEach (e :: es) X.env = (false, eval e X.env) :: starEach es X.env := by rfl) (hpl : (backTo pos (starEach es X.env)).any (·.1) = false := by rfl) : PE X (.Call (.Name x p) (e :: es) [] pos) (LE X.K W (zcall (mkC C c) t)) :=
  r_makeX (fun _ _ => True) g hr tk ha (mkC C c) (fun hn hq k => ⟨_, hq _ hn, made_seal k⟩) hg hdb he hpl
theorem r_makeM (g : GMk X.prog X.w X.K X.mg X.base k x C c) (hr : Room k X.A) (tk : Takes X W) (ha : PA X (e :: es) (LA X.K W t)) (hg : Gl X x := by rfl) (hdb : (x == ("__debug__" : Str)) = false := by decide)
    (he : starEach (e :: es) X.env = (false, eval e X.env) :: starEach es X.env := by rfl) (hpl : (backTo pos (starEach es X.env)).any (·.1) = false := by rfl) : PE X (.Call (.Name x p) (e :: es) [] pos) (LE X.K W (zcall (mkM C c) t)) :=
  r_makeX (fun _ _ => True) g hr tk ha (mkM C c) (fun hn hq k => ⟨_, hq _ hn, made_open k⟩) hg hdb he hpl
theorem r_makeKX (g : GMkK X.prog X.w X.K X.mg X.base k x C (n + 1) ks c2) (hr : Room k X.A) (tk : Takes X W) (ha : PA X (e :: es) (LA X.K W t)) (hkw : PK X kws (LA X.K W u)) (cc : List D → ZSp)
    (hcc : ∀ {K : PySem.W.Frag} {F Pi : Hp} {ds zs : List D} {m : Mu} {Qz : QE} {Ez : QX} {Q : VK} {a : Addr}, m a = none → cc ds zs m Qz Ez → ContE K F Pi Qz Q → ∃ Qz2, c2 (.ref a :: ds) zs (updM m a (.ins C [])) Qz2 Ez ∧ ContE K F Pi Qz2 (fun v H2 => v = .non ∧ Q (.ref a) H2))
    (hks : (backToKw pos (keywordEach kws X.env)).filterMap (·.1) = ks := by rfl) (hall : (backToKw pos (keywordEach kws X.env)).all (·.1.isSome) = true := by rfl)
    (hg : Gl X x := by rfl) (hdb : (x == ("__debug__" : Str)) = false := by decide) (he : starEach (e :: es) X.env = (false, eval e X.env) :: starEach es X.env := by rfl)
    (hpl : ((backTo pos (starEach (e :: es) X.env)).any (·.1) || (backToKw pos (keywordEach kws X.env)).any (·.1.isNone)) = false := by rfl) : PE X (.Call (.Name x p) (e :: es) kws pos) (LE X.K W (zcallK cc t u)) := by
  obtain ⟨j, hj, f, fd, ps, gv, gV, c0, h1, M, h3, hb, h5⟩ := g
  refine ⟨fun pins s σ H Q I ⟨F, ρ, m, Pi, Qz, Ez, hz, hE, h, kq, kx⟩ => ?_⟩
  have hB : LA X.K W t σ H (fun vs H1 => LA X.K W u σ H1 fun ws H2 => ∀ a dx, H2 a = none → H2 dx = none → dx ≠ a → ∃ l1 : (V.ref a :: vs).length = n + 1, ∃ l2 : ws.length = ks.length,
      SpOf X.K c0 (gV (V.ref a :: vs) ws) (upd (upd H2 dx (.own a)) a (.ins C dx [])) (fun v H2 => v = .non ∧ Q (.ref a) H2) (WE W σ)) := by
    refine ⟨F, ρ, m, Pi, _, Ez, hz, hE, h, fun xs m1 P1 vs H1 l1 z1 r1 q1 => ⟨F, ρ, m1, P1, _, Ez, z1, hE.mono l1, q1, fun zs m2 P2 ws H2 l2 z2 r2 q2 => fun a dx na nd hn => ?_, kx.mono l1⟩, kx⟩
    obtain ⟨Qz2, q3, k2⟩ := hcc (K := X.K) (F := F) (Pi := P2) (z2.free na).1 q2 (kq.mono (l1.trans l2))
    obtain ⟨e1, e2, ds, r4, q4⟩ := h5 P2 (.ref a :: xs) zs (.ref a :: vs) ws _ Qz2 Ez (.cons .ref (r1.mono l2)) r2 q3
    exact ⟨by rw [← e1]; exact congrArg Nat.succ r1.length.symm, by rw [← r2.length]; exact e2, ds, F, _, P2, Qz2, Ez, made_zm z2 na nd hn, r4, q4, k2, kx.mono (l1.trans l2)⟩
  refine wpAny_Call_Name_kw (ld_glob I hg h1 ?_ hdb)
  refine PySem.W.callWith_KW (h₀ := X.base) I.ok.mod.kin M.kp hall (thn (ha.run pos pins s σ H _ I hB) fun us s1 hs1 => ?_) hpl he
  obtain ⟨vs, H1, I1, r1, q1⟩ := hs1
  refine thn (hkw.run pos pins s1 σ H1 _ I1 q1) fun ws s2 hs2 => ?_
  obtain ⟨zs, H2, I2, r2, q2⟩ := hs2
  refine ⟨I2.kIn, ?_⟩
  rw [hks]
  obtain ⟨l1, l2, q3⟩ := q2 (s2.heap.objs.size + 1) s2.heap.objs.size (I2.hok.fresh (Nat.le_succ _)) (I2.hok.fresh (Nat.le_refl _)) (Nat.ne_of_lt (Nat.lt_succ_self _))
  have rr : Vals (V.ref (s2.heap.objs.size + 1) :: vs) (Value.ref (s2.heap.objs.size + 1) :: us) := .cons rfl r1
  exact make_run (args := ⟨[], []⟩) M h3 (hr.mono hj) tk I2 (fun s3 hk => hb.to s3 (Value.ref (s2.heap.objs.size + 1) :: us) ws hk (rr.length.symm.trans l1) (r2.length.symm.trans l2)) (hb.rel rr r2) q3
theorem r_makeK (g : GMkK X.prog X.w X.K X.mg X.base k x C (n + 1) ks c2) (hr : Room k X.A) (tk : Takes X W) (ha : PA X (e :: es) (LA X.K W t)) (hkw : PK X kws (LA X.K W u))
    (hks : (backToKw pos (keywordEach kws X.env)).filterMap (·.1) = ks := by rfl) (hall : (backToKw pos (keywordEach kws X.env)).all (·.1.isSome) = true := by rfl)
    (hg : Gl X x := by rfl) (hdb : (x == ("__debug__" : Str)) = false := by decide) (he : starEach (e :: es) X.env = (false, eval e X.env) :: starEach es X.env := by rfl)
    (hpl : ((backTo pos (starEach (e :: es) X.env)).any (·.1) || (backToKw pos (keywordEach kws X.env)).any (·.1.isNone)) = false := by rfl) : PE X (.Call (.Name x p) (e :: es) kws pos) (LE X.K W (zcallK (mkCK C c2) t u)) :=
  r_makeKX g hr tk ha hkw (mkCK C c2) (fun hn hq k => ⟨_, hq _ hn, made_seal k⟩) hks hall hg hdb he hpl
end
/-! ### a written dict, by texts; a local that is a def -/
/-- the dict by that name: what stands at these keys -/
def GDict (K : PySem.W.Frag) (w : World) (mg : Str → Option Value) (x : Str) (tab : List (Str × D)) : Prop := ∃ a, mg x = some (.ref a) ∧ ∀ s d, tab.lookup s = some d → ∃ v, KDct K w a s v ∧ Rep K (fun _ => none) d v
def zdget (tab : List (Str × D)) (a : ZTE) : ZTE := fun ρ m Q E => a ρ m (fun x m1 => match x with
  | .str s => match tab.lookup s with
    | some d => Q d m1
    | none => False
  | _ => False) E
def GHeld (P : Program) (w : World) (K : PySem.W.Frag) (mg : Str → Option Value) (base : Heap) (k : Nat) (f : Addr) (c : ZSp) : Prop :=
  ∃ fd ps dvs ds dd c0, PySem.W.keepIn K (.ref f) = true ∧ FnOk P w K mg base (L2.CX P w) k f fd ps (SpOf K c0) ∧ Binds K fd ps ds ∧ Vals dvs ds ∧ Reps K (fun _ => none) dd dvs ∧ ∀ xs m Q E, c xs m Q E → c0 (xs ++ dd) m Q E
theorem GHeld.mono {P w K mg base j k f c} (h : GHeld P w K mg base j f c) (l : j ≤ k) : GHeld P w K mg base k f c := by
  obtain ⟨fd, ps, dvs, ds, dd, c0, h1, h2, h3⟩ := h
  exact ⟨fd, ps, dvs, ds, dd, c0, h1, h2.mono l, h3⟩
def zcallL (i : Nat) (cs : List (Addr × ZSp)) (t : ZTA) : ZTE := fun ρ m Q E => match ρ[i]? with
  | some (some (.ref f)) => ∃ c, (f, c) ∈ cs ∧ t ρ m (fun xs m1 => c xs m1 Q E) E
  | _ => False
section
variable {X : Cx} {W : WX} {pos p p1 : Pos} {e : Expr} {es : List Expr} {t : ZTA} {ze : ZTE} {k : Nat} {x nm : Str} {tab : List (Str × D)} {cs : List (Addr × ZSp)}
theorem r_dget (g : GDict X.K X.w X.mg nm tab) (he : PE X e (LE X.K W ze)) (hg : Gl X nm := by rfl) (hd : (nm == ("__debug__" : Str)) = false := by decide) (hs : PlainIx e := by exact fun _ _ => rfl) : PE X (.Subscript (.Name nm p) e pos) (LE X.K W (zdget tab ze)) := by
  obtain ⟨a, g1, g2⟩ := g
  refine pe_imp (pe_ix ix_kdict (pe_glob (v := .ref a) hg g1 rfl hd) he hs) fun σ H Q ⟨F, ρ, m, Pi, Qz, Ez, hz, he, h, k, kx⟩ => ?_
  refine ⟨F, ρ, m, Pi, _, Ez, hz, he, h, fun x m1 P1 v H1 l1 z1 r1 q1 => ?_, kx⟩
  cases r1 with
  | str =>
    rename_i s
    dsimp only at q1
    cases q : tab.lookup s with
    | none => rw [q] at q1; exact q1.elim
    | some d =>
      rw [q] at q1
      obtain ⟨v, kd, rv⟩ := g2 s d q
      exact ⟨a, s, v, rfl, rfl, kd, k _ m1 P1 _ H1 l1 z1 (rv.mono PLe.bot) q1⟩
  | _ => exact q1.elim
theorem r_callL (i : Nat) (g : ∀ pr ∈ cs, GHeld X.prog X.w X.K X.mg X.base k pr.1 pr.2) (hr : Room k X.A) (tk : Takes X W) (ha : PA X (e :: es) (LA X.K W t)) (hN : X.N[i]? = some x := by rfl) (hv : Vis X.env.scope x := by first | exact Or.inl rfl | exact Or.inr (Or.inl rfl) | exact Or.inr (Or.inr rfl))
    (hdb : (x == ("__debug__" : Str)) = false := by decide) (hcd : (x == ("__classdict__" : Str)) = false := by decide)
    (he : starEach (e :: es) X.env = (false, eval e X.env) :: starEach es X.env := by rfl) (hpl : (backTo pos (starEach es X.env)).any (·.1) = false := by rfl) : PE X (.Call (.Name x p) (e :: es) [] pos) (LE X.K W (zcallL i cs t)) := by
  refine ⟨fun pins s σ H Q I ⟨F, ρ, m, Pi, Qz, Ez, hz, hE, h, kq, kx⟩ => ?_⟩
  unfold zcallL at h
  split at h
  · rename_i f hf
    obtain ⟨c, hc, h⟩ := h
    obtain ⟨fd, ps, dvs, ds, dd, c0, h2, h3, h4, h5, h6, h7⟩ := g _ hc
    obtain ⟨v, hσ, rv⟩ := hE.2 i _ hf
    cases rv
    have hB : LA X.K W t σ H (fun vs H1 => SpOf X.K c0 (vs ++ dvs) H1 Q (WE W σ)) :=
      ⟨F, ρ, m, Pi, _, Ez, hz, hE, h, fun xs m1 P1 vs H1 l1 z1 r1 q1 => ⟨xs ++ dd, F, m1, P1, Qz, Ez, z1, Reps.append r1 (h6.mono PLe.bot), h7 _ _ _ _ q1, kq.mono l1, kx.mono l1⟩, kx⟩
    refine wpAny_Call_Name_kw (thn ((pe_var (pos := p) hN hv hdb hcd).run pins s σ H (fun v H1 => v = .ref f ∧ H1 = H) I ⟨.ref f, hσ, rfl, rfl⟩) fun u s1 ⟨v, H1, I1, r1, q1⟩ => ?_)
    obtain ⟨rfl, rfl⟩ := q1
    cases r1
    refine PySem.W.callWith_K (h₀ := X.base) I.ok.mod.kin h2 (thn (ha.run pos pins s1 σ _ _ I1 hB) fun us s2 ⟨vs, H2, I2, r, q⟩ => ⟨I2.kIn, ?_⟩) he hpl
    exact run_fnSD (E := WE W) h3 hr h4 h5 (passAt tk σ) I2 r q
  · exact h.elim
end
/-! ### from a def's promise to a method's, a class's, a held one's -/
section
variable {P : Program} {w : World} {K : PySem.W.Frag} {mg : Str → Option Value} {base : Heap} {k n : Nat} {x qual nm : Str} {args : Arguments} {body : List Stmt} {scope : Scope} {f C : Addr} {fd : FuncData} {ps : List Str} {c c0 : ZSp}
theorem m_mk (hc : Cls K C) (hm : Meth K C nm f) (F : FunD K x qual args body scope [] [] f fd) (ok : FnOk P w K mg base (L2.CX P w) k f fd ps (SpOf K c))
    (h : ∀ (kV doc pm : Value) (an : Option Addr) (cdv ct : Value) (us : List Value), us.length = ps.length → bindArgs (PySem.W.fnOf x qual args body scope .none kV doc pm an cdv ct) ⟨us, []⟩ = pure (ps.zip us)) : GMeth P w K mg base k C nm c :=
  ⟨hc, f, fd, ps, [], [], [], c, hm, ok, F.bindsN h, .nil, .nil, fun xs m Q E h => by rw [List.append_nil]; exact h⟩
theorem m_mkD {kws : List (Str × V)} {dd : List D} (hc : Cls K C) (hm : Meth K C nm f) (F : FunD K x qual args body scope [] kws f fd) (ok : FnOk P w K mg base (L2.CX P w) k f fd ps (SpOf K c0)) (n : Nat) (hk : kws ≠ []) (hn : n + kws.length = ps.length) (hd : Reps K (fun _ => none) dd (kws.map (·.2)))
    (h : ∀ (D : Addr) (doc pm : Value) (an : Option Addr) (cdv ct : Value) (us ks : List Value), us.length = n → ks.length = kws.length →
      KwChain D ((kws.map (·.1)).zip ks) (bindArgs (PySem.W.fnOf x qual args body scope .none (.ref D) doc pm an cdv ct) ⟨us, []⟩) (ps.zip (us ++ ks))) : GMeth P w K mg base k C nm (defC c0 dd) := by
  obtain ⟨ds, hv, hb⟩ := F.binds0 n hk hn h
  exact ⟨hc, f, fd, ps, _, ds, dd, c0, hm, ok, hb, hv, hd, fun xs m Q E h => h⟩
theorem m_mkK {kws : List (Str × V)} (hc : Cls K C) (hm : Meth K C nm f) (F : FunD K x qual args body scope [] kws f fd) (ok : FnOk P w K mg base (L2.CX P w) k f fd ps (SpOf K c0)) (n : Nat) (ks : List Str) (hk : kws ≠ [])
    (h : ∀ (D : Addr) (doc pm : Value) (an : Option Addr) (cdv ct : Value) (us ws : List Value), us.length = n → ws.length = ks.length →
      bindArgs (PySem.W.fnOf x qual args body scope .none (.ref D) doc pm an cdv ct) ⟨us, ks.zip ws⟩ = pure (ps.zip (us ++ ws))) : GMethK P w K mg base k C nm n ks (kwC c0 n ks.length) := by
  obtain ⟨mv, hb⟩ := F.kbinds0 n ks [] (fun us _ ws => us ++ ws) hk (fun q hq => by cases hq) (fun a _ c => a.append c) fun D doc pm an cdv ct us mv ws h1 _ h2 => h D doc pm an cdv ct us ws h1 h2
  exact ⟨hc, f, fd, ps, _, _, c0, hm, ok, hb, fun Pi xs zs vs ws m Q E r1 r2 h => ⟨h.1, h.2.1, xs ++ zs, r1.append r2, h.2.2⟩⟩
theorem k_mk (gx : mg x = some (.ref C)) (M : Mk K C f) (F : FunD K nm qual args body scope [] [] f fd) (ok : FnOk P w K mg base (L2.CX P w) k f fd ps (SpOf K c))
    (h : ∀ (kV doc pm : Value) (an : Option Addr) (cdv ct : Value) (us : List Value), us.length = ps.length → bindArgs (PySem.W.fnOf nm qual args body scope .none kV doc pm an cdv ct) ⟨us, []⟩ = pure (ps.zip us)) : GMk P w K mg base (k + 1) x C c :=
  ⟨k, Nat.le_refl _, f, fd, ps, [], [], [], c, gx, M, ok, F.bindsN h, .nil, .nil, fun xs m Q E h => by rw [List.append_nil]; exact h⟩
theorem k_mkD {kws : List (Str × V)} {dd : List D} (gx : mg x = some (.ref C)) (M : Mk K C f) (F : FunD K nm qual args body scope [] kws f fd) (ok : FnOk P w K mg base (L2.CX P w) k f fd ps (SpOf K c0)) (n : Nat) (hk : kws ≠ []) (hn : n + kws.length = ps.length) (hd : Reps K (fun _ => none) dd (kws.map (·.2)))
    (h : ∀ (D : Addr) (doc pm : Value) (an : Option Addr) (cdv ct : Value) (us ks : List Value), us.length = n → ks.length = kws.length →
      KwChain D ((kws.map (·.1)).zip ks) (bindArgs (PySem.W.fnOf nm qual args body scope .none (.ref D) doc pm an cdv ct) ⟨us, []⟩) (ps.zip (us ++ ks))) : GMk P w K mg base (k + 1) x C (defC c0 dd) := by
  obtain ⟨ds, hv, hb⟩ := F.binds0 n hk hn h
  exact ⟨k, Nat.le_refl _, f, fd, ps, _, ds, dd, c0, gx, M, ok, hb, hv, hd, fun xs m Q E h => h⟩
theorem k_mkK {kws : List (Str × V)} (gx : mg x = some (.ref C)) (M : Mk K C f) (F : FunD K nm qual args body scope [] kws f fd) (ok : FnOk P w K mg base (L2.CX P w) k f fd ps (SpOf K c0)) (n : Nat) (ks : List Str) (hk : kws ≠ [])
    (h : ∀ (D : Addr) (doc pm : Value) (an : Option Addr) (cdv ct : Value) (us ws : List Value), us.length = n → ws.length = ks.length →
      bindArgs (PySem.W.fnOf nm qual args body scope .none (.ref D) doc pm an cdv ct) ⟨us, ks.zip ws⟩ = pure (ps.zip (us ++ ws))) : GMkK P w K mg base (k + 1) x C n ks (kwC c0 n ks.length) := by
  obtain ⟨mv, hb⟩ := F.kbinds0 n ks [] (fun us _ ws => us ++ ws) hk (fun q hq => by cases hq) (fun a _ c => a.append c) fun D doc pm an cdv ct us mv ws h1 _ h2 => h D doc pm an cdv ct us ws h1 h2
  exact ⟨k, Nat.le_refl _, f, fd, ps, _, _, c0, gx, M, ok, hb, fun Pi xs zs vs ws m Q E r1 r2 h => ⟨h.1, h.2.1, xs ++ zs, r1.append r2, h.2.2⟩⟩
theorem h_of {x : Str} (g : mg x = some (.ref f)) (h : GDef P w K mg base k x c) : GHeld P w K mg base k f c := by
  obtain ⟨f', fd, ps, dvs, ds, dd, c0, h1, h2, h3, h4, h5, h6, h7⟩ := h
  cases g.symm.trans h1
  exact ⟨fd, ps, dvs, ds, dd, c0, h2, h3, h4, h5, h6, h7⟩
theorem d_mk {a : Addr} {kvs : List (Str × He.Dv)} {tab : List (Str × D)} {es : Array DictEntry} {n : Nat} (gx : mg x = some (.ref a)) (hd : KDict K w a es n) (hv : He.valsB K a kvs = true) (ht : ∀ s d, tab.lookup s = some d → ∃ v, (s, v) ∈ kvs ∧ Rep K (fun _ => none) d (v.v K)) : GDict K w mg x tab := by
  refine ⟨a, gx, fun s d e => ?_⟩
  obtain ⟨v, hm, rv⟩ := ht s d e
  obtain ⟨u, h1, h2⟩ := He.valsB_ok hv hm
  exact ⟨_, ⟨es, n, u, hd.at_, hd.lit, h1, h2⟩, rv⟩
end
end Zed
end
section
set_option maxHeartbeats 4000000
namespace Zed
open PySem PySem.Spec PyProof.Rows L2
/-! sum from a start on -/
def preSumK (k0 : Int) (val : Nat → Int) : Nat → Int
  | 0 => k0
  | j + 1 => preSumK k0 val j + val j
section
variable {prog : Program} {w : World} {A : Around} {R : Result → Shared → Prop} {I : Addr} {fp wr : List Addr} {n : Nat} {P : Nat → Value → Prop} {St : Nat → Heap → Prop}
theorem sum_loopK {k0 : Int} (W : Walks prog w A.in1 I fp wr n P St) (val : Nat → Int) (hval : ∀ i v, P i v → ∃ t, v = .int (val i) t) (S : Addr) (hSf : S ∉ fp) :
    ∀ (k i : Nat) (s : Shared) (tA : Tok) (c : Nat) (stage : Int), (stage = 0 ∨ stage = 2) → n - i = k → i ≤ n → St i s.heap → s.heap.get? S = some { cls := .type "list", dict := none, data := .seq #[.int (preSumK k0 val i) tA] c, slots := #[] } →
    (∀ h' tk t', (∀ b o, b ∉ wr → b ≠ S → s.heap.get? b = some o → h'.get? b = some o) → R (.ok (.ret (.int (preSumK k0 val n) t'))) { s with heap := h', toks := tk }) →
    codeAny (model prog w) A (.builtin "sum.loop" ⟨[.ref I, .ref S, rawInt stage, rawInt 0], []⟩) R s := by
  have hSw : S ∉ wr := fun h => hSf (W.sub _ h)
  intro k
  induction k with
  | zero =>
    intro i s tA c stage hstage hk hi hst hS hR
    have hin : i = n := by omega
    subst hin
    refine codeAny_builtin F.entry_sum_loop ?_
    rw [Around.under_plainId F.plain_sum_loop _]
    show wpAny _ A.in1 (seqItems? (.ref S) >>= _) _ _ s
    refine wpAny_bind (wpAny_seqItems hS rfl ?_)
    show wpAny _ A.in1 (tryCatch (pyNext (.ref I)) _ >>= _) _ _ s
    refine wpAny_bind (wpAny_tryCatch (W.done s _ _ hst fun h' tk hk' => ?_))
    exact wpAny_pure (hR h' tk tA fun b o hbw _ e => hk' b o hbw e)
  | succ k ih =>
    intro i s tA c stage hstage hk hi hst hS hR
    have hlt : i < n := by omega
    refine codeAny_builtin F.entry_sum_loop ?_
    rw [Around.under_plainId F.plain_sum_loop _]
    show wpAny _ A.in1 (seqItems? (.ref S) >>= _) _ _ s
    refine wpAny_bind (wpAny_seqItems hS rfl ?_)
    show wpAny _ A.in1 (tryCatch (pyNext (.ref I)) _ >>= _) _ _ s
    refine wpAny_bind (wpAny_tryCatch (W.item i s _ _ hlt hst fun v h' tk hP hst' hk' => ?_))
    obtain ⟨t, rfl⟩ := hval i v hP
    have hS' := hk' S _ hSw hS
    rcases hstage with rfl | rfl
    · show wpAny _ A.in1 (if (_ : Bool) = true then (mkInt (preSumK k0 val i + val i) >>= _) else _) _ _ _
      split
      · refine wpAny_bind (wpAny_mkInt ?_)
        show wpAny _ A.in1 (updateSeq S (fun _ => #[.int (preSumK k0 val i + val i) tk]) >>= _) _ _ _
        refine wpAny_bind ?_
        refine wpAny_updateSeq hS' rfl (wpAny_pure ⟨plainId_quiet F.plain_sum_loop _, ih (i + 1) _ tk _ 0 (Or.inl rfl) (by omega) hlt (W.frame _ _ _ hst' fun b hb o e => ?_) (Heap.get?_update_self _ hS' rfl) fun h'' tk'' t'' hk'' => ?_⟩)
        · exact (Heap.get?_update_other _ _ (fun h : S = b => hSf (by rw [h]; exact hb))).trans e
        · exact hR h'' tk'' t'' fun b o hbw hbS e => hk'' b o hbw hbS ((Heap.get?_update_other _ _ (Ne.symm hbS)).trans (hk' b o hbw e))
      · refine wpAny_bind (wpAny_rule ?_)
        refine wpAny_bind (wpAny_attempt (wpAny_holding (PySem.P.add_int ?_)))
        show wpAny _ A.in1 (updateSeq S (fun _ => #[.int (preSumK k0 val i + val i) tk]) >>= _) _ _ _
        refine wpAny_bind ?_
        refine wpAny_updateSeq hS' rfl ?_
        have hS2 := Heap.get?_update_self (Obj.mapSeq fun _ => #[Value.int (preSumK k0 val i + val i) tk]) hS' rfl
        refine wpAny_bind (wpAny_letGo ?_)
        refine wpAny_bind ?_
        refine wpAny_updateSeq hS2 rfl (wpAny_pure ⟨plainId_quiet F.plain_sum_loop _, ih (i + 1) _ tk _ 2 (Or.inr rfl) (by omega) hlt (W.frame _ _ _ hst' fun b hb o e => ?_) (Heap.get?_update_self _ hS2 rfl) fun h'' tk'' t'' hk'' => ?_⟩)
        · exact (Heap.get?_update_other _ _ (fun h : S = b => hSf (by rw [h]; exact hb))).trans ((Heap.get?_update_other _ _ (fun h : S = b => hSf (by rw [h]; exact hb))).trans e)
        · exact hR h'' tk'' t'' fun b o hbw hbS e => hk'' b o hbw hbS ((Heap.get?_update_other _ _ (Ne.symm hbS)).trans ((Heap.get?_update_other _ _ (Ne.symm hbS)).trans (hk' b o hbw e)))
    · show wpAny _ A.in1 ((holding [Value.int (val i) t] (binaryOp .Add (.int (preSumK k0 val i) tA) (.int (val i) t))).attempt >>= _) _ _ _
      refine wpAny_bind (wpAny_attempt (wpAny_holding (PySem.P.add_int ?_)))
      show wpAny _ A.in1 (updateSeq S (fun _ => #[.int (preSumK k0 val i + val i) tk]) >>= _) _ _ _
      refine wpAny_bind ?_
      refine wpAny_updateSeq hS' rfl ?_
      have hS2 := Heap.get?_update_self (Obj.mapSeq fun _ => #[Value.int (preSumK k0 val i + val i) tk]) hS' rfl
      refine wpAny_bind (wpAny_letGo ?_)
      refine wpAny_bind ?_
      refine wpAny_updateSeq hS2 rfl (wpAny_pure ⟨plainId_quiet F.plain_sum_loop _, ih (i + 1) _ tk _ 2 (Or.inr rfl) (by omega) hlt (W.frame _ _ _ hst' fun b hb o e => ?_) (Heap.get?_update_self _ hS2 rfl) fun h'' tk'' t'' hk'' => ?_⟩)
      · exact (Heap.get?_update_other _ _ (fun h : S = b => hSf (by rw [h]; exact hb))).trans ((Heap.get?_update_other _ _ (fun h : S = b => hSf (by rw [h]; exact hb))).trans e)
      · exact hR h'' tk'' t'' fun b o hbw hbS e => hk'' b o hbw hbS ((Heap.get?_update_other _ _ (Ne.symm hbS)).trans ((Heap.get?_update_other _ _ (Ne.symm hbS)).trans (hk' b o hbw e)))
end
theorem args_sumK (a b : Value) : argsOk "sum" ⟨[a], [(Str.ofString "start", b)]⟩ := by unfold argsOk; kernel_rfl
section
variable {prog : Program} {w : World} {A : Around} {E : Value → Shared → Prop} {s : Shared}
theorem call_tree_kw {id : String} {b : Builtin} {args : List Value} {kw : List (Str × Value)} {Q : Value → Shared → Prop} (hk : builtinKind id = none) (hp : plainId id = true)
    (hb : entryFor table id = some b) (ha : argsOk id ⟨args, kw⟩)
    (hfin : wpAny (model prog w) A.in1 (b ⟨args, kw⟩) (fun fin s' => match fin with
      | .done f => (match (Except.ok f : Result) with | .ok (.ret v) => Q v s' | .ok _ => False | .error e => E e s')
      | .again c' => c'.quiet = true ∧ codeAny (model prog w) A c' (fun r s' => match r with | .ok (.ret v) => Q v s' | .ok _ => False | .error e => E e s') s') E s) : wpAny (model prog w) A (call (.builtin id) args kw) Q E s := by
  refine wpAny_call (codeAny_call_builtin hp hb ?_)
  simp only [checkBuiltinCall, hk]
  cases hsig : Manifest.signature? id with
  | none => exact wpAny_pure hfin
  | some sig =>
    have ha' : Bind.checkArgs id sig ⟨args, kw⟩ = pure () := by simpa only [argsOk, hsig] using ha
    simp only [ha']
    exact wpAny_pure hfin
theorem call_sum_walkK {x : Value} {k0 : Int} {t0 : Tok} {Q : Value → Shared → Prop}
    (h : wpAny (model prog w) A.in1 (pyIter x) (fun it s₂ => ∃ I fp wr n P St val, it = .ref I ∧ Walks prog w A.in1 I fp wr n P St ∧ St 0 s₂.heap ∧ (∀ b ∈ fp, b < s₂.heap.objs.size) ∧
      (∀ i v, P i v → ∃ t, v = .int (val i) t) ∧
      ∀ h' tk t', (∀ b o, b ∉ wr → s₂.heap.get? b = some o → h'.get? b = some o) → Q (.int (preSumK k0 val n) t') { s₂ with heap := h', toks := tk }) E s) :
    wpAny (model prog w) A (call (.builtin "sum") [x] [(Str.ofString "start", .int k0 t0)]) Q E s := by
  refine call_tree_kw PySem.F.kind_sum PySem.F.plain_sum PySem.F.entry_sum (args_sumK _ _) ?_
  unfold Builtin.«sum»
  simp only [List.length_cons, List.length_nil]
  rw [if_neg (by decide)]
  refine wpAny_bind (wpAny_of_eq (show Builtin.Builtins.bindParams "sum" ["start"] 0 ⟨[], [(Str.ofString "start", .int k0 t0)]⟩ = pure [some (.int k0 t0)] by kernel_rfl) ?_)
  refine wpAny_bind (wpAny_mono h (fun it s₂ h₂ => ?_) fun _ _ e => e)
  obtain ⟨I, fp, wr, n, P, St, val, rfl, W, hst, hfp, hval, hQ⟩ := h₂
  dsimp only
  split
  · refine wpAny_bind (wpAny_rule (wpAny_bind (wpAny_mkInt (wpAny_bind (wpAny_pure ?_)))))
    simp only [List.forIn_cons, List.forIn_nil]
    refine wpAny_bind (wpAny_bind (wpAny_bind (wpAny_isInstance (T := "int") (b := false) (typeIs_int _ _ _) PySem.sub_int_str ?_)))
    simp only [Bool.false_eq_true, if_false]
    refine wpAny_pure (wpAny_bind (wpAny_bind (wpAny_isInstance (T := "int") (b := false) (typeIs_int _ _ _) PySem.sub_int_bytes ?_)))
    simp only [Bool.false_eq_true, if_false]
    refine wpAny_pure (wpAny_bind (wpAny_bind (wpAny_isInstance (T := "int") (b := false) (typeIs_int _ _ _) PySem.sub_int_bytearray ?_)))
    simp only [Bool.false_eq_true, if_false]
    refine wpAny_pure (wpAny_pure ?_)
    refine wpAny_bind (wpAny_newObj_type ?_)
    have hSf : s₂.heap.objs.size ∉ fp := fun hm => Nat.lt_irrefl _ (hfp _ hm)
    refine wpAny_pure ⟨plainId_quiet PySem.F.plain_sum_loop _, sum_loopK W val hval s₂.heap.objs.size hSf n 0 _ _ 0 0 (Or.inl rfl) rfl (Nat.zero_le _)
      (W.frame _ _ _ hst fun b _ o e => Heap.get?_push_of_some _ e) (Heap.get?_push_size _ rfl) fun h' tk t' hk => ?_⟩
    exact hQ h' tk t' fun b o hbw e => hk b o hbw (Nat.ne_of_lt (Heap.lt_size e)) (Heap.get?_push_of_some _ e)
  · refine wpAny_bind (wpAny_pure ?_)
    simp only [List.forIn_cons, List.forIn_nil]
    refine wpAny_bind (wpAny_bind (wpAny_bind (wpAny_isInstance (T := "int") (b := false) (typeIs_int _ _ _) PySem.sub_int_str ?_)))
    simp only [Bool.false_eq_true, if_false]
    refine wpAny_pure (wpAny_bind (wpAny_bind (wpAny_isInstance (T := "int") (b := false) (typeIs_int _ _ _) PySem.sub_int_bytes ?_)))
    simp only [Bool.false_eq_true, if_false]
    refine wpAny_pure (wpAny_bind (wpAny_bind (wpAny_isInstance (T := "int") (b := false) (typeIs_int _ _ _) PySem.sub_int_bytearray ?_)))
    simp only [Bool.false_eq_true, if_false]
    refine wpAny_pure (wpAny_pure ?_)
    refine wpAny_bind (wpAny_newObj_type ?_)
    have hSf : s₂.heap.objs.size ∉ fp := fun hm => Nat.lt_irrefl _ (hfp _ hm)
    refine wpAny_pure ⟨plainId_quiet PySem.F.plain_sum_loop _, sum_loopK W val hval s₂.heap.objs.size hSf n 0 _ _ 0 2 (Or.inr rfl) rfl (Nat.zero_le _)
      (W.frame _ _ _ hst fun b _ o e => Heap.get?_push_of_some _ e) (Heap.get?_push_size _ rfl) fun h' tk t' hk => ?_⟩
    exact hQ h' tk t' fun b o hbw e => hk b o hbw (Nat.ne_of_lt (Heap.lt_size e)) (Heap.get?_push_of_some _ e)
theorem sum_listK {xs : Array (Int × Tok)} {l : Addr} {k0 : Int} {t0 : Tok} {Q : Value → Shared → Prop} (hh : A.handled = none) (hl : s.heap.IsList l (intItems xs))
    (h : ∀ h' tk t', (∀ b o, s.heap.get? b = some o → h'.get? b = some o) → Q (.int (preSumK k0 (numAt xs) xs.size) t') { s with heap := h', toks := tk }) :
    wpAny (model prog w) A (call (.builtin "sum") [.ref l] [(Str.ofString "start", .int k0 t0)]) Q E s := by
  refine call_sum_walkK (iter_intList hl fun s₂ e st hfp hlI => ?_)
  subst e
  refine ⟨_, _, _, _, _, _, numAt xs, rfl, Walks.list (A := A.in1) hh _ l hlI (intItems xs), st, hfp, (fun _ _ => intItems_at), fun h' tk t' hk => ?_⟩
  have := h h' tk t' (old_kept hk)
  simpa [intItems] using this
theorem preSumK_eq (k0 : Int) (val : Nat → Int) : ∀ n, preSumK k0 val n = k0 + preSum val n
  | 0 => (Int.add_zero _).symm
  | n + 1 => by
    show preSumK k0 val n + val n = k0 + (preSum val n + val n)
    rw [preSumK_eq k0 val n]
    omega
theorem sum_rawK {l : Addr} {its : List Value} {ns : List Int} {k0 : Int} {t0 : Tok} {Q : Value → Shared → Prop} (hh : A.handled = none) (hl : s.heap.IsList l its.toArray) (hi : IntsAre its ns)
    (h : ∀ h' tk t', (∀ b o, s.heap.get? b = some o → h'.get? b = some o) → Q (.int (k0 + ns.sum) t') { s with heap := h', toks := tk }) : wpAny (model prog w) A (call (.builtin "sum") [.ref l] [(Str.ofString "start", .int k0 t0)]) Q E s := by
  obtain ⟨xs, e⟩ := hi.allInts.items
  have hn : numsOf (intItems xs).toList = ns := by rw [← e]; exact hi.numsOf
  rw [nums_intItems] at hn
  rw [e] at hl
  refine sum_listK hh hl fun h' tk t' hk => ?_
  have := h h' tk t' hk
  rw [preSumK_eq, preSum_eq, List.take_of_length_le (by simp), hn]; exact this
end
/-- sum(xs, start=k) -/
def cSumK : List D → List D → Mu → QE → Prop
  | [d], [.int k], m, Q => match seqD m d with
    | some xs => match intsD xs with
      | some ns => Q (.int (k + ns.sum)) m
      | none => False
    | none => False
  | _, _, _, _ => False
def zblK (t u : ZTA) (c : List D → List D → Mu → QE → Prop) : ZTE := fun ρ m Q E => t ρ m (fun xs m1 => u ρ m1 (fun zs m2 => c xs zs m2 Q) E) E
section
variable {X : Cx} {W : WX} {x : Str} {id : String} {pos p : Pos} {e : Expr} {es : List Expr} {kws : List Keyword} {t u : ZTA} {ks : List Str} {o : List D → List D → Mu → QE → Prop}
def RCK (K : PySem.W.Frag) (o : List D → List D → Mu → QE → Prop) : List V → List V → Hp → VK → Prop := fun xs zs H Q => ∃ ds es F m Pi Qz, Zm K F m Pi H ∧ Reps K Pi ds xs ∧ Reps K Pi es zs ∧ o ds es m Qz ∧ ContE K F Pi Qz Q
theorem r_bltK (hc : CallRK X (.builtin id) ks (RCK X.K o)) (hm : X.mg x = none) (hv : bootBuiltins x = some (.builtin id)) (ha : PA X (e :: es) (LA X.K W t)) (hk : PK X kws (LA X.K W u)) (hg : Gl X x := by rfl) (hn : x ≠ "__name__" := by decide) (hdb : (x == ("__debug__" : Str)) = false := by decide)
    (he : backTo pos (starEach (e :: es) X.env) = (false, eval e X.env) :: backTo pos (starEach es X.env) := by rfl) (hpl : (backTo pos (starEach (e :: es) X.env)).any (·.1) = false := by rfl)
    (hall : (backToKw pos (keywordEach kws X.env)).all (·.1.isSome) = true := by rfl) (hnone : (backToKw pos (keywordEach kws X.env)).any (·.1.isNone) = false := by rfl) (hks : (backToKw pos (keywordEach kws X.env)).filterMap (·.1) = ks := by rfl) :
    PE X (.Call (.Name x p) (e :: es) kws pos) (LE X.K W (zblK t u o)) := by
  refine pe_imp (pe_callBK hc hg hm hv ha hk hn hdb he hpl hall hnone hks) fun σ H Q ⟨F, ρ, m, Pi, Qz, Ez, hz, he, h, k, kx⟩ => ?_
  exact ⟨F, ρ, m, Pi, _, Ez, hz, he, h, fun xs m1 P1 vs H1 l1 z1 r1 q1 => ⟨F, ρ, m1, P1, _, Ez, z1, he.mono l1, q1, fun zs m2 P2 ws H2 l2 z2 r2 q2 => ⟨xs, zs, F, m2, P2, Qz, z2, r1.mono l2, r2, q2, k.mono (l1.trans l2)⟩, kx.mono l1⟩, kx⟩
theorem c_sumK (hc : X.calm = true := by rfl) : CallRK X (.builtin "sum") [Str.ofString "start"] (RCK X.K cSumK) := by
  intro pins s σ H xs zs us ws Q I r rz ⟨ds, es, F, m, Pi, Qz, z, r1, r2, h, k⟩
  unfold cSumK at h
  split at h
  · rename_i d k0
    split at h
    · rename_i ys qy
      split at h
      · rename_i ns qn
        obtain ⟨v, rfl, rv⟩ := reps1 r1
        obtain ⟨v2, rfl, rv2⟩ := reps1 r2
        cases rv2
        obtain ⟨a, vs, rfl, hs, rs⟩ := seq_of z rv qy
        obtain rfl := intsD_eq qn
        rw [Reps.of_ints rs] at hs
        obtain ⟨its, rl, hl, _⟩ := I.list hs
        obtain rfl := Vals.ref1 r
        obtain ⟨w1, rfl, e1⟩ := vals1 rz
        obtain ⟨t1, rfl⟩ := e1
        exact sum_rawK (I.ok.hd hc) hl.isList rl.ints fun h' tk t' hk => ⟨.int _, H, I.kept hk, ⟨_, rfl⟩, fin_int k z h⟩
      · exact h.elim
    · exact h.elim
  · exact h.elim
end
end Zed
end
section
set_option maxHeartbeats 4000000
/-! Zed17: in, list * int, sorted. -/
namespace Zed
open PySem PySem.Spec PyProof.Rows L2
def flatD : D → Bool
  | .non => true
  | .bl _ => true
  | .int _ => true
  | .str _ => true
  | _ => false
def toV : D → V
  | .bl b => .bl b
  | .int i => .int i
  | .str s => .str s
  | _ => .non
theorem rep_flat {K : PySem.W.Frag} {Pi : Hp} {d : D} {v : V} (r : Rep K Pi d v) (h : flatD d = true) : v = toV d ∧ flatV v = true := by
  cases r with
  | non => exact ⟨rfl, rfl⟩
  | bl => exact ⟨rfl, rfl⟩
  | int => exact ⟨rfl, rfl⟩
  | str => exact ⟨rfl, rfl⟩
  | _ => cases h
theorem reps_flat {K : PySem.W.Frag} {Pi : Hp} : ∀ {ds : List D} {vs : List V}, Reps K Pi ds vs → ds.all flatD = true → vs = ds.map toV ∧ vs.all flatV = true
  | _, _, .nil, _ => ⟨rfl, rfl⟩
  | d :: ds, v :: vs, .cons r t, h => by
    rw [List.all_cons, Bool.and_eq_true] at h
    obtain ⟨h1, h2⟩ := rep_flat r h.1
    obtain ⟨h3, h4⟩ := reps_flat t h.2
    subst h1 h3
    exact ⟨rfl, by rw [List.all_cons, h2, h4]; rfl⟩
def inD (d : D) (xs : List D) : Bool := inV (toV d) (xs.map toV)
def seqA (m : Mu) : D → Option (List D)
  | .tup xs => some xs
  | d => seqD m d
def oIn (neg : Bool) : ZOp := fun d e m Q => flatD d = true ∧ match seqA m e with
  | some xs => xs.all flatD = true ∧ Q (.bl (if neg then !inD d xs else inD d xs)) m
  | none => False
theorem in_core {K : PySem.W.Frag} {F : Hp} {m : Mu} {Pi H : Hp} (z : Zm K F m Pi H) {e : D} {y : V} {xs : List D} (r : Rep K Pi e y) (h : seqA m e = some xs) : ∃ p vs, y = .ref p ∧ (SqL K H p vs ∨ SqT K H p vs) ∧ Reps K Pi xs vs := by
  cases r with
  | tup hs rs =>
    cases h
    exact ⟨_, _, rfl, .inr (z.sub.sqt hs), rs⟩
  | fl hs rs =>
    cases h
    exact ⟨_, _, rfl, .inl (z.sub.sql hs), rs⟩
  | ref =>
    obtain ⟨a, vs, e, hs, rs⟩ := seq_of z (.ref) (show seqD m (.ref _) = some xs from h)
    exact ⟨a, vs, e, .inl hs, rs⟩
  | _ => cases h
theorem o_in {X : Cx} : OpR X (compareOp .In) (RS X.K (oIn false)) := by
  intro pins s σ H x y v u Q I rx ry ⟨d, e, F, m, Pi, Qz, z, r1, r2, ⟨h0, h⟩, k⟩
  split at h
  · rename_i xs q
    obtain ⟨p, vs, ey, hs, rs⟩ := in_core z r2 q
    obtain ⟨rfl, fx⟩ := rep_flat r1 h0
    obtain ⟨rfl, fs⟩ := reps_flat rs h.1
    exact op_in_seq pins s σ H _ _ v u Q I rx ry ⟨p, _, ey, hs, fx, fs, fin_bl k z h.2⟩
  · exact h.elim
theorem o_notin {X : Cx} : OpR X (compareOp .NotIn) (RS X.K (oIn true)) := by
  intro pins s σ H x y v u Q I rx ry ⟨d, e, F, m, Pi, Qz, z, r1, r2, ⟨h0, h⟩, k⟩
  split at h
  · rename_i xs q
    obtain ⟨p, vs, ey, hs, rs⟩ := in_core z r2 q
    obtain ⟨rfl, fx⟩ := rep_flat r1 h0
    obtain ⟨rfl, fs⟩ := reps_flat rs h.1
    exact op_notIn_seq pins s σ H _ _ v u Q I rx ry ⟨p, _, ey, hs, fx, fs, fin_bl k z h.2⟩
  · exact h.elim
/-- a list that may change, times a number -/
def oRepM : ZOp
  | .ref a, .int k, m, Q => match m a with
    | some (.lst xs) => (-(2 ^ 63) ≤ k ∧ k < 2 ^ 63 ∧ xs.length * k.toNat ≤ sizeLine) ∧ ∀ p, m p = none → Q (.ref p) (updM m p (.lst (List.replicate k.toNat xs).flatten))
    | _ => False
  | _, _, _, _ => False
theorem reps_rep {K : PySem.W.Frag} {Pi : Hp} {xs : List D} {vs : List V} (r : Reps K Pi xs vs) : ∀ n : Nat, Reps K Pi (List.replicate n xs).flatten (List.replicate n vs).flatten
  | 0 => .nil
  | n + 1 => by
    rw [List.replicate_succ, List.replicate_succ, List.flatten_cons, List.flatten_cons]
    exact r.append (reps_rep r n)
theorem o_repM {X : Cx} : OpR X (binaryOp .Mult) (RS X.K oRepM) := by
  intro pins s σ H x y v u Q I rx ry ⟨d, e, F, m, Pi, Qz, z, r1, r2, h, k⟩
  cases r1 with
  | ref =>
    cases r2 with
    | int =>
      rename_i a i
      simp only [oRepM] at h
      cases q : m a with
      | none => rw [q] at h; exact h.elim
      | some o =>
        rw [q] at h
        cases o with
        | lst xs =>
          obtain ⟨vs, g1, q1⟩ := z.ok a _ q
          obtain ⟨⟨h1, h2, h3⟩, h4⟩ := h
          exact op_rep pins s σ H _ _ v u Q I rx ry ⟨a, i, vs, rfl, rfl, g1, h1, h2, by rw [← q1.length]; exact h3, fun p np => fin_lst k z (reps_rep q1 _) np h4⟩
        | _ => exact h.elim
    | _ => exact h.elim
  | _ => exact h.elim
/-- sorted of numbers -/
def cSortedI : ZCl := cInts fun ns Q m => ∀ zs : List Int, zs.Perm ns → zs.Pairwise (· ≤ ·) → Q (.fl (zs.map .int)) m
theorem c_sortedI {X : Cx} : CallR X (.builtin "sorted") (RC X.K cSortedI) := by
  intro pins s σ H xs us Q I rv ⟨ds, F, m, Pi, Qz, z, r, h, k⟩
  obtain ⟨a, ns, rfl, hs, h⟩ := ints_of z r h
  exact cr_sortedI pins s σ H _ us Q I rv ⟨a, ns, rfl, hs, fun zs p hp ho np => fin_fl k z (Reps.ints zs) np (h zs hp ho)⟩
end Zed
end
section
set_option maxHeartbeats 4000000
/-! Zed18: max and min of a tuple of ints. -/
namespace Zed
open PySem PySem.Spec PyProof.Rows L2
section
variable {prog : Program} {w : World} {A : Around} {E : Value → Shared → Prop} {s : Shared} {l : Addr} {xs : Array (Int × Tok)} {its : List Value} {ns : List Int}
theorem iter_intTup {Q : Value → Shared → Prop} (hl : s.heap.IsTuple l (intItems xs))
    (h : ∀ s₂ : Shared, s₂ = { s with heap := s.heap.push { cls := .type "tuple_iterator", data := .fields #[.ref l, .int 0 0] } } →
      (s₂.heap.IsTupleIter s.heap.objs.size l 0 ∧ s₂.heap.IsTuple l (intItems xs)) → (∀ b ∈ [s.heap.objs.size, l], b < s₂.heap.objs.size) → l ≠ s.heap.objs.size → Q (.ref s.heap.objs.size) s₂) :
    wpAny (model prog w) A (pyIter (.ref l)) Q E s := by
  have hlt : l < s.heap.objs.size := by obtain ⟨_, e, _⟩ := hl; exact Heap.lt_size e
  refine wpAny_pyIter_tuple hl (h _ rfl ⟨⟨_, Heap.get?_push_size _ rfl, rfl, rfl⟩, hl.push _⟩ (fun b hb => ?_) (Nat.ne_of_lt hlt))
  show b < (s.heap.push _).objs.size
  rw [Heap.size_push]
  rcases List.mem_cons.mp hb with rfl | hb
  · exact Nat.lt_succ_self _
  · rcases List.mem_cons.mp hb with rfl | hb
    · exact Nat.lt_succ_of_lt hlt
    · cases hb
theorem old_keptT {h' : Heap} (hk : ∀ b o, b ∉ [s.heap.objs.size] → (s.heap.push { cls := .type "tuple_iterator", data := .fields #[.ref l, .int 0 0] }).get? b = some o → h'.get? b = some o) :
    ∀ b o, s.heap.get? b = some o → h'.get? b = some o := fun b o e => by
  refine hk b o (fun hm => ?_) (Heap.get?_push_of_some _ e)
  rcases List.mem_cons.mp hm with e1 | hm
  · exact absurd (e1 ▸ Heap.lt_size e) (Nat.lt_irrefl _)
  · cases hm
theorem max_intTup {Q : Value → Shared → Prop} (hh : A.handled = none) (hl : s.heap.IsTuple l (intItems xs)) (hne : 0 < xs.size)
    (h : ∀ v h' tk, (intItems xs)[argBest (fun i j => decide (numAt xs i > numAt xs j)) (xs.size - 1)]? = some v → (∀ b o, s.heap.get? b = some o → h'.get? b = some o) → Q v { s with heap := h', toks := tk }) :
    wpAny (model prog w) A (call (.builtin "max") [.ref l]) Q E s := by
  refine call_max_walk (iter_intTup hl fun s₂ e st hfp hlI => ?_)
  subst e
  refine ⟨_, _, _, _, _, _, _, rfl, Walks.tuple (A := A.in1) hh _ l hlI (intItems xs), st, hfp, by simpa [intItems] using hne, CmpOf.ints_gt (numAt xs) (fun _ _ => intItems_at), fun v h' tk hP hk => ?_⟩
  exact h v h' tk (by simpa [intItems] using hP) (old_keptT hk)
theorem min_intTup {Q : Value → Shared → Prop} (hh : A.handled = none) (hl : s.heap.IsTuple l (intItems xs)) (hne : 0 < xs.size)
    (h : ∀ v h' tk, (intItems xs)[argBest (fun i j => decide (numAt xs i < numAt xs j)) (xs.size - 1)]? = some v → (∀ b o, s.heap.get? b = some o → h'.get? b = some o) → Q v { s with heap := h', toks := tk }) :
    wpAny (model prog w) A (call (.builtin "min") [.ref l]) Q E s := by
  refine call_min_walk (iter_intTup hl fun s₂ e st hfp hlI => ?_)
  subst e
  refine ⟨_, _, _, _, _, _, _, rfl, Walks.tuple (A := A.in1) hh _ l hlI (intItems xs), st, hfp, by simpa [intItems] using hne, CmpOf.ints_lt (numAt xs) (fun _ _ => intItems_at), fun v h' tk hP hk => ?_⟩
  exact h v h' tk (by simpa [intItems] using hP) (old_keptT hk)
theorem max_rawT {Q : Value → Shared → Prop} (hh : A.handled = none) (hl : s.heap.IsTuple l its.toArray) (hi : IntsAre its ns) (hne : 0 < ns.length)
    (h : ∀ h' tk M t', (∀ b o, s.heap.get? b = some o → h'.get? b = some o) → M ∈ ns → (∀ a, a ∈ ns → a ≤ M) → Q (.int M t') { s with heap := h', toks := tk }) : wpAny (model prog w) A (call (.builtin "max") [.ref l]) Q E s := by
  obtain ⟨xs, e⟩ := hi.allInts.items
  have hn : numsOf (intItems xs).toList = ns := by rw [← e]; exact hi.numsOf
  rw [nums_intItems] at hn
  subst hn
  rw [e] at hl
  have hsz : 0 < xs.size := by simpa using hne
  refine max_intTup hh hl hsz fun v h' tk hv hk => ?_
  obtain ⟨t, rfl⟩ := intItems_at hv
  obtain ⟨h1, h2⟩ := argBest_gt (numAt xs) (xs.size - 1)
  refine h h' tk _ t hk ?_ fun a ha => ?_
  · rw [numAt_eq]; exact PySem.getD_mem (by rw [List.length_map, Array.length_toList]; omega)
  · obtain ⟨j, hj, rfl⟩ := mem_getD ha
    rw [List.length_map, Array.length_toList] at hj
    rw [← numAt_eq]; exact h2 j (by omega)
theorem min_rawT {Q : Value → Shared → Prop} (hh : A.handled = none) (hl : s.heap.IsTuple l its.toArray) (hi : IntsAre its ns) (hne : 0 < ns.length)
    (h : ∀ h' tk M t', (∀ b o, s.heap.get? b = some o → h'.get? b = some o) → M ∈ ns → (∀ a, a ∈ ns → M ≤ a) → Q (.int M t') { s with heap := h', toks := tk }) : wpAny (model prog w) A (call (.builtin "min") [.ref l]) Q E s := by
  obtain ⟨xs, e⟩ := hi.allInts.items
  have hn : numsOf (intItems xs).toList = ns := by rw [← e]; exact hi.numsOf
  rw [nums_intItems] at hn
  subst hn
  rw [e] at hl
  have hsz : 0 < xs.size := by simpa using hne
  refine min_intTup hh hl hsz fun v h' tk hv hk => ?_
  obtain ⟨t, rfl⟩ := intItems_at hv
  obtain ⟨h1, h2⟩ := argBest_lt (numAt xs) (xs.size - 1)
  refine h h' tk _ t hk ?_ fun a ha => ?_
  · rw [numAt_eq]; exact PySem.getD_mem (by rw [List.length_map, Array.length_toList]; omega)
  · obtain ⟨j, hj, rfl⟩ := mem_getD ha
    rw [List.length_map, Array.length_toList] at hj
    rw [← numAt_eq]; exact h2 j (by omega)
end
/-- max, min of a tuple of ints -/
def cIntsT (f : List Int → QE → Mu → Prop) : ZCl
  | [.tup xs], m, Q => match intsD xs with
    | some ns => f ns Q m
    | none => False
  | _, _, _ => False
abbrev cMaxT : ZCl := cIntsT fun ns Q m => 0 < ns.length ∧ ∀ k, k ∈ ns → (∀ y, y ∈ ns → y ≤ k) → Q (.int k) m
abbrev cMinT : ZCl := cIntsT fun ns Q m => 0 < ns.length ∧ ∀ k, k ∈ ns → (∀ y, y ∈ ns → k ≤ y) → Q (.int k) m
theorem intsT_of {K : PySem.W.Frag} {F : Hp} {m : Mu} {Pi H : Hp} (z : Zm K F m Pi H) {f : List Int → QE → Mu → Prop} {ds : List D} {vs : List V} {Qz : QE} (r : Reps K Pi ds vs) (h : cIntsT f ds m Qz) : ∃ a ns, vs = [.ref a] ∧ SqT K H a (ns.map V.int) ∧ f ns Qz m := by
  unfold cIntsT at h
  split at h
  · rename_i xs
    obtain ⟨v, rfl, r1⟩ := reps1 r
    split at h
    · rename_i ns q2
      obtain rfl := intsD_eq q2
      cases r1 with
      | tup hs rs =>
        have hs := z.sub.sqt hs
        rw [Reps.of_ints rs] at hs
        exact ⟨_, ns, rfl, hs, h⟩
    · exact h.elim
  · exact h.elim
theorem c_maxT {X : Cx} (hc : X.calm = true := by rfl) : CallR X (.builtin "max") (RC X.K cMaxT) := by
  intro pins s σ H xs us Q I rv ⟨ds, F, m, Pi, Qz, z, r, h, k⟩
  obtain ⟨a, ns, rfl, hs, h0, h⟩ := intsT_of z r h
  obtain ⟨its, rv2, hl, _⟩ := I.tuple hs
  rw [Vals.ref1 rv]
  exact max_rawT (I.ok.hd hc) hl rv2.ints h0 fun h' tk m t' hk h1 h2 => ⟨.int _, H, I.kept hk, ⟨_, rfl⟩, fin_int k z (h m h1 h2)⟩
theorem c_minT {X : Cx} (hc : X.calm = true := by rfl) : CallR X (.builtin "min") (RC X.K cMinT) := by
  intro pins s σ H xs us Q I rv ⟨ds, F, m, Pi, Qz, z, r, h, k⟩
  obtain ⟨a, ns, rfl, hs, h0, h⟩ := intsT_of z r h
  obtain ⟨its, rv2, hl, _⟩ := I.tuple hs
  rw [Vals.ref1 rv]
  exact min_rawT (I.ok.hd hc) hl rv2.ints h0 fun h' tk m t' hk h1 h2 => ⟨.int _, H, I.kept hk, ⟨_, rfl⟩, fin_int k z (h m h1 h2)⟩
theorem max_ints {xs : List Int} {m : Mu} {Q : QE} (h0 : 0 < xs.length) (h : ∀ k ∈ xs, (∀ y ∈ xs, y ≤ k) → Q (.int k) m) : cMaxT [.tup (xs.map .int)] m Q := by
  show (match intsD (xs.map .int) with | some ns => 0 < ns.length ∧ ∀ k, k ∈ ns → (∀ y, y ∈ ns → y ≤ k) → Q (.int k) m | none => False)
  rw [intsD_map]
  exact ⟨h0, h⟩
theorem min_ints {xs : List Int} {m : Mu} {Q : QE} (h0 : 0 < xs.length) (h : ∀ k ∈ xs, (∀ y ∈ xs, k ≤ y) → Q (.int k) m) : cMinT [.tup (xs.map .int)] m Q := by
  show (match intsD (xs.map .int) with | some ns => 0 < ns.length ∧ ∀ k, k ∈ ns → (∀ y, y ∈ ns → k ≤ y) → Q (.int k) m | none => False)
  rw [intsD_map]
  exact ⟨h0, h⟩
theorem lookup_mem : ∀ {tab : List (Str × D)} {s : Str} {d : D}, tab.lookup s = some d → (s, d) ∈ tab
  | [], _, _, h => by cases h
  | (k, b) :: t, s, d, h => by
    rw [List.lookup_cons] at h
    cases e : s == k with
    | true =>
      rw [e] at h
      have := eq_of_beq e
      subst this
      cases h
      exact List.mem_cons_self
    | false =>
      rw [e] at h
      exact List.mem_cons_of_mem _ (lookup_mem h)
end Zed
end
section
set_option maxHeartbeats 4000000
/-! ZLib0: short words for readings; figures by a base. -/
namespace Zed
open PySem PySem.Spec PyProof.Rows L2

theorem dropM_updM {m : Mu} {p : Addr} {o : MO} (h : m p = none) : dropM (updM m p o) p = m := by
  funext b
  unfold dropM updM
  by_cases hb : b = p
  · subst hb; rw [if_pos rfl, h]
  · rw [if_neg hb, if_neg hb]
section
variable {m : Mu} {Q : QE}
theorem q_truD_1 : truD .non m = some false := rfl
theorem q_truD_2 {b} : truD (.bl b) m = some b := rfl
theorem q_truD_3 {i} : truD (.int i) m = some (i != 0) := rfl
theorem q_truD_4 {x} : truD (.str x) m = if x.length ≤ sizeLine then some ((x.length : Int) != 0) else none := rfl
theorem q_truD_5 {xs} : truD (.tup xs) m = some (!xs.isEmpty) := rfl
theorem q_truD_6 {xs} : truD (.fl xs) m = some (!xs.isEmpty) := rfl
theorem q_oAdd_1 {i j} : oAdd (.int i) (.int j) m Q = Q (.int (i + j)) m := rfl
theorem q_oAdd_2 {x y} : oAdd (.str x) (.str y) m Q = (x.length + y.length ≤ sizeLine ∧ Q (.str (x ++ y)) m) := rfl
theorem q_oAdd_3 {xs ys} : oAdd (.tup xs) (.tup ys) m Q = (xs.length + ys.length ≤ sizeLine ∧ Q (.tup (xs ++ ys)) m) := rfl
theorem q_oAdd_4 {i k} : oAdd (.int i) (.bl k) m Q = Q (.int (i + b2i k)) m := rfl
theorem q_oInt_1 {C f i j} : oInt C f (.int i) (.int j) m Q = (C i j ∧ Q (.int (f i j)) m) := rfl
theorem q_oSub_1 {i j} : oSub (.int i) (.int j) m Q = Q (.int (i - j)) m := rfl
theorem q_oLt_1 {f i j} : oLt' f (.int i) (.int j) m Q = Q (.bl (f i j)) m := rfl
theorem q_oEq_1 {i j} : oEq (.int i) (.int j) m Q = Q (.bl (decide (i = j))) m := rfl
theorem q_oNe_1 {i j} : oNe (.int i) (.int j) m Q = Q (.bl (!decide (i = j))) m := rfl
theorem q_oNe_2 {xs ys} : oNe (.tup xs) (.tup ys) m Q = (SeqAt.shaped (D.tup xs).toP = true ∧ SeqAt.shaped (D.tup ys).toP = true ∧ Q (.bl (!PyData.eqv (D.tup xs).toP (D.tup ys).toP)) m) := rfl
theorem q_oEq_2 {xs ys} : oEq (.tup xs) (.tup ys) m Q = (SeqAt.shaped (D.tup xs).toP = true ∧ SeqAt.shaped (D.tup ys).toP = true ∧ Q (.bl (PyData.eqv (D.tup xs).toP (D.tup ys).toP)) m) := rfl
theorem q_oIs_1 {d} : oIs d .non m Q = Q (.bl (isNon d)) m := rfl
theorem q_oIs_2 {a b} : oIs (.bl a) (.bl b) m Q = Q (.bl (decide (a = b))) m := rfl
theorem q_oIsNot_1 {d} : oIsNot d .non m Q = Q (.bl (!isNon d)) m := rfl
theorem q_oIsNot_2 {a b} : oIsNot (.bl a) (.bl b) m Q = Q (.bl (!decide (a = b))) m := rfl
theorem q_oNeg_1 {i} : oNeg (.int i) m Q = Q (.int (-i)) m := rfl
theorem q_cAbs_1 {i} : cAbs [.int i] m Q = Q (.int (if i < 0 then -i else i)) m := rfl
theorem q_cMax_1 {i j} : cMax [.int i, .int j] m Q = Q (.int (if j > i then j else i)) m := rfl
theorem q_cMin_1 {i j} : cMin [.int i, .int j] m Q = Q (.int (if j < i then j else i)) m := rfl
theorem q_cInt_1 {i} : cInt [.int i] m Q = Q (.int i) m := rfl
theorem q_cInt_2 {k} : cInt [.bl k] m Q = Q (.int (if k then 1 else 0)) m := rfl
theorem q_cDivmod_1 {i j} : cDivmod [.int i, .int j] m Q = (CDivP i j ∧ Q (.tup [.int (i / j), .int (i % j)]) m) := rfl
theorem q_lenD_1 {x} : lenD m (.str x) = if x.length ≤ sizeLine then some x.length else none := rfl
theorem q_lenD_2 {xs} : lenD m (.tup xs) = some xs.length := rfl
theorem q_lenD_3 {xs} : lenD m (.fl xs) = some xs.length := rfl
theorem q_cLen_1 {d} : cLen [d] m Q = (match lenD m d with | some n => Q (.int n) m | none => False) := rfl
theorem q_cTuple_1 {xs} : cTuple [.tup xs] m Q = Q (.tup xs) m := rfl
theorem q_cTuple_2 {xs} : cTuple [.fl xs] m Q = Q (.tup xs) m := rfl
theorem q_cTuple_3 {a} : cTuple [.ref a] m Q = (match m a with | some (.lst xs) => Q (.tup xs) m | _ => False) := rfl
theorem q_cListF_1 {xs} : cListF [.tup xs] m Q = Q (.fl xs) m := rfl
theorem q_cListF_2 {xs} : cListF [.fl xs] m Q = Q (.fl xs) m := rfl
theorem q_cListF_3 {a} : cListF [.ref a] m Q = (match m a with | some (.lst xs) => Q (.fl xs) m | _ => False) := rfl
theorem q_cList_1 {xs} : cList [.tup xs] m Q = (∀ p, m p = none → Q (.ref p) (updM m p (.lst xs))) := rfl
theorem q_cList_2 {xs} : cList [.fl xs] m Q = (∀ p, m p = none → Q (.ref p) (updM m p (.lst xs))) := rfl
theorem q_seqD_1 {xs} : seqD m (.fl xs) = some xs := rfl
theorem q_seqD_2 {a} : seqD m (.ref a) = (match m a with | some (.lst xs) => some xs | _ => none) := rfl
theorem q_lenD_4 {a} : lenD m (.ref a) = (match m a with | some (.lst xs) => some xs.length | _ => none) := rfl
theorem q_oIx_1 {xs i} : oIx (.tup xs) (.int i) m Q = (match atI xs i with | some d => Q d m | none => False) := rfl
theorem q_oIx_2 {xs i} : oIx (.fl xs) (.int i) m Q = (match atI xs i with | some d => Q d m | none => False) := rfl
theorem q_oIx_4 {a i} : oIx (.ref a) (.int i) m Q = (match m a with | some (.lst xs) => (match atI xs i with | some d => Q d m | none => False) | _ => False) := rfl
theorem q_oSl_1 {xs l h} : oSl (.tup xs) l h m Q = Q (.tup (cutG xs l h)) m := rfl
theorem q_oSl_2 {xs l h} : oSl (.fl xs) l h m Q = Q (.fl (cutG xs l h)) m := rfl
theorem q_oSl_3 {a l h} : oSl (.ref a) l h m Q = (match m a with | some (.lst xs) => Q (.fl (cutG xs l h)) m | _ => False) := rfl
theorem q_oSl_4 {x l h} : oSl (.str x) l h m Q = (x.length ≤ sizeLine ∧ Q (.str (cutS x l h)) m) := rfl
theorem q_tyD_1 : tyD m .non = some .non := rfl
theorem q_tyD_2 {b} : tyD m (.bl b) = some .bool := rfl
theorem q_tyD_3 {i} : tyD m (.int i) = some .int := rfl
theorem q_tyD_4 {x} : tyD m (.str x) = some .str := rfl
theorem q_tyD_5 {xs} : tyD m (.tup xs) = some .tuple := rfl
theorem q_tyD_6 {xs} : tyD m (.fl xs) = some .list := rfl
theorem q_cIsi_1 {T x n} : cIsi T [x, .ty n] m Q = (n = T.nm ∧ match tyD m x with | some t => Q (.bl (isiB t T)) m | none => False) := rfl
theorem q_oSet_1 {a k d R} : oSet (.ref a) (.int k) d m R = (match m a with | some (.lst xs) => (match ixN xs.length k with | some j => R (updM m a (.lst (xs.set j d))) | none => False) | _ => False) := rfl
theorem q_oIAdd_1 {i j} : oIAdd (.int i) (.int j) m Q = Q (.int (i + j)) m := rfl
theorem q_oIAdd_2 {x y} : oIAdd (.str x) (.str y) m Q = (x.length + y.length ≤ sizeLine ∧ Q (.str (x ++ y)) m) := rfl
end
theorem isi_ii : isiB .int .int = true := rfl
theorem isi_bi : isiB .bool .int = true := rfl
theorem isi_ib : isiB .int .bool = false := rfl
theorem isi_bb : isiB .bool .bool = true := rfl
theorem isi_tt : isiB .tuple .tuple = true := rfl
theorem while_i {t : ZTT} {b : ZTS} {Dz : ZEnds} {ρ : ZEnv} {m : Mu} (I : Nat → ZEnv → Mu → Prop) (k : Nat) (h0 : I k ρ m)
    (h : ∀ k ρ m, I k ρ m → t ρ m (fun c m1 => if c = true then b ⟨fun ρ' m' => ∃ k', k' < k ∧ I k' ρ' m', Dz.rt, Dz.ex⟩ ρ m1 else Dz.nx ρ m1) (xat Dz ρ)) : swhile t b Dz ρ m := ⟨I, ⟨k, h0⟩, h⟩
def LoopP (wk : Wk) (g : ZTG) (b : ZTS) (Dz : ZEnds) (ρ : ZEnv) (m : Mu) : Prop := ∃ I : Nat → ZEnv → Mu → Prop, I 0 ρ m ∧ ∀ i ρ m, I i ρ m → wk.inv m ∧
  (i < wk.n → g (wk.item i) ρ m (fun ρ2 m2 => b ⟨I (i + 1), Dz.rt, Dz.ex⟩ ρ2 m2) (fun x m => ∀ ρ', Dz.ex x ρ' m)) ∧ (i = wk.n → Dz.nx ρ m)
theorem for_i {it : ZTI} {g : ZTG} {b : ZTS} {Dz : ZEnds} {ρ : ZEnv} {m : Mu} (h : it ρ m (fun wk m1 => LoopP wk g b Dz ρ m1) (xat Dz ρ)) : sfor it g b Dz ρ m := h
theorem loop_i {wk : Wk} {g : ZTG} {b : ZTS} {Dz : ZEnds} {ρ : ZEnv} {m : Mu} (I : Nat → ZEnv → Mu → Prop) (h0 : I 0 ρ m) (h : ∀ i ρ m, I i ρ m → wk.inv m ∧
    (i < wk.n → g (wk.item i) ρ m (fun ρ2 m2 => b ⟨I (i + 1), Dz.rt, Dz.ex⟩ ρ2 m2) (fun x m => ∀ ρ', Dz.ex x ρ' m)) ∧ (i = wk.n → Dz.nx ρ m)) : LoopP wk g b Dz ρ m := ⟨I, h0, h⟩
def CompP (wk : Wk) (g : ZTG) (t : ZTT) (e : ZTE) (vs : List Nat) (ρ : ZEnv) (m : Mu) (Q : QE) : Prop := ∃ I : Nat → List D → Mu → Prop, I 0 [] m ∧ ∀ i acc m, I i acc m → wk.inv m ∧
  (i < wk.n → g (wk.item i) (wipeZ ρ vs) m (fun ρ2 m2 => t ρ2 m2 (fun c m3 => if c = true then e ρ2 m3 (fun y m4 => acc.length < sizeLine ∧ I (i + 1) (acc ++ [y]) m4) noX else I (i + 1) acc m3) noX) noX) ∧ (i = wk.n → Q (.fl acc) m)
theorem comp_e {it : ZTI} {g : ZTG} {t : ZTT} {e : ZTE} {vs : List Nat} {ρ : ZEnv} {m : Mu} {Q : QE} {E : QX} : zlc it g t e vs ρ m Q E = it ρ m (fun wk m1 => CompP wk g t e vs ρ m1 Q) E := rfl
theorem comp_i {wk : Wk} {g : ZTG} {t : ZTT} {e : ZTE} {vs : List Nat} {ρ : ZEnv} {m : Mu} {Q : QE} (I : Nat → List D → Mu → Prop) (h0 : I 0 [] m) (h : ∀ i acc m, I i acc m → wk.inv m ∧
    (i < wk.n → g (wk.item i) (wipeZ ρ vs) m (fun ρ2 m2 => t ρ2 m2 (fun c m3 => if c = true then e ρ2 m3 (fun y m4 => acc.length < sizeLine ∧ I (i + 1) (acc ++ [y]) m4) noX else I (i + 1) acc m3) noX) noX) ∧ (i = wk.n → Q (.fl acc) m)) : CompP wk g t e vs ρ m Q := ⟨I, h0, h⟩
/-! sizes -/
theorem two_le {j k : Nat} (h : j ≤ k) : (2 : Int) ^ j ≤ 2 ^ k := by
  rw [← PySem.W.kbt_cast, ← PySem.W.kbt_cast]
  exact Int.ofNat_le.mpr (Nat.pow_le_pow_right (by decide) h)
theorem abs_lt {i : Int} {k : Nat} (h0 : 0 ≤ i) (h : i < 2 ^ k) : i.natAbs < 2 ^ k := by
  rw [← PySem.W.kbt_cast] at h
  omega
theorem lt_abs {i : Int} {k : Nat} (h : i.natAbs < 2 ^ k) : i < 2 ^ k := by
  rw [← PySem.W.kbt_cast]
  omega
theorem abs_mul {i j : Int} {a b : Nat} (h1 : i.natAbs < 2 ^ a) (h2 : j.natAbs < 2 ^ b) : (i * j).natAbs < 2 ^ (a + b) := wide_lt h1 h2
theorem abs_more {i : Int} {a b : Nat} (h1 : i.natAbs < 2 ^ a) (h : a ≤ b) : i.natAbs < 2 ^ b := Nat.lt_of_lt_of_le h1 (Nat.pow_le_pow_right (by decide) h)
theorem abs_pow {i : Int} {a : Nat} (k : Nat) (h1 : i.natAbs ≤ 2 ^ a) : (i ^ k).natAbs ≤ 2 ^ (a * k) := by
  rw [Int.natAbs_pow, Nat.pow_mul]
  exact Nat.pow_le_pow_left h1 k
theorem mul_ok {i j : Int} {a b : Nat} (h1 : i.natAbs < 2 ^ a) (h2 : j.natAbs < 2 ^ b) (h3 : a + b ≤ 999990) : CMulW i j := wide_mul (a := a + 1) (b := b + 1) (abs_more h1 (Nat.le_succ a)) (abs_more h2 (Nat.le_succ b)) (Nat.succ_pos _) (Nat.succ_pos _) (by omega)
theorem lt_two {i : Int} {j k : Nat} (h : i ≤ 2 ^ j) (hjk : j < k) : i < 2 ^ k := by
  have h1 : (2 : Int) ^ j < 2 ^ k := by
    rw [← PySem.W.kbt_cast, ← PySem.W.kbt_cast]
    exact Int.ofNat_lt.mpr (Nat.pow_lt_pow_right (by decide) hjk)
  omega
theorem cp_2 : CPow 10 2 = True := eq_true ⟨by decide, by decide, by decide⟩
theorem vp_2 : (10 : Int) ^ Int.toNat 2 = 100 := by decide +kernel
theorem cp_3 : CPow 10 3 = True := eq_true ⟨by decide, by decide, by decide⟩
theorem vp_3 : (10 : Int) ^ Int.toNat 3 = 1000 := by decide +kernel
theorem cp_6 : CPow 10 6 = True := eq_true ⟨by decide, by decide, by decide⟩
theorem vp_6 : (10 : Int) ^ Int.toNat 6 = 1000000 := by decide +kernel
theorem cp_7 : CPow 10 7 = True := eq_true ⟨by decide, by decide, by decide⟩
theorem vp_7 : (10 : Int) ^ Int.toNat 7 = 10000000 := by decide +kernel
theorem cp_18 : CPow 10 18 = True := eq_true ⟨by decide, by decide, by decide⟩
theorem vp_18 : (10 : Int) ^ Int.toNat 18 = 1000000000000000000 := by decide +kernel
theorem cp_60 : CPow 10 60 = True := eq_true ⟨by decide, by decide, by decide⟩
theorem vp_60 : (10 : Int) ^ Int.toNat 60 = 1000000000000000000000000000000000000000000000000000000000000 := by decide +kernel
theorem getD_ints {xs : List Int} {i : Nat} : (xs.map D.int).getD i .non = if i < xs.length then .int (xs.getD i 0) else .non := by
  rw [List.getD_eq_getElem?_getD, List.getElem?_map]
  by_cases h : i < xs.length
  · rw [if_pos h, List.getElem?_eq_getElem h, List.getD_eq_getElem?_getD, List.getElem?_eq_getElem h]
    rfl
  · rw [if_neg h, List.getElem?_eq_none (by omega)]
    rfl
theorem at1_0 {α : Type} {a : α} : atI [a] 0 = some a := rfl
theorem at2_0 {α : Type} {a b : α} : atI [a, b] 0 = some a := rfl
theorem at2_1 {α : Type} {a b : α} : atI [a, b] 1 = some b := rfl
theorem at3_0 {α : Type} {a b c : α} : atI [a, b, c] 0 = some a := rfl
theorem at3_1 {α : Type} {a b c : α} : atI [a, b, c] 1 = some b := rfl
theorem at3_2 {α : Type} {a b c : α} : atI [a, b, c] 2 = some c := rfl
theorem at4_0 {α : Type} {a b c d : α} : atI [a, b, c, d] 0 = some a := rfl
theorem at4_1 {α : Type} {a b c d : α} : atI [a, b, c, d] 1 = some b := rfl
theorem at4_2 {α : Type} {a b c d : α} : atI [a, b, c, d] 2 = some c := rfl
theorem at4_3 {α : Type} {a b c d : α} : atI [a, b, c, d] 3 = some d := rfl
theorem at5_0 {α : Type} {a b c d e : α} : atI [a, b, c, d, e] 0 = some a := rfl
theorem at5_1 {α : Type} {a b c d e : α} : atI [a, b, c, d, e] 1 = some b := rfl
theorem at5_2 {α : Type} {a b c d e : α} : atI [a, b, c, d, e] 2 = some c := rfl
theorem at5_3 {α : Type} {a b c d e : α} : atI [a, b, c, d, e] 3 = some d := rfl
theorem at5_4 {α : Type} {a b c d e : α} : atI [a, b, c, d, e] 4 = some e := rfl
theorem at6_0 {α : Type} {a b c d e f : α} : atI [a, b, c, d, e, f] 0 = some a := rfl
theorem at6_1 {α : Type} {a b c d e f : α} : atI [a, b, c, d, e, f] 1 = some b := rfl
theorem at6_2 {α : Type} {a b c d e f : α} : atI [a, b, c, d, e, f] 2 = some c := rfl
theorem at6_3 {α : Type} {a b c d e f : α} : atI [a, b, c, d, e, f] 3 = some d := rfl
theorem at6_4 {α : Type} {a b c d e f : α} : atI [a, b, c, d, e, f] 4 = some e := rfl
theorem at6_5 {α : Type} {a b c d e f : α} : atI [a, b, c, d, e, f] 5 = some f := rfl
theorem at7_0 {α : Type} {a b c d e f g : α} : atI [a, b, c, d, e, f, g] 0 = some a := rfl
theorem at7_1 {α : Type} {a b c d e f g : α} : atI [a, b, c, d, e, f, g] 1 = some b := rfl
theorem at7_2 {α : Type} {a b c d e f g : α} : atI [a, b, c, d, e, f, g] 2 = some c := rfl
theorem at7_3 {α : Type} {a b c d e f g : α} : atI [a, b, c, d, e, f, g] 3 = some d := rfl
theorem at7_4 {α : Type} {a b c d e f g : α} : atI [a, b, c, d, e, f, g] 4 = some e := rfl
theorem at7_5 {α : Type} {a b c d e f g : α} : atI [a, b, c, d, e, f, g] 5 = some f := rfl
theorem at7_6 {α : Type} {a b c d e f g : α} : atI [a, b, c, d, e, f, g] 6 = some g := rfl
theorem at8_0 {α : Type} {a b c d e f g h : α} : atI [a, b, c, d, e, f, g, h] 0 = some a := rfl
theorem at8_1 {α : Type} {a b c d e f g h : α} : atI [a, b, c, d, e, f, g, h] 1 = some b := rfl
theorem at8_2 {α : Type} {a b c d e f g h : α} : atI [a, b, c, d, e, f, g, h] 2 = some c := rfl
theorem at8_3 {α : Type} {a b c d e f g h : α} : atI [a, b, c, d, e, f, g, h] 3 = some d := rfl
theorem at8_4 {α : Type} {a b c d e f g h : α} : atI [a, b, c, d, e, f, g, h] 4 = some e := rfl
theorem at8_5 {α : Type} {a b c d e f g h : α} : atI [a, b, c, d, e, f, g, h] 5 = some f := rfl
theorem at8_6 {α : Type} {a b c d e f g h : α} : atI [a, b, c, d, e, f, g, h] 6 = some g := rfl
theorem at8_7 {α : Type} {a b c d e f g h : α} : atI [a, b, c, d, e, f, g, h] 7 = some h := rfl
theorem sl_0 : (0 ≤ sizeLine) = True := eq_true (Nat.zero_le _)
theorem sl_1 : (1 ≤ sizeLine) = True := eq_true (by rw [sizeLine_eq]; decide)
theorem sl_2 : (2 ≤ sizeLine) = True := eq_true (by rw [sizeLine_eq]; decide)
theorem sl_3 : (3 ≤ sizeLine) = True := eq_true (by rw [sizeLine_eq]; decide)
theorem sl_4 : (4 ≤ sizeLine) = True := eq_true (by rw [sizeLine_eq]; decide)
theorem sl_5 : (5 ≤ sizeLine) = True := eq_true (by rw [sizeLine_eq]; decide)
theorem sl_6 : (6 ≤ sizeLine) = True := eq_true (by rw [sizeLine_eq]; decide)
theorem sl_7 : (7 ≤ sizeLine) = True := eq_true (by rw [sizeLine_eq]; decide)
theorem sl_8 : (8 ≤ sizeLine) = True := eq_true (by rw [sizeLine_eq]; decide)
theorem at2_if {a b : Int} {c : Prop} [Decidable c] : atI [D.int a, D.int b] (if c then 1 else 0) = some (.int (if c then b else a)) := by split <;> rfl
theorem ixn2_0 : ixN 2 0 = some 0 := rfl
theorem ixn2_1 : ixN 2 1 = some 1 := rfl
theorem ixn3_0 : ixN 3 0 = some 0 := rfl
theorem ixn3_1 : ixN 3 1 = some 1 := rfl
theorem ixn3_2 : ixN 3 2 = some 2 := rfl
end Zed
end
section
set_option maxHeartbeats 4000000
/-! ZData: plain data, equal to itself; comprehensions that change nothing. -/
namespace Zed
open PySem PySem.Spec PyProof.Rows L2
/-- plain data, at most n deep -/
def Pl : Nat → D → Prop
  | _, .non => True
  | _, .bl _ => True
  | _, .int _ => True
  | _, .str x => PyData.canLay0 (.str x) = true
  | n + 1, .tup xs => ∀ x ∈ xs, Pl n x
  | n + 1, .fl xs => ∀ x ∈ xs, Pl n x
  | _, _ => False
theorem toPs_map : ∀ xs : List D, toPs xs = xs.map D.toP
  | [] => by rw [toPs]; rfl
  | x :: xs => by rw [toPs, toPs_map xs]; rfl
theorem lay_all {n : Nat} (ih : ∀ d : D, Pl n d → PyData.canLay0 d.toP = true ∧ PyData.depth d.toP ≤ n ∧ PyData.eqv d.toP d.toP = true) : ∀ xs : List D, (∀ x ∈ xs, Pl n x) → PyData.canLayAll0 (toPs xs) = true ∧ PyData.depthAll (toPs xs) ≤ n ∧ PyData.eqvAll (toPs xs) (toPs xs) = true
  | [], _ => ⟨by simp [toPs, PyData.canLayAll0], by simp [toPs, PyData.depthAll], by simp [toPs, PyData.eqvAll]⟩
  | x :: xs, h => by
    obtain ⟨a, b, c⟩ := ih x (h x List.mem_cons_self)
    obtain ⟨d, e, f⟩ := lay_all ih xs fun y hy => h y (List.mem_cons_of_mem _ hy)
    rw [toPs]
    refine ⟨?_, ?_, ?_⟩
    · rw [PyData.canLayAll0, a, d]; rfl
    · rw [PyData.depthAll]; omega
    · rw [PyData.eqvAll, c, f]; rfl
theorem Pl.all : ∀ {n : Nat} {d : D}, Pl n d → PyData.canLay0 d.toP = true ∧ PyData.depth d.toP ≤ n ∧ PyData.eqv d.toP d.toP = true
  | n, .non, _ => by rw [D.toP]; exact ⟨rfl, Nat.zero_le _, rfl⟩
  | n, .bl b, _ => by rw [D.toP]; exact ⟨rfl, Nat.zero_le _, by simp [PyData.eqv]⟩
  | n, .int b, _ => by rw [D.toP]; exact ⟨rfl, Nat.zero_le _, by simp [PyData.eqv]⟩
  | n, .str x, h => by
    have h : PyData.canLay0 (.str x) = true := by
      cases n <;> exact h
    rw [D.toP]; exact ⟨h, by simp [PyData.depth], by simp [PyData.eqv]⟩
  | 0, .tup xs, h => h.elim
  | 0, .fl xs, h => h.elim
  | n + 1, .tup xs, h => by
    obtain ⟨a, b, c⟩ := lay_all (fun d hd => Pl.all (n := n) (d := d) hd) xs h
    rw [D.toP]
    exact ⟨by rw [PyData.canLay0]; exact a, by rw [PyData.depth]; omega, by rw [PyData.eqv]; exact c⟩
  | n + 1, .fl xs, h => by
    obtain ⟨a, b, c⟩ := lay_all (fun d hd => Pl.all (n := n) (d := d) hd) xs h
    rw [D.toP]
    exact ⟨by rw [PyData.canLay0]; exact a, by rw [PyData.depth]; omega, by rw [PyData.eqv]; exact c⟩
  | 0, .ty _, h => h.elim
  | 0, .ref _, h => h.elim
  | 0, .obj _ _, h => h.elim
  | _ + 1, .ty _, h => h.elim
  | _ + 1, .ref _, h => h.elim
  | _ + 1, .obj _ _, h => h.elim
theorem Pl.shaped {n : Nat} {d : D} (h : Pl n d) (hn : n ≤ 64) : SeqAt.shaped d.toP = true := by
  obtain ⟨a, b, _⟩ := h.all
  unfold SeqAt.shaped
  rw [a, Bool.true_and]
  exact decide_eq_true (Nat.le_trans b hn)
theorem Pl.eq {n : Nat} {d : D} (h : Pl n d) : PyData.eqv d.toP d.toP = true := h.all.2.2
theorem pl_ints (xs : List Int) : ∀ x ∈ xs.map D.int, Pl 0 x := fun x hx => by
  obtain ⟨i, _, rfl⟩ := List.mem_map.mp hx
  exact True.intro
theorem pl_tup (xs : List Int) : Pl 1 (.tup (xs.map .int)) := pl_ints xs
theorem pl_fl (xs : List Int) : Pl 1 (.fl (xs.map .int)) := pl_ints xs
theorem eqv_tup_nil (xs : List D) : PyData.eqv (D.tup xs).toP (D.tup []).toP = xs.isEmpty := by
  rw [D.toP, D.toP, PyData.eqv]
  cases xs with
  | nil => simp [toPs, PyData.eqvAll]
  | cons x xs => simp [toPs, PyData.eqvAll]
theorem oEq_tup {n : Nat} {xs : List D} {m : Mu} {Q : QE} (h : Pl n (.tup xs)) (hn : n ≤ 64) (q : Q (.bl true) m) : oEq (.tup xs) (.tup xs) m Q := by
  rw [q_oEq_2]
  exact ⟨h.shaped hn, h.shaped hn, by rw [h.eq]; exact q⟩
theorem oNe_tup {n : Nat} {xs : List D} {m : Mu} {Q : QE} (h : Pl n (.tup xs)) (hn : n ≤ 64) (q : Q (.bl false) m) : oNe (.tup xs) (.tup xs) m Q := by
  rw [q_oNe_2]
  exact ⟨h.shaped hn, h.shaped hn, by rw [h.eq]; exact q⟩
theorem q_oEq_fl {xs ys : List D} {m : Mu} {Q : QE} : oEq (.fl xs) (.fl ys) m Q = (SeqAt.shaped (D.fl xs).toP = true ∧ SeqAt.shaped (D.fl ys).toP = true ∧ Q (.bl (PyData.eqv (D.fl xs).toP (D.fl ys).toP)) m) := rfl
theorem q_oNe_fl {xs ys : List D} {m : Mu} {Q : QE} : oNe (.fl xs) (.fl ys) m Q = (SeqAt.shaped (D.fl xs).toP = true ∧ SeqAt.shaped (D.fl ys).toP = true ∧ Q (.bl (!PyData.eqv (D.fl xs).toP (D.fl ys).toP)) m) := rfl
theorem oEq_fl {n : Nat} {xs : List D} {m : Mu} {Q : QE} (h : Pl n (.fl xs)) (hn : n ≤ 64) (q : Q (.bl true) m) : oEq (.fl xs) (.fl xs) m Q := by
  rw [q_oEq_fl]
  exact ⟨h.shaped hn, h.shaped hn, by rw [h.eq]; exact q⟩
theorem oNe_fl {n : Nat} {xs : List D} {m : Mu} {Q : QE} (h : Pl n (.fl xs)) (hn : n ≤ 64) (q : Q (.bl false) m) : oNe (.fl xs) (.fl xs) m Q := by
  rw [q_oNe_fl]
  exact ⟨h.shaped hn, h.shaped hn, by rw [h.eq]; exact q⟩
theorem oEq_str {x y : Str} {m : Mu} {Q : QE} (hx : PyData.canLay0 (.str x) = true) (hy : PyData.canLay0 (.str y) = true) (q : Q (.bl (x == y)) m) : oEq (.str x) (.str y) m Q := by
  have sh : ∀ z, PyData.canLay0 (.str z) = true → SeqAt.shaped (D.str z).toP = true := fun z hz => Pl.shaped (n := 0) hz (by decide)
  refine ⟨sh x hx, sh y hy, ?_⟩
  show Q (.bl (PyData.eqv (D.str x).toP (D.str y).toP)) m
  rw [D.toP, D.toP, PyData.eqv]
  exact q
theorem oNe_str {x y : Str} {m : Mu} {Q : QE} (hx : PyData.canLay0 (.str x) = true) (hy : PyData.canLay0 (.str y) = true) (q : Q (.bl (!(x == y))) m) : oNe (.str x) (.str y) m Q := by
  have sh : ∀ z, PyData.canLay0 (.str z) = true → SeqAt.shaped (D.str z).toP = true := fun z hz => Pl.shaped (n := 0) hz (by decide)
  refine ⟨sh x hx, sh y hy, ?_⟩
  show Q (.bl (!PyData.eqv (D.str x).toP (D.str y).toP)) m
  rw [D.toP, D.toP, PyData.eqv]
  exact q
theorem eqv_fl_nil (xs : List D) : PyData.eqv (D.fl xs).toP (D.fl []).toP = xs.isEmpty := by
  rw [D.toP, D.toP, PyData.eqv]
  cases xs with
  | nil => simp [toPs, PyData.eqvAll]
  | cons x xs => simp [toPs, PyData.eqvAll]
theorem oNe_fl_nil {n : Nat} {xs : List D} {m : Mu} {Q : QE} (h : Pl n (.fl xs)) (hn : n ≤ 64) (q : Q (.bl (!xs.isEmpty)) m) : oNe (.fl xs) (.fl []) m Q := by
  rw [q_oNe_fl, eqv_fl_nil]
  exact ⟨h.shaped hn, Pl.shaped (n := 1) (d := .fl []) (fun x hx => by cases hx) (by decide), q⟩
theorem oNe_tup_nil {n : Nat} {xs : List D} {m : Mu} {Q : QE} (h : Pl n (.tup xs)) (hn : n ≤ 64) (q : Q (.bl (!xs.isEmpty)) m) : oNe (.tup xs) (.tup []) m Q := by
  rw [q_oNe_2, eqv_tup_nil]
  exact ⟨h.shaped hn, Pl.shaped (n := 1) (d := .tup []) (fun x hx => by cases hx) (by decide), q⟩
theorem oEq_tup_nil {n : Nat} {xs : List D} {m : Mu} {Q : QE} (h : Pl n (.tup xs)) (hn : n ≤ 64) (q : Q (.bl xs.isEmpty) m) : oEq (.tup xs) (.tup []) m Q := by
  rw [q_oEq_2, eqv_tup_nil]
  exact ⟨h.shaped hn, Pl.shaped (n := 1) (d := .tup []) (fun x hx => by cases hx) (by decide), q⟩
/-- a list that may change, told empty -/
theorem oNe_ref_nil {n : Nat} {a : Addr} {xs : List D} {m : Mu} {Q : QE} (ha : m a = some (.lst xs)) (h : Pl n (.fl xs)) (hn : n ≤ 64) (q : Q (.bl (!xs.isEmpty)) m) : oNe (.ref a) (.fl []) m Q := by
  show SeqAt.shaped (rsD m (.ref a)).toP = true ∧ _ ∧ Q (.bl (!PyData.eqv (rsD m (.ref a)).toP (D.fl []).toP)) m
  have e : rsD m (.ref a) = .fl xs := by
    show (match m a with | some (.lst xs) => D.fl xs | _ => .ref a) = _
    rw [ha]
  rw [e, eqv_fl_nil]
  exact ⟨h.shaped hn, Pl.shaped (n := 1) (d := .fl []) (fun x hx => by cases hx) (by decide), q⟩
/-! ### what stands -/
def Ext (m m' : Mu) : Prop := ∀ b, m b ≠ none → m' b = m b
theorem Ext.refl (m : Mu) : Ext m m := fun _ _ => rfl
theorem Ext.trans {m m1 m2 : Mu} (h : Ext m m1) (g : Ext m1 m2) : Ext m m2 := fun b hb => by
  rw [g b (by rw [h b hb]; exact hb), h b hb]
theorem Ext.upd {m : Mu} {p : Addr} (h : m p = none) (o : MO) : Ext m (updM m p o) := fun b hb => by
  unfold updM
  rw [if_neg (fun e => hb (by rw [e]; exact h))]
theorem Ext.upd2 {m m2 : Mu} {p : Addr} (h : Ext m m2) (np : m p = none) (o : MO) : Ext m (updM m2 p o) := fun b hb => by
  unfold updM
  rw [if_neg (fun e => hb (by rw [e]; exact np))]
  exact h b hb
theorem updM_id {m : Mu} {p : Addr} {o : MO} (h : m p = some o) : updM m p o = m := by
  funext b
  unfold updM
  by_cases e : b = p
  · rw [if_pos e, e, h]
  · rw [if_neg e]
theorem Ext.at {m m2 : Mu} {p : Addr} {o : MO} (h : Ext m m2) (hp : m p = some o) : m2 p = some o := by
  rw [h p (by rw [hp]; exact fun e => by cases e), hp]
theorem atI_end {xs : List D} {x : D} (h : xs.getLast? = some x) : atI xs (-1) = some x := by
  have hx : xs ≠ [] := fun e => by rw [e] at h; cases h
  have e := List.dropLast_concat_getLast hx
  have e2 : xs.getLast hx = x := by
    rw [List.getLast?_eq_getLast hx] at h
    exact Option.some.inj h
  rw [e2] at e
  rw [← e]
  exact atI_last _ _
/-! ### comprehensions -/
/-- items by place, all of them -/
theorem comp_map {wk : Wk} {g : ZTG} {t : ZTT} {e : ZTE} {vs : List Nat} {ρ : ZEnv} {m : Mu} {Q : QE} (f : Nat → D) (hs : wk.n ≤ sizeLine) (hi : wk.inv m)
    (h : ∀ i, i < wk.n → ∀ (K1 : QE) (K2 : Mu → Prop), K1 (f i) m → g (wk.item i) (wipeZ ρ vs) m (fun ρ2 m2 => t ρ2 m2 (fun c m3 => if c = true then e ρ2 m3 K1 noX else K2 m3) noX) noX)
    (hq : Q (.fl ((List.range wk.n).map f)) m) : CompP wk g t e vs ρ m Q := by
  refine comp_i (fun i acc m' => i ≤ wk.n ∧ acc = (List.range i).map f ∧ m' = m) ⟨Nat.zero_le _, rfl, rfl⟩ ?_
  rintro i acc m' ⟨hl, rfl, rfl⟩
  refine ⟨hi, fun hlt => ?_, fun e => by rw [e]; exact hq⟩
  refine h i hlt _ _ ⟨?_, hlt, ?_, rfl⟩
  · rw [List.length_map, List.length_range]; omega
  · rw [List.range_succ, List.map_append]; rfl
/-- some of them -/
theorem comp_filter {wk : Wk} {g : ZTG} {t : ZTT} {e : ZTE} {vs : List Nat} {ρ : ZEnv} {m : Mu} {Q : QE} (f : Nat → D) (p : Nat → Bool) (hs : wk.n ≤ sizeLine) (hi : wk.inv m)
    (h : ∀ i, i < wk.n → ∀ (K1 : QE) (K2 : Mu → Prop), (p i = true → K1 (f i) m) → (p i = false → K2 m) → g (wk.item i) (wipeZ ρ vs) m (fun ρ2 m2 => t ρ2 m2 (fun c m3 => if c = true then e ρ2 m3 K1 noX else K2 m3) noX) noX)
    (hq : Q (.fl (((List.range wk.n).filter p).map f)) m) : CompP wk g t e vs ρ m Q := by
  refine comp_i (fun i acc m' => i ≤ wk.n ∧ acc = ((List.range i).filter p).map f ∧ m' = m) ⟨Nat.zero_le _, rfl, rfl⟩ ?_
  rintro i acc m' ⟨hl, rfl, rfl⟩
  refine ⟨hi, fun hlt => ?_, fun e => by rw [e]; exact hq⟩
  refine h i hlt _ _ (fun hp => ⟨?_, hlt, ?_, rfl⟩) (fun hp => ⟨hlt, ?_, rfl⟩)
  · rw [List.length_map]
    have := List.length_filter_le p (List.range i)
    rw [List.length_range] at this
    omega
  · rw [List.range_succ, List.filter_append, List.map_append]
    simp [hp]
  · rw [List.range_succ, List.filter_append, List.map_append]
    simp [hp]
def CompPM (wk : Wk) (g : ZTG) (t : ZTT) (e : ZTE) (vs : List Nat) (ρ : ZEnv) (m : Mu) (Q : QE) : Prop := ∃ I : Nat → List D → Mu → Prop, I 0 [] m ∧ ∀ i acc m, I i acc m → wk.inv m ∧
  (i < wk.n → g (wk.item i) (wipeZ ρ vs) m (fun ρ2 m2 => t ρ2 m2 (fun c m3 => if c = true then e ρ2 m3 (fun y m4 => acc.length < sizeLine ∧ I (i + 1) (acc ++ [y]) m4) noX else I (i + 1) acc m3) noX) noX) ∧ (i = wk.n → ∀ p, m p = none → Q (.ref p) (updM m p (.lst acc)))
theorem comp_eM {it : ZTI} {g : ZTG} {t : ZTT} {e : ZTE} {vs : List Nat} {ρ : ZEnv} {m : Mu} {Q : QE} {E : QX} : zlcM it g t e vs ρ m Q E = it ρ m (fun wk m1 => CompPM wk g t e vs ρ m1 Q) E := rfl
theorem comp_mapM {wk : Wk} {g : ZTG} {t : ZTT} {e : ZTE} {vs : List Nat} {ρ : ZEnv} {m : Mu} {Q : QE} (f : Nat → D) (hs : wk.n ≤ sizeLine) (hi : wk.inv m)
    (h : ∀ i, i < wk.n → ∀ (K1 : QE) (K2 : Mu → Prop), K1 (f i) m → g (wk.item i) (wipeZ ρ vs) m (fun ρ2 m2 => t ρ2 m2 (fun c m3 => if c = true then e ρ2 m3 K1 noX else K2 m3) noX) noX)
    (hq : ∀ p, m p = none → Q (.ref p) (updM m p (.lst ((List.range wk.n).map f)))) : CompPM wk g t e vs ρ m Q := by
  refine ⟨fun i acc m' => i ≤ wk.n ∧ acc = (List.range i).map f ∧ m' = m, ⟨Nat.zero_le _, rfl, rfl⟩, ?_⟩
  rintro i acc m' ⟨hl, rfl, rfl⟩
  refine ⟨hi, fun hlt => ?_, fun e => by rw [e]; exact hq⟩
  refine h i hlt _ _ ⟨?_, hlt, ?_, rfl⟩
  · rw [List.length_map, List.length_range]; omega
  · rw [List.range_succ, List.map_append]; rfl
theorem ixN_nat {n j : Nat} (h : j < n) : ixN n (j : Int) = some j := by
  unfold ixN
  rw [if_pos (Int.natCast_nonneg j), if_pos (by omega)]
  rfl
theorem range_getD {α β : Type} (xs : List α) (d : α) (f : α → β) : (List.range xs.length).map (fun i => f (xs.getD i d)) = xs.map f := by
  apply List.ext_getElem
  · simp
  · intro i h1 h2
    have h3 : i < xs.length := by simpa using h2
    simp [h3, List.getD_eq_getElem?_getD]
/-- any, all of truths -/
theorem cAny_bls {bs : List Bool} {m : Mu} {Q : QE} (q : Q (.bl (bs.any id)) m) : cAny [.fl (bs.map .bl)] m Q := by
  simp only [cAny, cBls, q_seqD_1, blsD_map]
  exact q
theorem cAll_bls {bs : List Bool} {m : Mu} {Q : QE} (q : Q (.bl (bs.all id)) m) : cAll [.fl (bs.map .bl)] m Q := by
  simp only [cAll, cBls, q_seqD_1, blsD_map]
  exact q
/-! ### pairs of numbers -/
def pr (p : Int × Int) : D := .tup [.int p.1, .int p.2]
theorem getD_prs {ps : List (Int × Int)} {i : Nat} (h : i < ps.length) : (ps.map pr).getD i .non = .tup [.int (ps.getD i (0, 0)).1, .int (ps.getD i (0, 0)).2] := by
  simp [List.getD_eq_getElem?_getD, h, pr]
theorem pl_prs (ps : List (Int × Int)) : Pl 2 (.tup (ps.map pr)) := fun x hx => by
  obtain ⟨p, _, rfl⟩ := List.mem_map.mp hx
  intro y hy
  rcases List.mem_cons.mp hy with rfl | hy
  · exact True.intro
  · rw [List.mem_singleton.mp hy]
    exact True.intro
theorem all_rep (k : Nat) : (List.replicate k true).all id = true := by
  induction k with
  | zero => rfl
  | succ k ih => rw [List.replicate_succ, List.all_cons, ih]; rfl
theorem rng_bl (k : Nat) : (List.range k).map (fun _ => D.bl true) = (List.replicate k true).map .bl := by
  rw [List.map_const', List.length_range, List.map_replicate]
theorem lt_len {α β : Type} {f : α → β} {xs : List α} {i : Nat} (h : i < (xs.map f).length) : i < xs.length := by rwa [List.length_map] at h
theorem eq_len {α β : Type} {f : α → β} {xs : List α} {i : Nat} (h : i = (xs.map f).length) : i = xs.length := by rwa [List.length_map] at h
theorem getD_mem {α : Type} {xs : List α} {i : Nat} {d : α} (h : i < xs.length) : xs.getD i d ∈ xs := by
  rw [List.getD_eq_getElem?_getD, List.getElem?_eq_getElem h]
  exact List.getElem_mem h
end Zed
end
section
set_option maxHeartbeats 4000000
/-! ZLib1: limbs.py. -/
namespace Zed
open PySem PySem.Spec PyProof.Rows L2
local macro_rules | `(tactic| walk_at "zs") => `(tactic| simp only [zv, zc, zop, zun, anil, acons, ztup, zfl, zlst, zbl, zcall, zcallK, tvl, ttr, tand, tor, tnot, zand, zor, zorT, znot, zif, zchn, zsl, onone, osome, zrev, zrevA, zisi, gn, gnil, gcons, gtup, gsub, snil, sseq, sexp, sret, sretN, sif, sasg, sset, spar, spar3, saug, wkL, zapp, zpop, zseal, xat, snever, tyes, ilist, itup, istr, irng1, irng2, irng3, ienum, ienumT, izip, irev, wipeZ, zev, oAddL, isNon, at2_if, iseq, ienumT, gstar, gtupA, saugS, oGetL, sl_0, sl_1, sl_2, sl_3, sl_4, sl_5, sl_6, sl_7, sl_8, at1_0, at2_0, at2_1, at3_0, at3_1, at3_2, at4_0, at4_1, at4_2, at4_3, at5_0, at5_1, at5_2, at5_3, at5_4, at6_0, at6_1, at6_2, at6_3, at6_4, at6_5, at7_0, at7_1, at7_2, at7_3, at7_4, at7_5, at7_6, at8_0, at8_1, at8_2, at8_3, at8_4, at8_5, at8_6, at8_7, ixn2_0, ixn2_1, ixn3_0, ixn3_1, ixn3_2, cp_2, vp_2, cp_3, vp_3, cp_6, vp_6, cp_7, vp_7, cp_18, vp_18, cp_60, vp_60, q_truD_1, q_truD_2, q_truD_3, q_truD_4, q_truD_5, q_truD_6, q_oAdd_1, q_oAdd_2, q_oAdd_3, q_oAdd_4, q_oInt_1, q_oSub_1, q_oLt_1, q_oEq_1, q_oNe_1, q_oNe_2, q_oEq_2, q_oIs_1, q_oIs_2, q_oIsNot_1, q_oIsNot_2, q_oNeg_1, q_cAbs_1, q_cMax_1, q_cMin_1, q_cInt_1, q_cInt_2, q_cDivmod_1, q_lenD_1, q_lenD_2, q_lenD_3, q_cLen_1, q_cTuple_1, q_cTuple_2, q_cTuple_3, q_cListF_1, q_cListF_2, q_cListF_3, q_cList_1, q_cList_2, q_seqD_1, q_seqD_2, q_lenD_4, q_oIx_1, q_oIx_2, q_oIx_4, q_oSl_1, q_oSl_2, q_oSl_3, q_oSl_4, q_tyD_1, q_tyD_2, q_tyD_3, q_tyD_4, q_tyD_5, q_tyD_6, q_cIsi_1, q_oSet_1, q_oIAdd_1, q_oIAdd_2, List.getD_cons_zero, List.getD_cons_succ, List.take_zero, List.drop_zero, updM_same, updM_upd, dropM_updM, isi_ii, isi_bi, isi_ib, isi_bb, isi_tt, List.map_cons, List.map_nil, List.replicate_succ, List.replicate_zero, List.cons_append, List.nil_append, List.append_nil, List.set_cons_zero, List.set_cons_succ, List.getElem?_cons_zero, List.getElem?_cons_succ, List.length_cons, List.length_nil, Bool.false_eq_true, if_true, if_false, Bool.not_true, Bool.not_false, Bool.not_eq_true, Bool.not_eq_false', decide_eq_true_eq, true_and, and_true, exists_eq_left', Nat.reduceAdd, Nat.reduceSub, reduceCtorEq, decide_true, decide_false, Bool.true_eq_false, ite_true, ite_false])
/-! ### figures by a base -/
def digF (b : Int) : Nat → Int → List Int
  | 0, _ => []
  | k + 1, n => if 0 < n then n % b :: digF b k (n / b) else []
def digs (b n : Int) : List Int := digF b n.toNat n
def vals (b : Int) : List Int → Int
  | [] => 0
  | x :: xs => x + b * vals b xs
theorem div_lt {b n : Int} (hb : 2 ≤ b) (hn : 0 < n) : n / b < n := by
  have h1 := Int.ediv_mul_le n (show b ≠ 0 by omega)
  have h2 : 0 ≤ n / b := Int.ediv_nonneg (by omega) (by omega)
  have h3 : n / b * 2 ≤ n / b * b := Int.mul_le_mul_of_nonneg_left hb h2
  omega
theorem digF_more {b : Int} (hb : 2 ≤ b) : ∀ (k j : Nat) (n : Int), n.toNat ≤ k → n.toNat ≤ j → digF b k n = digF b j n
  | 0, 0, _, _, _ => rfl
  | 0, j + 1, n, h, _ => by
    have : ¬ 0 < n := by omega
    simp only [digF, this, if_false]
  | k + 1, 0, n, _, h => by
    have : ¬ 0 < n := by omega
    simp only [digF, this, if_false]
  | k + 1, j + 1, n, h1, h2 => by
    simp only [digF]
    split
    · rename_i hn
      have hd := div_lt hb hn
      have h0 : 0 ≤ n / b := Int.ediv_nonneg (by omega) (by omega)
      rw [digF_more hb k j (n / b) (by omega) (by omega)]
    · rfl
theorem digs_pos {b n : Int} (hb : 2 ≤ b) (hn : 0 < n) : digs b n = n % b :: digs b (n / b) := by
  have hd := div_lt hb hn
  have h0 : 0 ≤ n / b := Int.ediv_nonneg (by omega) (by omega)
  obtain ⟨k, hk⟩ : ∃ k, n.toNat = k + 1 := ⟨n.toNat - 1, by omega⟩
  unfold digs
  rw [hk]
  simp only [digF, hn, if_true]
  rw [digF_more hb k (n / b).toNat (n / b) (by omega) (by omega)]
theorem digs_zero {b n : Int} (hn : n ≤ 0) : digs b n = [] := by
  have h : n.toNat = 0 := by omega
  unfold digs
  rw [h]
  rfl
theorem digs_ind {b : Int} (hb : 2 ≤ b) {P : Int → Prop} (h0 : ∀ n, n ≤ 0 → P n) (h1 : ∀ n, 0 < n → P (n / b) → P n) : ∀ n, P n := by
  have key : ∀ (k : Nat) (n : Int), n.toNat ≤ k → P n := by
    intro k
    induction k with
    | zero => intro n h; exact h0 n (by omega)
    | succ k ih =>
      intro n h
      by_cases hn : 0 < n
      · have hd := div_lt hb hn
        exact h1 n hn (ih _ (by omega))
      · exact h0 n (by omega)
  exact fun n => key _ n (Nat.le_refl _)
theorem vals_digs {b n : Int} (hb : 2 ≤ b) (hn : 0 ≤ n) : vals b (digs b n) = n := by
  revert hn
  refine digs_ind hb (P := fun n => 0 ≤ n → vals b (digs b n) = n) (fun n h h' => ?_) (fun n h ih _ => ?_) n
  · rw [digs_zero h]
    show (0 : Int) = n
    omega
  · rw [digs_pos hb h]
    show n % b + b * vals b (digs b (n / b)) = n
    rw [ih (Int.ediv_nonneg (by omega) (by omega))]
    exact Int.emod_add_mul_ediv n b
theorem digs_mem {b n : Int} (hb : 2 ≤ b) : ∀ x ∈ digs b n, 0 ≤ x ∧ x < b := by
  refine digs_ind hb (P := fun n => ∀ x ∈ digs b n, 0 ≤ x ∧ x < b) (fun n h => ?_) (fun n h ih => ?_) n
  · rw [digs_zero h]
    intro x hx
    cases hx
  · rw [digs_pos hb h]
    intro x hx
    rcases List.mem_cons.mp hx with e | e
    · subst e
      exact ⟨Int.emod_nonneg _ (by omega), Int.emod_lt_of_pos _ (by omega)⟩
    · exact ih x e
theorem digs_last {b n : Int} (hb : 2 ≤ b) : ∀ x, (digs b n).getLast? = some x → x ≠ 0 := by
  refine digs_ind hb (P := fun n => ∀ x, (digs b n).getLast? = some x → x ≠ 0) (fun n h => ?_) (fun n h ih => ?_) n
  · rw [digs_zero h]
    intro x hx
    cases hx
  · rw [digs_pos hb h]
    intro x hx
    by_cases hq : 0 < n / b
    · rw [digs_pos hb hq, List.getLast?_cons_cons, ← digs_pos hb hq] at hx
      exact ih x hx
    · rw [digs_zero (show n / b ≤ 0 by omega)] at hx
      have hx' : n % b = x := by simpa using hx
      have h1 := Int.emod_add_mul_ediv n b
      have h2 : 0 ≤ n / b := Int.ediv_nonneg (by omega) (by omega)
      have h3 : n / b = 0 := by omega
      rw [h3, Int.mul_zero] at h1
      omega
theorem digs_len {b : Int} (hb : 2 ≤ b) : ∀ (k : Nat) (n : Int), n < 2 ^ k → (digs b n).length ≤ k := by
  intro k
  induction k with
  | zero =>
    intro n h
    rw [digs_zero (by omega)]
    exact Nat.le_refl _
  | succ k ih =>
    intro n h
    by_cases hn : 0 < n
    · rw [digs_pos hb hn, List.length_cons]
      have h2 : n / b < 2 ^ k := by
        have h3 : n / b ≤ n / 2 := by
          have h5 : 0 ≤ n / b := Int.ediv_nonneg (by omega) (by omega)
          have h6 := Int.ediv_mul_le n (show b ≠ 0 by omega)
          have h7 : n / b * 2 ≤ n / b * b := Int.mul_le_mul_of_nonneg_left hb h5
          omega
        have h4 : (2 : Int) ^ (k + 1) = 2 ^ k * 2 := Int.pow_succ 2 k
        omega
      exact Nat.succ_le_succ (ih _ h2)
    · rw [digs_zero (by omega)]
      exact Nat.zero_le _
theorem vals_nn {b : Int} (hb : 0 ≤ b) : ∀ {xs : List Int}, (∀ x ∈ xs, 0 ≤ x) → 0 ≤ vals b xs
  | [], _ => Int.le_refl 0
  | x :: xs, h => by
    have h1 := h x List.mem_cons_self
    have h2 := vals_nn hb fun y hy => h y (List.mem_cons_of_mem _ hy)
    have h3 := Int.mul_nonneg hb h2
    show 0 ≤ x + b * vals b xs
    omega
theorem vals_lt {b : Int} (hb : 1 ≤ b) : ∀ {xs : List Int}, (∀ x ∈ xs, 0 ≤ x ∧ x < b) → vals b xs < b ^ xs.length
  | [], _ => by
    show (0 : Int) < b ^ 0
    rw [Int.pow_zero]
    decide
  | x :: xs, h => by
    have h1 := h x List.mem_cons_self
    have h2 := vals_lt hb fun y hy => h y (List.mem_cons_of_mem _ hy)
    have h3 : b * vals b xs ≤ b * (b ^ xs.length - 1) := Int.mul_le_mul_of_nonneg_left (by omega) (by omega)
    show x + b * vals b xs < b ^ (xs.length + 1)
    rw [Int.pow_succ, Int.mul_comm _ b]
    have h4 : b * (b ^ xs.length - 1) = b * b ^ xs.length - b := by rw [Int.mul_sub, Int.mul_one]
    omega
/-- figures, the last one above 0, are those of their number -/
theorem digs_vals {b : Int} (hb : 2 ≤ b) : ∀ {xs : List Int}, (∀ x ∈ xs, 0 ≤ x ∧ x < b) → (∀ x, xs.getLast? = some x → x ≠ 0) → digs b (vals b xs) = xs
  | [], _, _ => digs_zero (Int.le_refl 0)
  | x :: xs, h, hl => by
    have h1 := h x List.mem_cons_self
    have hr : ∀ y ∈ xs, 0 ≤ y ∧ y < b := fun y hy => h y (List.mem_cons_of_mem _ hy)
    have h2 : 0 ≤ vals b xs := vals_nn (by omega) fun y hy => (hr y hy).1
    have hl2 : ∀ y, xs.getLast? = some y → y ≠ 0 := fun y hy => hl y (by
      cases xs with
      | nil => cases hy
      | cons z zs => rw [List.getLast?_cons_cons]; exact hy)
    have ih := digs_vals hb hr hl2
    have hm : (x + b * vals b xs) % b = x := by
      rw [Int.add_mul_emod_self_left]
      exact Int.emod_eq_of_lt h1.1 h1.2
    have hd : (x + b * vals b xs) / b = vals b xs := by
      rw [Int.add_mul_ediv_left _ _ (show b ≠ 0 by omega), Int.ediv_eq_zero_of_lt h1.1 h1.2, Int.zero_add]
    have hp : 0 < x + b * vals b xs := by
      have h3 := Int.mul_nonneg (show 0 ≤ b by omega) h2
      cases xs with
      | nil =>
        have := hl x rfl
        show 0 < x + b * 0
        omega
      | cons z zs =>
        have h4 : vals b (z :: zs) ≠ 0 := fun e => by
          rw [e, digs_zero (Int.le_refl 0)] at ih
          cases ih
        have h5 : 0 < vals b (z :: zs) := by omega
        have h6 := Int.mul_pos (show 0 < b by omega) h5
        omega
    show digs b (x + b * vals b xs) = x :: xs
    rw [digs_pos hb hp, hm, hd, ih]

/-! ### limbs.py -/
def b_is_whole : ZTS :=
  (sret (zand (zisi .int (zv 0)) (znot (zisi .bool (zv 0)))))
def c_is_whole : ZSp := fun ds m Q _ => match ds with
  | [d] => match tyD m d with
    | some t => Q (.bl (decide (t = .int))) m
    | none => False
  | _ => False
theorem w_is_whole (ds : List D) (m : Mu) (Q : QE) (E : QX) (h : c_is_whole ds m Q E) : ds.length = 1 ∧ b_is_whole ⟨fun _ m => Q .non m, Q, fun x _ m => E x m⟩ (ds.map some ++ List.replicate (1 - ds.length) none) m := by
  unfold c_is_whole at h
  split at h
  · rename_i d
    refine ⟨rfl, ?_⟩
    split at h
    · rename_i t q
      unfold b_is_whole
      walk_at "zs"
      simp only [q]
      cases t <;> exact h
    · exact h.elim
  · exact h.elim
theorem isw_int {n : Int} {m : Mu} {Q : QE} {E : QX} : c_is_whole [.int n] m Q E = Q (.bl true) m := by
  unfold c_is_whole
  simp only [q_tyD_3, decide_true]
def b_check_number : ZTS :=
  (sif (tor (tnot (tvl (zcall c_is_whole (acons (zv 0) anil)))) (tvl (zop oLt (zv 0) (zc (.int 0))))) snever snil)
def c_check_number : ZSp := fun ds m Q _ => ∃ n : Int, ds = [.int n] ∧ 0 ≤ n ∧ Q .non m
theorem w_check_number (ds : List D) (m : Mu) (Q : QE) (E : QX) (h : c_check_number ds m Q E) : ds.length = 1 ∧ b_check_number ⟨fun _ m => Q .non m, Q, fun x _ m => E x m⟩ (ds.map some ++ List.replicate (1 - ds.length) none) m := by
  obtain ⟨n, rfl, h0, h⟩ := h
  refine ⟨rfl, ?_⟩
  unfold b_check_number
  walk_at "zs"
  simp only [c_is_whole, q_tyD_3, decide_true, Bool.not_true, Bool.false_eq_true, if_false, show ¬ n < 0 by omega, decide_false]
  exact h
def b_check_base : ZTS :=
  (sif (tor (tnot (tvl (zcall c_is_whole (acons (zv 0) anil)))) (tnot (tvl (zchn oLe oLe (zc (.int 2)) (zv 0) (zc (.int 1000000)))))) snever snil)
def c_check_base : ZSp := fun ds m Q _ => ∃ n : Int, ds = [.int n] ∧ 2 ≤ n ∧ n ≤ 1000000 ∧ Q .non m
theorem w_check_base (ds : List D) (m : Mu) (Q : QE) (E : QX) (h : c_check_base ds m Q E) : ds.length = 1 ∧ b_check_base ⟨fun _ m => Q .non m, Q, fun x _ m => E x m⟩ (ds.map some ++ List.replicate (1 - ds.length) none) m := by
  obtain ⟨n, rfl, h0, h1, h⟩ := h
  refine ⟨rfl, ?_⟩
  unfold b_check_base
  walk_at "zs"
  simp only [c_is_whole, q_tyD_3, decide_true, Bool.not_true, Bool.false_eq_true, if_false, h0, h1, if_true]
  exact h
def b_figures_of : ZTS :=
  (sseq (sset (zlst anil) 2)
    (sseq (swhile (tvl (zop oGt (zv 0) (zc (.int 0)))) (sseq (sasg (zbl (acons (zv 0) (acons (zv 1) anil)) cDivmod) (gtup 2 (gcons (gn 0) (gcons (gn 3) gnil))))
    (sexp (zapp (zv 2) (acons (zv 3) anil)))))
    (sret (zseal (zv 2)))))
def c_figures_of : ZSp := fun ds m Q _ => ∃ n b : Int, ds = [.int n, .int b] ∧ 0 ≤ n ∧ n < 2 ^ 100000 ∧ 2 ≤ b ∧ b < 2 ^ 8000 ∧ Q (.fl ((digs b n).map .int)) m
theorem w_figures_of (ds : List D) (m : Mu) (Q : QE) (E : QX) (h : c_figures_of ds m Q E) : ds.length = 2 ∧ b_figures_of ⟨fun _ m => Q .non m, Q, fun x _ m => E x m⟩ (ds.map some ++ List.replicate (4 - ds.length) none) m := by
  obtain ⟨n, b, rfl, h0, h1, h2, h3, h⟩ := h
  refine ⟨rfl, ?_⟩
  unfold b_figures_of
  walk_at "zs"
  refine fun p np => ?_
  have hlen := digs_len h2 _ n h1
  refine while_i (fun k ρ m' => ∃ (r : Int) (acc : List Int) (y : Option D), k = r.toNat ∧ 0 ≤ r ∧ acc ++ digs b r = digs b n ∧ ρ = [some (.int r), some (.int b), some (.ref p), y] ∧ m' = updM m p (.lst (acc.map .int))) n.toNat ⟨n, [], none, rfl, h0, rfl, rfl, rfl⟩ ?_
  rintro k ρ m' ⟨r, acc, y, rfl, hr, ha, rfl, rfl⟩
  walk_at "zs"
  by_cases hp : 0 < r
  · simp only [hp, decide_true, if_true]
    refine ⟨small_div (by omega) h3, ⟨_, rfl⟩, ?_⟩
    rw [digs_pos h2 hp] at ha
    have hl : acc.length < sizeLine := by
      have := congrArg List.length ha
      rw [List.length_append, List.length_cons] at this
      rw [sizeLine_eq]
      omega
    refine ⟨by rw [List.length_map]; exact hl, (r / b).toNat, ?_, r / b, acc ++ [r % b], _, rfl, Int.ediv_nonneg (by omega) (by omega), by rw [List.append_assoc]; exact ha, rfl, by rw [List.map_append]; rfl⟩
    have := div_lt h2 hp
    have h5 : 0 ≤ r / b := Int.ediv_nonneg (by omega) (by omega)
    omega
  · simp only [hp, decide_false, Bool.false_eq_true, if_false]
    rw [digs_zero (by omega), List.append_nil] at ha
    rw [dropM_updM np, ha]
    exact h
/-- a row of figures as data -/
def RowD (d : D) (xs : List Int) : Prop := d = .tup (xs.map .int) ∨ d = .fl (xs.map .int)
theorem vals_drop {b : Int} {xs : List Int} {i : Nat} (h : i < xs.length) : vals b (xs.drop (xs.length - 1 - i)) = vals b (xs.drop (xs.length - i)) * b + xs.getD (xs.length - 1 - i) 0 := by
  have h1 : xs.length - 1 - i < xs.length := by omega
  rw [List.drop_eq_getElem_cons h1, show xs.length - 1 - i + 1 = xs.length - i by omega]
  show xs[xs.length - 1 - i] + b * vals b (xs.drop (xs.length - i)) = _
  rw [List.getD_eq_getElem?_getD, List.getElem?_eq_getElem h1, Int.mul_comm b]
  exact Int.add_comm _ _
theorem getD_rev {xs : List Int} {i : Nat} (h : i < xs.length) : xs.reverse.getD i 0 = xs.getD (xs.length - 1 - i) 0 := by
  rw [List.getD_eq_getElem?_getD, List.getD_eq_getElem?_getD, List.getElem?_reverse h]
theorem vals_small {b : Int} {xs : List Int} (h0 : 1 ≤ b) (hb : b ≤ 2 ^ 20) (h : ∀ x ∈ xs, 0 ≤ x ∧ x < b) : (vals b xs).natAbs < 2 ^ (20 * xs.length + 1) := by
  have g1 := vals_nn (b := b) (by omega) fun z hz => (h z hz).1
  have g2 := vals_lt h0 h
  have g3 : (b ^ xs.length).natAbs ≤ 2 ^ (20 * xs.length) := abs_pow _ (by
    have : (2 : Int) ^ 20 = ((2 ^ 20 : Nat) : Int) := by decide
    omega)
  have g4 : 2 ^ (20 * xs.length) < 2 ^ (20 * xs.length + 1) := Nat.pow_lt_pow_right (by decide) (Nat.lt_succ_self _)
  omega
def b_put_together : ZTS :=
  (sseq (sset (zc (.int 0)) 2)
    (sseq (sfor (iseq (zrevA (zv 0))) (gn 3) (sset (zop oAdd (zop oMul (zv 2) (zv 1)) (zv 3)) 2))
    (sret (zv 2))))
def c_put_together : ZSp := fun ds m Q _ => ∃ (d : D) (xs : List Int) (b : Int), ds = [d, .int b] ∧ RowD d xs ∧ (∀ x ∈ xs, 0 ≤ x ∧ x < b) ∧ 2 ≤ b ∧ b ≤ 1000000 ∧ xs.length ≤ 15000 ∧ Q (.int (vals b xs)) m
theorem million_lt {b : Int} (h : b ≤ 1000000) : b < 2 ^ 8000 := lt_two (j := 20) (by
  have : (2 : Int) ^ 20 = 1048576 := by decide
  omega) (by decide)
theorem w_put_together (ds : List D) (m : Mu) (Q : QE) (E : QX) (h : c_put_together ds m Q E) : ds.length = 2 ∧ b_put_together ⟨fun _ m => Q .non m, Q, fun x _ m => E x m⟩ (ds.map some ++ List.replicate (4 - ds.length) none) m := by
  obtain ⟨d, xs, b, rfl, hd, hx, h0, h1, h2, h⟩ := h
  refine ⟨rfl, ?_⟩
  have hb20 : b ≤ 2 ^ 20 := by
    have : (2 : Int) ^ 20 = 1048576 := by decide
    omega
  have key : ∀ i, i < xs.length → CMulW (vals b (xs.drop (xs.length - i))) b ∧ vals b (xs.drop (xs.length - i)) * b + xs.getD (xs.length - 1 - i) 0 = vals b (xs.drop (xs.length - 1 - i)) := fun i hi => by
    refine ⟨?_, (vals_drop hi).symm⟩
    have hd : ∀ z ∈ xs.drop (xs.length - i), 0 ≤ z ∧ z < b := fun z hz => hx z (List.mem_of_mem_drop hz)
    have g1 := vals_small (by omega) hb20 hd
    refine mul_ok (a := 300001) (b := 8000) (abs_more g1 ?_) (abs_lt (by omega) (million_lt h1)) (by decide)
    rw [List.length_drop]
    omega
  unfold b_put_together
  have body : ∀ (Dz : ZEnds) (ys : List D) (inv : Mu → Prop), ys = (xs.map D.int).reverse → inv m → (∀ y, Dz.nx [some d, some (.int b), some (.int (vals b xs)), y] m) → LoopP ⟨ys.length, fun i => ys.getD i .non, inv⟩ (gn 3) (sset (zop oAdd (zop oMul (zv 2) (zv 1)) (zv 3)) 2)
      Dz [some d, some (.int b), some (.int 0), none] m := by
    intro Dz ys inv hy hi hnx
    obtain ⟨I, hI⟩ : ∃ I : Nat → ZEnv → Mu → Prop, I = fun i ρ m' => ∃ y, i ≤ xs.length ∧ ρ = [some d, some (.int b), some (.int (vals b (xs.drop (xs.length - i)))), y] ∧ m' = m := ⟨_, rfl⟩
    refine loop_i I (by rw [hI]; exact ⟨none, Nat.zero_le _, by rw [Nat.sub_zero, List.drop_length]; rfl, rfl⟩) fun i ρ m' hi' => ?_
    rw [hI] at hi'
    obtain ⟨y, hl, rfl, rfl⟩ := hi'
    have hn : ys.length = xs.length := by rw [hy]; simp
    refine ⟨hi, fun hlt => ?_, fun e => ?_⟩
    · have hlt' : i < xs.length := by rw [← hn]; exact hlt
      have ey : ys.getD i .non = .int (xs.getD (xs.length - 1 - i) 0) := by
        rw [hy, ← List.map_reverse, getD_ints, if_pos (by rw [List.length_reverse]; exact hlt'), getD_rev hlt']
      show gn 3 (ys.getD i .non) _ _ _ _
      rw [ey]
      walk_at "zs"
      obtain ⟨k1, k2⟩ := key i hlt'
      rw [k2, show xs.length - 1 - i = xs.length - (i + 1) by omega, hI]
      exact ⟨k1, _, hlt', rfl, rfl⟩
    · have e' : i = xs.length := by rw [← hn]; exact e
      subst e'
      rw [Nat.sub_self]
      exact hnx y
  rcases hd with rfl | rfl
  · walk_at "zs"
    refine for_i ?_
    walk_at "zs"
    refine body _ _ _ rfl ?_ ?_
    · trivial
    · exact fun y => h
  · walk_at "zs"
    refine for_i ?_
    walk_at "zs"
    refine body _ _ _ rfl ?_ ?_
    · trivial
    · exact fun y => h
def b_limbs_of : ZTS :=
  (sseq (sexp (zcall c_check_number (acons (zv 0) anil)))
    (sseq (sexp (zcall c_check_base (acons (zv 1) anil)))
    (sret (zbl (acons (zcall c_figures_of (acons (zv 0) (acons (zv 1) anil))) anil) cTuple))))
def c_limbs_of0 : ZSp := fun ds m Q _ => ∃ n b : Int, ds = [.int n, .int b] ∧ 0 ≤ n ∧ n < 2 ^ 100000 ∧ 2 ≤ b ∧ b ≤ 1000000 ∧ Q (.tup ((digs b n).map .int)) m
theorem w_limbs_of (ds : List D) (m : Mu) (Q : QE) (E : QX) (h : c_limbs_of0 ds m Q E) : ds.length = 2 ∧ b_limbs_of ⟨fun _ m => Q .non m, Q, fun x _ m => E x m⟩ (ds.map some ++ List.replicate (2 - ds.length) none) m := by
  obtain ⟨n, b, rfl, h0, h1, h2, h3, h⟩ := h
  refine ⟨rfl, ?_⟩
  unfold b_limbs_of
  walk_at "zs"
  exact ⟨n, rfl, h0, b, rfl, h2, h3, n, b, rfl, h0, h1, h2, million_lt h3, h⟩
theorem shaped_ints (xs : List Int) : SeqAt.shaped (D.tup (xs.map .int)).toP = true := by
  have h1 : ∀ ys : List Int, PyData.canLayAll0 (toPs (ys.map .int)) = true ∧ PyData.depthAll (toPs (ys.map .int)) = 0 := by
    intro ys
    induction ys with
    | nil => exact ⟨by simp [toPs, PyData.canLayAll0], by simp [toPs, PyData.depthAll]⟩
    | cons y ys ih =>
      rw [List.map_cons, toPs, D.toP]
      exact ⟨by rw [PyData.canLayAll0, ih.1]; rfl, by rw [PyData.depthAll, ih.2]; rfl⟩
  obtain ⟨a, b⟩ := h1 xs
  unfold SeqAt.shaped
  rw [D.toP]
  simp only [PyData.canLay0, PyData.depth, a, b, Bool.true_and]
  decide
theorem eqv_ints : ∀ xs ys : List Int, PyData.eqvAll (toPs (xs.map .int)) (toPs (ys.map .int)) = decide (xs = ys)
  | [], [] => by simp [toPs, PyData.eqvAll]
  | [], y :: ys => by
    rw [List.map_cons, List.map_nil, toPs, toPs, PyData.eqvAll]
    simp
  | x :: xs, [] => by
    rw [List.map_cons, List.map_nil, toPs, toPs, PyData.eqvAll]
    simp
  | x :: xs, y :: ys => by
    rw [List.map_cons, List.map_cons, toPs, toPs, D.toP, D.toP, PyData.eqvAll, eqv_ints xs ys, PyData.eqv]
    by_cases h1 : x = y
    · by_cases h2 : xs = ys
      · simp [h1, h2]
      · simp [h1, h2]
    · simp [h1]
theorem eqv_tups (xs ys : List Int) : PyData.eqv (D.tup (xs.map .int)).toP (D.tup (ys.map .int)).toP = decide (xs = ys) := by
  rw [D.toP, D.toP, PyData.eqv]
  exact eqv_ints xs ys
theorem atI_last_int {xs : List Int} {x : Int} (h : xs.getLast? = some x) : atI (xs.map D.int) (-1) = some (.int x) := by
  have hx : xs ≠ [] := fun e => by rw [e] at h; cases h
  have e := List.dropLast_concat_getLast hx
  have e2 : xs.getLast hx = x := by
    rw [List.getLast?_eq_getLast hx] at h
    exact Option.some.inj h
  rw [e2] at e
  rw [← e, List.map_append]
  exact atI_last _ _
def b_number_of : ZTS :=
  (sseq (sexp (zcall c_check_base (acons (zv 1) anil)))
    (sseq (sif (tnot (tvl (zisi .tuple (zv 0)))) snever snil)
    (sseq (sfor (ienumT (acons (zv 0) anil)) (gtup 2 (gcons (gn 2) (gcons (gn 3) gnil))) (sif (tor (tnot (tvl (zcall c_is_whole (acons (zv 3) anil)))) (tnot (tvl (zchn oLe oLt (zc (.int 0)) (zv 3) (zv 1))))) snever snil))
    (sseq (sif (tand (tvl (zop oNe (zv 0) (ztup anil))) (tvl (zop oEq (zop oIx (zv 0) (zun oNeg (zc (.int 1)))) (zc (.int 0))))) snever snil)
    (sret (zcall c_put_together (acons (zv 0) (acons (zv 1) anil))))))))
def c_number_of0 : ZSp := fun ds m Q _ => ∃ (xs : List Int) (b : Int), ds = [.tup (xs.map .int), .int b] ∧ (∀ x ∈ xs, 0 ≤ x ∧ x < b) ∧ (∀ x, xs.getLast? = some x → x ≠ 0) ∧ xs.length ≤ 15000 ∧ 2 ≤ b ∧ b ≤ 1000000 ∧ Q (.int (vals b xs)) m
theorem w_number_of (ds : List D) (m : Mu) (Q : QE) (E : QX) (h : c_number_of0 ds m Q E) : ds.length = 2 ∧ b_number_of ⟨fun _ m => Q .non m, Q, fun x _ m => E x m⟩ (ds.map some ++ List.replicate (4 - ds.length) none) m := by
  obtain ⟨xs, b, rfl, hx, hl, hn, h2, h3, h⟩ := h
  refine ⟨rfl, ?_⟩
  unfold b_number_of
  walk_at "zs"
  refine ⟨b, rfl, h2, h3, for_i ?_⟩
  walk_at "zs"
  obtain ⟨I, hI⟩ : ∃ I : Nat → ZEnv → Mu → Prop, I = fun i ρ m' => ∃ y z, ρ = [some (.tup (xs.map .int)), some (.int b), y, z] ∧ m' = m := ⟨_, rfl⟩
  refine loop_i I (by rw [hI]; exact ⟨_, _, rfl, rfl⟩) fun i ρ m' hi' => ?_
  rw [hI] at hi'
  obtain ⟨y, z, rfl, rfl⟩ := hi'
  refine ⟨trivial, fun hlt => ?_, fun e => ?_⟩
  · have hlt' : i < xs.length := by
      have hlt2 : i < (xs.map D.int).length := hlt
      rwa [List.length_map] at hlt2
    show gtup 2 _ (.tup [.int i, (xs.map D.int).getD i .non]) _ _ _ _
    rw [getD_ints, if_pos hlt']
    have hm := hx (xs.getD i 0) (by
      rw [List.getD_eq_getElem?_getD, List.getElem?_eq_getElem hlt']
      exact List.getElem_mem hlt')
    walk_at "zs"
    simp only [c_is_whole, q_tyD_3, decide_true, Bool.not_true, Bool.false_eq_true, if_false, hm.1, hm.2, if_true]
    rw [hI]
    exact ⟨_, _, rfl, rfl⟩
  · walk_at "zs"
    have sh0 := shaped_ints []
    rw [List.map_nil] at sh0
    have ev := eqv_tups xs []
    rw [List.map_nil] at ev
    refine ⟨shaped_ints xs, sh0, ?_⟩
    rw [ev]
    cases hxs : xs.getLast? with
    | none =>
      have e0 : xs = [] := List.getLast?_eq_none_iff.mp hxs
      subst e0
      simp only [decide_true, Bool.not_true, Bool.false_eq_true, if_false]
      exact ⟨_, [], b, rfl, .inl rfl, fun x hx => (by cases hx), h2, h3, Nat.zero_le _, h⟩
    | some x =>
      have e0 : xs ≠ [] := fun e => by rw [e] at hxs; cases hxs
      simp only [e0, decide_false, Bool.not_false, if_true, atI_last_int hxs, q_oEq_1, hl x hxs, Bool.false_eq_true, if_false]
      exact ⟨_, xs, b, rfl, .inl rfl, hx, h2, h3, hn, h⟩
end Zed
end
section
set_option maxHeartbeats 4000000
/-! ZLib2: what the laws draw. -/
namespace Zed
open PySem PySem.Spec PyProof.Rows L2
local macro_rules | `(tactic| walk_at "zs") => `(tactic| simp only [zv, zc, zop, zun, anil, acons, ztup, zfl, zlst, zbl, zcall, zcallK, tvl, ttr, tand, tor, tnot, zand, zor, zorT, znot, zif, zchn, zsl, onone, osome, zrev, zrevA, zisi, gn, gnil, gcons, gtup, gsub, snil, sseq, sexp, sret, sretN, sif, sasg, sset, spar, spar3, saug, wkL, zapp, zpop, zseal, xat, snever, tyes, ilist, itup, istr, irng1, irng2, irng3, ienum, ienumT, izip, irev, wipeZ, zev, oAddL, isNon, at2_if, iseq, ienumT, gstar, gtupA, saugS, oGetL, sl_0, sl_1, sl_2, sl_3, sl_4, sl_5, sl_6, sl_7, sl_8, at1_0, at2_0, at2_1, at3_0, at3_1, at3_2, at4_0, at4_1, at4_2, at4_3, at5_0, at5_1, at5_2, at5_3, at5_4, at6_0, at6_1, at6_2, at6_3, at6_4, at6_5, at7_0, at7_1, at7_2, at7_3, at7_4, at7_5, at7_6, at8_0, at8_1, at8_2, at8_3, at8_4, at8_5, at8_6, at8_7, ixn2_0, ixn2_1, ixn3_0, ixn3_1, ixn3_2, cp_2, vp_2, cp_3, vp_3, cp_6, vp_6, cp_7, vp_7, cp_18, vp_18, cp_60, vp_60, q_truD_1, q_truD_2, q_truD_3, q_truD_4, q_truD_5, q_truD_6, q_oAdd_1, q_oAdd_2, q_oAdd_3, q_oAdd_4, q_oInt_1, q_oSub_1, q_oLt_1, q_oEq_1, q_oNe_1, q_oNe_2, q_oEq_2, q_oIs_1, q_oIs_2, q_oIsNot_1, q_oIsNot_2, q_oNeg_1, q_cAbs_1, q_cMax_1, q_cMin_1, q_cInt_1, q_cInt_2, q_cDivmod_1, q_lenD_1, q_lenD_2, q_lenD_3, q_cLen_1, q_cTuple_1, q_cTuple_2, q_cTuple_3, q_cListF_1, q_cListF_2, q_cListF_3, q_cList_1, q_cList_2, q_seqD_1, q_seqD_2, q_lenD_4, q_oIx_1, q_oIx_2, q_oIx_4, q_oSl_1, q_oSl_2, q_oSl_3, q_oSl_4, q_tyD_1, q_tyD_2, q_tyD_3, q_tyD_4, q_tyD_5, q_tyD_6, q_cIsi_1, q_oSet_1, q_oIAdd_1, q_oIAdd_2, List.getD_cons_zero, List.getD_cons_succ, List.take_zero, List.drop_zero, updM_same, updM_upd, dropM_updM, isi_ii, isi_bi, isi_ib, isi_bb, isi_tt, List.map_cons, List.map_nil, List.replicate_succ, List.replicate_zero, List.cons_append, List.nil_append, List.append_nil, List.set_cons_zero, List.set_cons_succ, List.getElem?_cons_zero, List.getElem?_cons_succ, List.length_cons, List.length_nil, Bool.false_eq_true, if_true, if_false, Bool.not_true, Bool.not_false, Bool.not_eq_true, Bool.not_eq_false', decide_eq_true_eq, true_and, and_true, exists_eq_left', Nat.reduceAdd, Nat.reduceSub, reduceCtorEq, decide_true, decide_false, Bool.true_eq_false, ite_true, ite_false])
/-- the list that a law draws of, at p, not more than K times drawn -/
def Pool (m : Mu) (p : Addr) (K : Nat) : Prop := ∃ (s d : Int) (k : Nat), m p = some (.lst [.int s, .int d, .int (k : Int)]) ∧ 0 ≤ s ∧ s < 2147483563 ∧ 0 ≤ d ∧ k ≤ K
/-- behind some draws -/
def PM (m : Mu) (p : Addr) (K : Nat) (m' : Mu) : Prop := ∃ (s d : Int) (k : Nat), m' = updM m p (.lst [.int s, .int d, .int (k : Int)]) ∧ 0 ≤ s ∧ s < 2147483563 ∧ 0 ≤ d ∧ k ≤ K
theorem PM.pool {m m' : Mu} {p : Addr} {K : Nat} (h : PM m p K m') : Pool m' p K := by
  obtain ⟨s, d, k, rfl, h1⟩ := h
  exact ⟨s, d, k, updM_same, h1⟩
theorem PM.trans {m m1 m2 : Mu} {p : Addr} {K L : Nat} (h : PM m p K m1) (g : PM m1 p L m2) : PM m p L m2 := by
  obtain ⟨s, d, k, rfl, h1⟩ := h
  obtain ⟨s, d, k, rfl, h2⟩ := g
  exact ⟨s, d, k, updM_upd, h2⟩
theorem PM.more {m m1 : Mu} {p : Addr} {K L : Nat} (h : PM m p K m1) (g : K ≤ L) : PM m p L m1 := by
  obtain ⟨s, d, k, rfl, h1, h2, h3, h4⟩ := h
  exact ⟨s, d, k, rfl, h1, h2, h3, Nat.le_trans h4 g⟩
theorem Pool.more {m : Mu} {p : Addr} {K L : Nat} (h : Pool m p K) (g : K ≤ L) : Pool m p L := by
  obtain ⟨s, d, k, h0, h1, h2, h3, h4⟩ := h
  exact ⟨s, d, k, h0, h1, h2, h3, Nat.le_trans h4 g⟩
theorem Pool.self {m : Mu} {p : Addr} {K : Nat} (h : Pool m p K) : PM m p K m := by
  obtain ⟨s, d, k, h0, h1⟩ := h
  refine ⟨s, d, k, ?_, h1⟩
  funext b
  unfold updM
  by_cases hb : b = p
  · rw [if_pos hb, hb, h0]
  · rw [if_neg hb]
theorem million_le {b : Int} (h : b ≤ 1000000) : b < 2 ^ 8000 := lt_two (j := 20) (by
  have : (2 : Int) ^ 20 = 1048576 := by decide
  omega) (by decide)
theorem Pool.ext {m m' : Mu} {p : Addr} {K : Nat} (h : Pool m p K) (g : Ext m m') : Pool m' p K := by
  obtain ⟨s, d, k, h, r⟩ := h
  exact ⟨s, d, k, by rw [g p (by rw [h]; exact fun e => by cases e), h], r⟩
theorem b_pow {b : Int} (h0 : 0 ≤ b) (h : b ≤ 1000000) (k : Nat) : (b ^ k).natAbs < 2 ^ (20 * k + 1) := by
  have h := abs_pow (i := b) (a := 20) k (by
    have : (2 : Nat) ^ 20 = 1048576 := by decide
    omega)
  exact Nat.lt_of_le_of_lt h (Nat.pow_lt_pow_right (by decide) (Nat.lt_succ_self _))
def b_cell : ZTS :=
  (sseq (sif (tvl (zop oLt (zv 1) (zbl (acons (zv 0) anil) cLen))) (sret (zop oIx (zv 0) (zv 1))) snil)
    (sseq (sset (zop oMod (zop oMul (zc (.int 30011)) (zop oAdd (zop oAdd (zop oMul (zv 1) (zv 1)) (zop oMul (zc (.int 13)) (zv 1))) (zc (.int 7)))) (zc (.int 2147483563))) 2)
    (sseq (sfor (iseq (zsl (zv 0) onone (osome (zc (.int 3))))) (gn 3) (sset (zop oMod (zop oAdd (zop oMul (zv 2) (zc (.int 47017))) (zv 3)) (zc (.int 2147483563))) 2))
    (sret (zv 2)))))
def c_cell : ZSp := fun ds m Q _ => ∃ (ns : List Int) (k : Nat), ds = [.fl (ns.map .int), .int (k : Int)] ∧ k ≤ 1000 ∧ ns.length ≤ 63 ∧ ∀ i : Int, Q (.int i) m
theorem w_cell (ds : List D) (m : Mu) (Q : QE) (E : QX) (h : c_cell ds m Q E) : ds.length = 2 ∧ b_cell ⟨fun _ m => Q .non m, Q, fun x _ m => E x m⟩ (ds.map some ++ List.replicate (4 - ds.length) none) m := by
  obtain ⟨ns, k, rfl, hk, hn, h⟩ := h
  refine ⟨rfl, ?_⟩
  unfold b_cell
  walk_at "zs"
  by_cases hl : k < ns.length
  · have hl' : ((k : Nat) : Int) < (((ns.map D.int).length : Nat) : Int) := by rw [List.length_map]; omega
    have hx : (ns.map D.int)[k]? = some (.int ns[k]) := by rw [List.getElem?_map, List.getElem?_eq_getElem hl]; rfl
    simp only [hl', decide_true, if_true, atI_nat hx]
    exact h _
  · have hl' : ¬ ((k : Nat) : Int) < (((ns.map D.int).length : Nat) : Int) := by rw [List.length_map]; omega
    simp only [hl', decide_false, Bool.false_eq_true, if_false]
    refine ⟨mul_ok (a := 10) (b := 10) (by omega) (by omega) (by decide), mul_ok (a := 4) (b := 10) (by omega) (by omega) (by decide), mul_ok (a := 15) (b := 40) (by decide) ?_ (by decide), by decide, for_i ?_⟩
    · have hkk : (k : Int) * k ≤ 1000 * 1000 := Int.mul_le_mul (by omega) (by omega) (by omega) (by omega)
      have hk0 : (0 : Int) ≤ (k : Int) * k := Int.mul_nonneg (by omega) (by omega)
      generalize (k : Int) * k = z at hkk hk0
      have : (2 : Nat) ^ 40 = 1099511627776 := by decide
      omega
    walk_at "zs"
    obtain ⟨I, hI⟩ : ∃ I : Nat → ZEnv → Mu → Prop, I = fun i ρ m' => ∃ (s : Int) (y : Option D), 0 ≤ s ∧ s < 2147483563 ∧ ρ = [some (.fl (ns.map .int)), some (.int (k : Int)), some (.int s), y] ∧ m' = m := ⟨_, rfl⟩
    refine loop_i I (by rw [hI]; exact ⟨_, _, Int.emod_nonneg _ (by decide), Int.emod_lt_of_pos _ (by decide), rfl, rfl⟩) fun i ρ m' hi => ?_
    rw [hI] at hi
    obtain ⟨s, y, h0, h1, rfl, rfl⟩ := hi
    refine ⟨trivial, fun hlt => ?_, fun e => ?_⟩
    · have hc : cutG (ns.map D.int) none (some 3) = (cutG ns none (some 3)).map D.int := by
        unfold cutG
        rw [List.length_map, List.map_take, List.map_drop]
      have hlt' : i < (cutG ns none (some 3)).length := by
        have hlt2 : i < (cutG (ns.map D.int) none (some 3)).length := hlt
        rwa [hc, List.length_map] at hlt2
      show gn 3 ((cutG (ns.map D.int) none (some 3)).getD i .non) _ _ _ _
      rw [hc, getD_ints, if_pos hlt']
      walk_at "zs"
      rw [hI]
      exact ⟨mul_ok (a := 31) (b := 16) (by omega) (by decide) (by decide), by decide, _, _, Int.emod_nonneg _ (by decide), Int.emod_lt_of_pos _ (by decide), rfl, rfl⟩
    · walk_at "zs"
      exact h _
def b_pool : ZTS :=
  (sseq (sset (zc (.int 0)) 1)
    (sseq (sif (tor (tvl (zop oLt (zv 0) (zc (.int 0)))) (tvl (zop oGe (zv 0) (zop oPow (zc (.int 10)) (zc (.int 18)))))) (sset (zbl (acons (zv 0) anil) cAbs) 1) snil)
    (sret (zlst (acons (zop oMod (zv 0) (zc (.int 2147483563))) (acons (zv 1) (acons (zc (.int 0)) anil)))))))
def c_pool : ZSp := fun ds m Q _ => ∃ i : Int, ds = [.int i] ∧ ∀ p, m p = none → ∀ m', Pool m' p 0 → (∀ b, b ≠ p → m' b = m b) → Q (.ref p) m'
theorem w_pool (ds : List D) (m : Mu) (Q : QE) (E : QX) (h : c_pool ds m Q E) : ds.length = 1 ∧ b_pool ⟨fun _ m => Q .non m, Q, fun x _ m => E x m⟩ (ds.map some ++ List.replicate (2 - ds.length) none) m := by
  obtain ⟨i, rfl, h⟩ := h
  refine ⟨rfl, ?_⟩
  have fin : ∀ (d : Int) (p : Addr), 0 ≤ d → m p = none → Q (.ref p) (updM m p (.lst [.int (i % 2147483563), .int d, .int 0])) := fun d p hd np =>
    h p np _ ⟨_, d, 0, updM_same, Int.emod_nonneg _ (by decide), Int.emod_lt_of_pos _ (by decide), hd, Nat.le_refl _⟩ fun b hb => updM_ne hb
  have hs : (3 : Nat) ≤ sizeLine := by decide
  unfold b_pool
  walk_at "zs"
  by_cases h0 : i < 0
  · simp only [h0, decide_true, if_true]
    exact ⟨by decide, fun p np => fin (-i) p (by omega) np⟩
  · simp only [h0, decide_false, Bool.false_eq_true, if_false]
    by_cases h1 : (1000000000000000000 : Int) ≤ i
    · simp only [h1, decide_true, if_true]
      exact ⟨by decide, fun p np => fin i p (by omega) np⟩
    · simp only [h1, decide_false, Bool.false_eq_true, if_false]
      exact ⟨by decide, fun p np => fin 0 p (by omega) np⟩
def b_take : ZTS :=
  (sseq (sasg (zop oAdd (zop oIx (zv 0) (zc (.int 2))) (zc (.int 1))) (gsub (zv 0) (zc (.int 2))))
    (sseq (sif (tvl (zop oGt (zop oIx (zv 0) (zc (.int 1))) (zc (.int 0)))) (sseq (sasg (zbl (acons (zop oIx (zv 0) (zc (.int 1))) (acons (zv 1) anil)) cDivmod) (gtup 2 (gcons (gsub (zv 0) (zc (.int 1))) (gcons (gn 2) gnil))))
    (sret (zv 2))) snil)
    (sseq (sasg (ztup (acons (zc (.int 0)) (acons (zc (.int 1)) anil))) (gtup 2 (gcons (gn 3) (gcons (gn 4) gnil))))
    (sseq (swhile (tvl (zop oLt (zv 4) (zop oMul (zv 1) (zc (.int 1000))))) (sseq (sset (zop oMul (zop oIx (zv 0) (zc (.int 0))) (zop oAdd (zop oMod (zop oIx (zv 0) (zc (.int 0))) (zc (.int 43003))) (zc (.int 35023)))) 5)
    (sseq (sasg (zop oMod (zop oAdd (zop oAdd (zv 5) (zop oMul (zc (.int 70001)) (zop oIx (zv 0) (zc (.int 2))))) (zop oMod (zv 4) (zc (.int 1009)))) (zc (.int 2147483563))) (gsub (zv 0) (zc (.int 0))))
    (spar 3 4 (acons (zop oAdd (zop oMul (zv 3) (zop oPow (zc (.int 10)) (zc (.int 7)))) (zop oMod (zop oFdv (zop oIx (zv 0) (zc (.int 0))) (zc (.int 64))) (zop oPow (zc (.int 10)) (zc (.int 7))))) (acons (zop oMul (zv 4) (zop oPow (zc (.int 10)) (zc (.int 7)))) anil))))))
    (sret (zop oMod (zv 3) (zv 1)))))))
def c_take : ZSp := fun ds m Q _ => ∃ (p : Addr) (many : Int) (K : Nat), ds = [.ref p, .int many] ∧ Pool m p K ∧ K ≤ 1000000000 ∧ 0 < many ∧ many < 2 ^ 7000 ∧ ∀ r m', 0 ≤ r → r < many → PM m p (K + 1) m' → Q (.int r) m'
theorem w_take (ds : List D) (m : Mu) (Q : QE) (E : QX) (h : c_take ds m Q E) : ds.length = 2 ∧ b_take ⟨fun _ m => Q .non m, Q, fun x _ m => E x m⟩ (ds.map some ++ List.replicate (6 - ds.length) none) m := by
  obtain ⟨p, many, K, rfl, ⟨s, d, k, hp, s0, s1, d0, hk⟩, hK, m0, m1, h⟩ := h
  refine ⟨rfl, ?_⟩
  have m8 : many < 2 ^ 8000 := lt_two (Int.le_of_lt m1) (by decide)
  unfold b_take
  walk_at "zs"
  iterate 4 ((try simp only [hp]); (try walk_at "zs"))
  by_cases hd : 0 < d
  · simp only [hd, decide_true, if_true]
    refine ⟨small_div m0 m8, ?_⟩
    exact h _ _ (Int.emod_nonneg _ (by omega)) (Int.emod_lt_of_pos _ m0) ⟨s, d / many, k + 1, rfl, s0, s1, Int.ediv_nonneg (by omega) (by omega), by omega⟩
  · simp only [hd, decide_false, Bool.false_eq_true, if_false]
    have dz : d = 0 := by omega
    subst dz
    have hkk : (k : Int) + 1 ≤ 1000000001 := by omega
    obtain ⟨I, hI⟩ : ∃ I : Nat → ZEnv → Mu → Prop, I = fun j ρ m' => ∃ (f z t : Int) (y5 : Option D), j = (many * 1000 - z).toNat ∧ 1 ≤ z ∧ z < many * 10000000000 ∧ 0 ≤ f ∧ f < z ∧ 0 ≤ t ∧ t < 2147483563 ∧
      ρ = [some (.ref p), some (.int many), none, some (.int f), some (.int z), y5] ∧ m' = updM m p (.lst [.int t, .int 0, .int ((k : Int) + 1)]) := ⟨_, rfl⟩
    refine while_i I (many * 1000 - 1).toNat (by rw [hI]; exact ⟨0, 1, s, none, rfl, by omega, by omega, by omega, by omega, s0, s1, rfl, rfl⟩) fun j ρ m' hi => ?_
    rw [hI] at hi
    obtain ⟨f, z, t, y5, rfl, z0, z1, f0, f1, t0, t1, rfl, rfl⟩ := hi
    have hmany : many.natAbs < 2 ^ 8000 := abs_lt (by omega) m8
    walk_at "zs"
    refine ⟨mul_ok (a := 8000) (b := 10) hmany (by decide) (by decide), ?_⟩
    by_cases hz : z < many * 1000
    · simp only [hz, decide_true, if_true]
      iterate 3 (try walk_at "zs")
      have e1 := Int.emod_nonneg t (show (43003 : Int) ≠ 0 by decide)
      have e2 := Int.emod_lt_of_pos t (show (0 : Int) < 43003 by decide)
      have zs : z.natAbs < 2 ^ 9000 := by
        have h1 : (many * 10000000000).natAbs < 2 ^ (8000 + 40) := abs_mul hmany (by decide)
        have h2 : (2 : Nat) ^ (8000 + 40) ≤ 2 ^ 9000 := Nat.pow_le_pow_right (by decide) (by decide)
        omega
      have fs : f.natAbs < 2 ^ 9000 := by omega
      have g1 : ∀ x : Int, 0 ≤ x % 2147483563 ∧ x % 2147483563 < 2147483563 := fun x => ⟨Int.emod_nonneg x (by decide), Int.emod_lt_of_pos x (by decide)⟩
      refine ⟨by decide, mul_ok (a := 40) (b := 40) (by omega) (by omega) (by decide), mul_ok (a := 20) (b := 40) (by decide) (by omega) (by decide), by decide, by decide, mul_ok (a := 9000) (b := 30) fs (by decide) (by decide), small_fdv (by decide) (million_le (by decide)), by decide, mul_ok (a := 9000) (b := 30) zs (by decide) (by decide), ?_⟩
      rw [hI]
      generalize hT : (t * (t % 43003 + 35023) + 70001 * ((k : Int) + 1) + z % 1009) % 2147483563 = T
      have gT := g1 (t * (t % 43003 + 35023) + 70001 * ((k : Int) + 1) + z % 1009)
      rw [hT] at gT
      have e3 := Int.emod_nonneg (T / 64) (show (10000000 : Int) ≠ 0 by decide)
      have e4 := Int.emod_lt_of_pos (T / 64) (show (0 : Int) < 10000000 by decide)
      refine ⟨_, ?_, f * 10000000 + T / 64 % 10000000, z * 10000000, T, _, rfl, by omega, by omega, by omega, by omega, gT.1, gT.2, rfl, rfl⟩
      omega
    · simp only [hz, decide_false, Bool.false_eq_true, if_false]
      exact ⟨m0, h _ _ (Int.emod_nonneg _ (by omega)) (Int.emod_lt_of_pos _ m0) ⟨t, 0, k + 1, rfl, t0, t1, Int.le_refl 0, by omega⟩⟩
def b_figures : ZTS :=
  (sseq (sset (zc (.int 10)) 2)
    (sseq (sfor (irng1 (acons (zcall c_take (acons (zv 0) (acons (zv 1) anil))) anil)) (gn 3) (sset (zop oMul (zv 2) (zc (.int 10))) 2))
    (sret (zcall c_take (acons (zv 0) (acons (zv 2) anil))))))
def c_figures : ZSp := fun ds m Q _ => ∃ (p : Addr) (most : Int) (K : Nat), ds = [.ref p, .int most] ∧ Pool m p K ∧ K ≤ 100000000 ∧ 0 < most ∧ most ≤ 400 ∧ ∀ r m', 0 ≤ r → r < 2 ^ 2000 → PM m p (K + 2) m' → r < 10 ^ most.toNat → Q (.int r) m'
theorem ten_pow (k : Nat) : ((10 : Int) ^ k).natAbs < 2 ^ (4 * k + 1) := by
  have h := abs_pow (i := 10) (a := 4) k (by decide)
  exact Nat.lt_of_le_of_lt h (Nat.pow_lt_pow_right (by decide) (Nat.lt_succ_self _))
theorem ten_le {j k : Nat} (h : j ≤ k) : (10 : Int) ^ j ≤ 10 ^ k := by
  obtain ⟨i, rfl⟩ := Nat.exists_eq_add_of_le h
  rw [Int.pow_add]
  have h1 : 0 < (10 : Int) ^ j := Int.pow_pos (by decide)
  have h2 : 0 < (10 : Int) ^ i := Int.pow_pos (by decide)
  have := Int.mul_le_mul_of_nonneg_left (show (1 : Int) ≤ 10 ^ i by omega) (show 0 ≤ (10 : Int) ^ j by omega)
  omega
theorem w_figures (ds : List D) (m : Mu) (Q : QE) (E : QX) (h : c_figures ds m Q E) : ds.length = 2 ∧ b_figures ⟨fun _ m => Q .non m, Q, fun x _ m => E x m⟩ (ds.map some ++ List.replicate (4 - ds.length) none) m := by
  obtain ⟨p, most, K, rfl, hp, hK, h0, h1, h⟩ := h
  refine ⟨rfl, ?_⟩
  unfold b_figures
  walk_at "zs"
  refine for_i ?_
  walk_at "zs"
  refine ⟨p, most, K, rfl, hp, by omega, h0, lt_two (j := 20) (by
    have : (2 : Int) ^ 20 = 1048576 := by decide
    omega) (by decide), fun r m1 r0 r1 hm1 => ⟨⟨by omega, by omega⟩, ?_⟩⟩
  obtain ⟨I, hI⟩ : ∃ I : Nat → ZEnv → Mu → Prop, I = fun i ρ m' => ∃ (y : Option D), i ≤ 400 ∧ ρ = [some (.ref p), some (.int most), some (.int (10 ^ (i + 1))), y] ∧ m' = m1 := ⟨_, rfl⟩
  refine loop_i I (by rw [hI]; exact ⟨none, by decide, rfl, rfl⟩) fun i ρ m' hi => ?_
  rw [hI] at hi
  obtain ⟨y, hi, rfl, rfl⟩ := hi
  have sz := abs_more (b := 1900) (ten_pow (i + 1)) (by omega)
  refine ⟨trivial, fun hlt => ?_, fun e => ?_⟩
  · have hlt' : i < r.toNat := hlt
    walk_at "zs"
    rw [hI]
    exact ⟨mul_ok (a := 1900) (b := 10) sz (by decide) (by decide), _, by omega, by rw [Int.pow_succ 10 (i + 1)], rfl⟩
  · walk_at "zs"
    have pos : 0 < (10 : Int) ^ (i + 1) := Int.pow_pos (by decide)
    refine ⟨p, _, K + 1, rfl, hm1.pool, by omega, pos, ?_, fun r2 m2 h2 h3 hm2 => h r2 m2 h2 ?_ (hm1.trans hm2) (Int.lt_of_lt_of_le h3 (ten_le (by have : i = r.toNat := e; omega)))⟩
    · exact Int.lt_of_lt_of_le (lt_abs sz) (two_le (by decide))
    · exact Int.lt_trans h3 (Int.lt_of_lt_of_le (lt_abs sz) (two_le (by decide)))
def b_base7 : ZTS :=
  (sret (zop oIx (zfl (acons (zc (.int 2)) (acons (zc (.int 3)) (acons (zc (.int 10)) (acons (zc (.int 16)) (acons (zc (.int 97)) (acons (zop oPow (zc (.int 10)) (zc (.int 6))) (acons (zop oAdd (zc (.int 2)) (zcall c_take (acons (zv 0) (acons (zop oSub (zop oPow (zc (.int 10)) (zc (.int 6))) (zc (.int 1))) anil)))) anil)))))))) (zcall c_take (acons (zv 0) (acons (zc (.int 7)) anil)))))
def c_base7 : ZSp := fun ds m Q _ => ∃ (p : Addr) (K : Nat), ds = [.ref p] ∧ Pool m p K ∧ K ≤ 100000000 ∧ ∀ r m', 2 ≤ r → r ≤ 1000000 → PM m p (K + 2) m' → Q (.int r) m'
theorem small_lt {b : Int} (h : b ≤ 1000000) : b < 2 ^ 7000 := lt_two (j := 20) (by
  have : (2 : Int) ^ 20 = 1048576 := by decide
  omega) (by decide)
theorem w_base7 (ds : List D) (m : Mu) (Q : QE) (E : QX) (h : c_base7 ds m Q E) : ds.length = 1 ∧ b_base7 ⟨fun _ m => Q .non m, Q, fun x _ m => E x m⟩ (ds.map some ++ List.replicate (1 - ds.length) none) m := by
  obtain ⟨p, K, rfl, hp, hK, h⟩ := h
  refine ⟨rfl, ?_⟩
  unfold b_base7
  walk_at "zs"
  refine ⟨p, _, K, rfl, hp, by omega, by decide, small_lt (by decide), fun r m1 r0 r1 hm1 => ⟨p, _, K + 1, rfl, hm1.pool, by omega, by decide, small_lt (by decide), fun r2 m2 h2 h3 hm2 => ?_⟩⟩
  have fin : ∀ x : Int, 2 ≤ x → x ≤ 1000000 → Q (.int x) m2 := fun x a b => h x m2 a b (hm1.trans hm2)
  have cs : r2 = 0 ∨ r2 = 1 ∨ r2 = 2 ∨ r2 = 3 ∨ r2 = 4 ∨ r2 = 5 ∨ r2 = 6 := by omega
  rcases cs with rfl | rfl | rfl | rfl | rfl | rfl | rfl <;> walk_at "zs" <;> exact fin _ (by omega) (by omega)
/-- a draw under another list -/
theorem PM.under {m m2 : Mu} {p q : Addr} {K : Nat} {o : MO} (h : PM (updM m q o) p K m2) (hq : q ≠ p) : ∃ m1, PM m p K m1 ∧ m2 = updM m1 q o := by
  obtain ⟨s, d, k, rfl, r⟩ := h
  refine ⟨updM m p _, ⟨s, d, k, rfl, r⟩, ?_⟩
  funext b
  unfold updM
  by_cases h1 : b = p
  · rw [if_pos h1, if_neg (fun e => hq (by rw [← e, h1])), if_pos h1]
  · rw [if_neg h1]
    by_cases h2 : b = q
    · rw [if_pos h2, if_pos h2]
    · rw [if_neg h2, if_neg h2, if_neg h1]
theorem Pool.upd {m : Mu} {p q : Addr} {K : Nat} {o : MO} (h : Pool m p K) (hq : q ≠ p) : Pool (updM m q o) p K := by
  obtain ⟨s, d, k, hp, r⟩ := h
  exact ⟨s, d, k, by rw [updM_ne (fun e => hq e.symm)]; exact hp, r⟩
theorem PM.at {m m1 : Mu} {p q : Addr} {K : Nat} (h : PM m p K m1) (hq : q ≠ p) : m1 q = m q := by
  obtain ⟨s, d, k, rfl, r⟩ := h
  rw [updM_ne hq]
theorem Pool.ne {m : Mu} {p q : Addr} {K : Nat} (h : Pool m p K) (hq : m q = none) : q ≠ p := fun e => by
  obtain ⟨s, d, k, hp, _⟩ := h
  rw [e, hp] at hq
  cases hq
end Zed
end
section
set_option maxHeartbeats 4000000
/-! ZHelp: comprehensions whose list is told. -/
namespace Zed
open PySem PySem.Spec PyProof.Rows L2
theorem comp_mapE {wk : Wk} {g : ZTG} {t : ZTT} {e : ZTE} {vs : List Nat} {ρ : ZEnv} {m : Mu} {Q : QE} (f : Nat → D) (ys : List D) (hs : wk.n ≤ sizeLine) (hi : wk.inv m)
    (h : ∀ i, i < wk.n → ∀ (K1 : QE) (K2 : Mu → Prop), K1 (f i) m → g (wk.item i) (wipeZ ρ vs) m (fun ρ2 m2 => t ρ2 m2 (fun c m3 => if c = true then e ρ2 m3 K1 noX else K2 m3) noX) noX)
    (he : (List.range wk.n).map f = ys) (hq : Q (.fl ys) m) : CompP wk g t e vs ρ m Q := comp_map f hs hi h (by rw [he]; exact hq)
theorem comp_filterE {wk : Wk} {g : ZTG} {t : ZTT} {e : ZTE} {vs : List Nat} {ρ : ZEnv} {m : Mu} {Q : QE} (f : Nat → D) (p : Nat → Bool) (ys : List D) (hs : wk.n ≤ sizeLine) (hi : wk.inv m)
    (h : ∀ i, i < wk.n → ∀ (K1 : QE) (K2 : Mu → Prop), (p i = true → K1 (f i) m) → (p i = false → K2 m) → g (wk.item i) (wipeZ ρ vs) m (fun ρ2 m2 => t ρ2 m2 (fun c m3 => if c = true then e ρ2 m3 K1 noX else K2 m3) noX) noX)
    (he : ((List.range wk.n).filter p).map f = ys) (hq : Q (.fl ys) m) : CompP wk g t e vs ρ m Q := comp_filter f p hs hi h (by rw [he]; exact hq)
theorem comp_mapME {wk : Wk} {g : ZTG} {t : ZTT} {e : ZTE} {vs : List Nat} {ρ : ZEnv} {m : Mu} {Q : QE} (f : Nat → D) (ys : List D) (hs : wk.n ≤ sizeLine) (hi : wk.inv m)
    (h : ∀ i, i < wk.n → ∀ (K1 : QE) (K2 : Mu → Prop), K1 (f i) m → g (wk.item i) (wipeZ ρ vs) m (fun ρ2 m2 => t ρ2 m2 (fun c m3 => if c = true then e ρ2 m3 K1 noX else K2 m3) noX) noX)
    (he : (List.range wk.n).map f = ys) (hq : ∀ p, m p = none → Q (.ref p) (updM m p (.lst ys))) : CompPM wk g t e vs ρ m Q := comp_mapM f hs hi h (by rw [he]; exact hq)
/-- one of a written list -/
theorem at_mem {L : List D} {w : Int} (h0 : 0 ≤ w) (h1 : w < L.length) : ∃ x, x ∈ L ∧ atI L w = some x := by
  obtain ⟨k, rfl⟩ : ∃ k : Nat, w = (k : Int) := ⟨w.toNat, by omega⟩
  have hk : k < L.length := by omega
  exact ⟨L[k], List.getElem_mem hk, atI_nat (List.getElem?_eq_getElem hk)⟩
theorem at_ints {xs : List Int} {w : Int} (h0 : 0 ≤ w) (h1 : w < xs.length) : ∃ x, x ∈ xs ∧ atI (xs.map D.int) w = some (.int x) := by
  obtain ⟨k, rfl⟩ : ∃ k : Nat, w = (k : Int) := ⟨w.toNat, by omega⟩
  have hk : k < xs.length := by omega
  exact ⟨xs[k], List.getElem_mem hk, atI_nat (by rw [List.getElem?_map, List.getElem?_eq_getElem hk]; rfl)⟩
theorem at_ints_getD {xs : List Int} {k : Nat} (h1 : k < xs.length) : atI (xs.map D.int) (k : Int) = some (.int (xs.getD k 0)) :=
  atI_nat (by rw [List.getElem?_map, List.getElem?_eq_getElem h1, List.getD_eq_getElem?_getD, List.getElem?_eq_getElem h1]; rfl)
theorem cp_20 : CPow 10 20 = True := eq_true ⟨by decide, by decide, by decide⟩
theorem vp_20 : (10 : Int) ^ Int.toNat 20 = 100000000000000000000 := by decide +kernel
theorem cp_40 : CPow 10 40 = True := eq_true ⟨by decide, by decide, by decide⟩
theorem vp_40 : (10 : Int) ^ Int.toNat 40 = 10000000000000000000000000000000000000000 := by decide +kernel
theorem cp_30 : CPow 10 30 = True := eq_true ⟨by decide, by decide, by decide⟩
theorem vp_30 : (10 : Int) ^ Int.toNat 30 = 1000000000000000000000000000000 := by decide +kernel
end Zed
end
section
set_option maxHeartbeats 4000000
/-! ZEuc: the rows of Euclid's division. -/
namespace Zed
open PySem PySem.Spec PyProof.Rows L2
local macro_rules | `(tactic| walk_at "zs") => `(tactic| simp only [zv, zc, zop, zun, anil, acons, ztup, zfl, zlst, zbl, zcall, zcallK, tvl, ttr, tand, tor, tnot, zand, zor, zorT, znot, zif, zchn, zsl, onone, osome, zrev, zrevA, zisi, gn, gnil, gcons, gtup, gsub, snil, sseq, sexp, sret, sretN, sif, sasg, sset, spar, spar3, saug, wkL, zapp, zpop, zseal, xat, snever, tyes, ilist, itup, istr, irng1, irng2, irng3, ienum, ienumT, izip, irev, wipeZ, zev, oAddL, isNon, at2_if, iseq, ienumT, gstar, gtupA, saugS, oGetL, sl_0, sl_1, sl_2, sl_3, sl_4, sl_5, sl_6, sl_7, sl_8, at1_0, at2_0, at2_1, at3_0, at3_1, at3_2, at4_0, at4_1, at4_2, at4_3, at5_0, at5_1, at5_2, at5_3, at5_4, at6_0, at6_1, at6_2, at6_3, at6_4, at6_5, at7_0, at7_1, at7_2, at7_3, at7_4, at7_5, at7_6, at8_0, at8_1, at8_2, at8_3, at8_4, at8_5, at8_6, at8_7, ixn2_0, ixn2_1, ixn3_0, ixn3_1, ixn3_2, cp_2, vp_2, cp_3, vp_3, cp_6, vp_6, cp_7, vp_7, cp_18, vp_18, cp_60, vp_60, q_truD_1, q_truD_2, q_truD_3, q_truD_4, q_truD_5, q_truD_6, q_oAdd_1, q_oAdd_2, q_oAdd_3, q_oAdd_4, q_oInt_1, q_oSub_1, q_oLt_1, q_oEq_1, q_oNe_1, q_oNe_2, q_oEq_2, q_oIs_1, q_oIs_2, q_oIsNot_1, q_oIsNot_2, q_oNeg_1, q_cAbs_1, q_cMax_1, q_cMin_1, q_cInt_1, q_cInt_2, q_cDivmod_1, q_lenD_1, q_lenD_2, q_lenD_3, q_cLen_1, q_cTuple_1, q_cTuple_2, q_cTuple_3, q_cListF_1, q_cListF_2, q_cListF_3, q_cList_1, q_cList_2, q_seqD_1, q_seqD_2, q_lenD_4, q_oIx_1, q_oIx_2, q_oIx_4, q_oSl_1, q_oSl_2, q_oSl_3, q_oSl_4, q_tyD_1, q_tyD_2, q_tyD_3, q_tyD_4, q_tyD_5, q_tyD_6, q_cIsi_1, q_oSet_1, q_oIAdd_1, q_oIAdd_2, List.getD_cons_zero, List.getD_cons_succ, List.take_zero, List.drop_zero, updM_same, updM_upd, dropM_updM, isi_ii, isi_bi, isi_ib, isi_bb, isi_tt, List.map_cons, List.map_nil, List.replicate_succ, List.replicate_zero, List.cons_append, List.nil_append, List.append_nil, List.set_cons_zero, List.set_cons_succ, List.getElem?_cons_zero, List.getElem?_cons_succ, List.length_cons, List.length_nil, Bool.false_eq_true, if_true, if_false, Bool.not_true, Bool.not_false, Bool.not_eq_true, Bool.not_eq_false', decide_eq_true_eq, true_and, and_true, exists_eq_left', Nat.reduceAdd, Nat.reduceSub, reduceCtorEq, decide_true, decide_false, Bool.true_eq_false, ite_true, ite_false, isw_int])
abbrev Tri : Type := Int × Int × Int
def tri (x : Tri) : D := .tup [.int x.1, .int x.2.1, .int x.2.2]
def nxt (x y : Tri) : Tri := (x.1 - x.1 / y.1 * y.1, x.2.1 - x.1 / y.1 * y.2.1, x.2.2 - x.1 / y.1 * y.2.2)
structure EuS (a b e : Int) (x y : Tri) : Prop where
  x0 : 0 ≤ x.1
  y0 : 0 ≤ y.1
  lx : x.1 = x.2.1 * a + x.2.2 * b
  ly : y.1 = y.2.1 * a + y.2.2 * b
  g : Int.gcd x.1 y.1 = Int.gcd a b
  ee : e = 1 ∨ e = -1
  ds : e * (x.1 * y.2.1 - y.1 * x.2.1) = b
  dt : e * (x.1 * y.2.2 - y.1 * x.2.2) = -a
  sy : 0 ≤ e * y.2.1
  sx : e * x.2.1 ≤ 0
  ty : e * y.2.2 ≤ 0
  tx : 0 ≤ e * x.2.2
theorem EuS.init {a b : Int} (ha : 0 ≤ a) (hb : 0 ≤ b) : EuS a b (-1) (a, 1, 0) (b, 0, 1) := by
  constructor <;> simp <;> omega
theorem nxt_mod (x y : Tri) : (nxt x y).1 = x.1 % y.1 := by
  show x.1 - x.1 / y.1 * y.1 = x.1 % y.1
  have := Int.mul_ediv_add_emod x.1 y.1
  rw [Int.mul_comm] at this
  omega
theorem mul_nn {a b : Int} (ha : 0 ≤ a) (hb : 0 ≤ b) : 0 ≤ a * b := Int.mul_nonneg ha hb
theorem EuS.step {a b e : Int} {x y : Tri} (h : EuS a b e x y) (hy : 0 < y.1) : EuS a b (-e) y (nxt x y) := by
  have hq : 0 ≤ x.1 / y.1 := Int.ediv_nonneg h.x0 h.y0
  have hz : (nxt x y).1 = x.1 % y.1 := nxt_mod x y
  obtain ⟨x0, y0, lx, ly, g, ee, ds, dt, sy, sx, ty, tx⟩ := h
  obtain ⟨x1, x2, x3⟩ := x
  obtain ⟨y1, y2, y3⟩ := y
  simp only [nxt] at *
  generalize x1 / y1 = q at *
  have e1 : y1 * (x2 - q * y2) - (x1 - q * y1) * y2 = -(x1 * y2 - y1 * x2) := by
    simp only [Int.mul_sub, Int.sub_mul]
    have : y1 * (q * y2) = q * y1 * y2 := by rw [← Int.mul_assoc, Int.mul_comm y1 q]
    omega
  have e2 : y1 * (x3 - q * y3) - (x1 - q * y1) * y3 = -(x1 * y3 - y1 * x3) := by
    simp only [Int.mul_sub, Int.sub_mul]
    have : y1 * (q * y3) = q * y1 * y3 := by rw [← Int.mul_assoc, Int.mul_comm y1 q]
    omega
  refine ⟨y0, by rw [hz]; exact Int.emod_nonneg _ (by omega), ly, ?_, ?_, by omega, by rw [e1, Int.neg_mul_neg]; exact ds, by rw [e2, Int.neg_mul_neg]; exact dt, ?_, by rw [Int.neg_mul]; show -(e * y2) ≤ 0; omega, ?_, by rw [Int.neg_mul]; show 0 ≤ -(e * y3); omega⟩
  · simp only [Int.sub_mul, Int.mul_assoc]
    rw [lx, ly, Int.mul_add]
    omega
  · rw [← g]
    show Int.gcd y1 (x1 - q * y1) = Int.gcd x1 y1
    rw [Int.sub_eq_add_neg, ← Int.neg_mul, Int.gcd_add_mul_right_right, Int.gcd_comm]
  · rw [Int.neg_mul, Int.mul_sub]
    have h1 : 0 ≤ q * (e * y2) := mul_nn hq sy
    have h2 : e * (q * y2) = q * (e * y2) := by rw [← Int.mul_assoc, Int.mul_comm e q, Int.mul_assoc]
    omega
  · rw [Int.neg_mul, Int.mul_sub]
    have h1 : 0 ≤ q * -(e * y3) := mul_nn hq (by omega)
    have h2 : e * (q * y3) = q * (e * y3) := by rw [← Int.mul_assoc, Int.mul_comm e q, Int.mul_assoc]
    rw [Int.mul_neg] at h1
    omega
/-- coefficients are small -/
theorem EuS.small {a b e : Int} {x y : Tri} (h : EuS a b e x y) (hx : 0 < x.1) : (y.2.1.natAbs : Int) ≤ b ∧ (y.2.2.natAbs : Int) ≤ a := by
  obtain ⟨x0, y0, lx, ly, g, ee, ds, dt, sy, sx, ty, tx⟩ := h
  have p1 : 0 ≤ y.1 * -(e * x.2.1) := mul_nn y0 (by omega)
  have p2 : 0 ≤ y.1 * (e * x.2.2) := mul_nn y0 tx
  have q1 : e * y.2.1 ≤ x.1 * (e * y.2.1) := by
    have := Int.mul_le_mul_of_nonneg_right (show (1 : Int) ≤ x.1 by omega) sy
    omega
  have q2 : -(e * y.2.2) ≤ x.1 * -(e * y.2.2) := by
    have := Int.mul_le_mul_of_nonneg_right (show (1 : Int) ≤ x.1 by omega) (show 0 ≤ -(e * y.2.2) by omega)
    omega
  have d1 : x.1 * (e * y.2.1) + y.1 * -(e * x.2.1) = b := by
    rw [← ds, Int.mul_sub, Int.mul_neg, ← Int.mul_assoc, ← Int.mul_assoc, ← Int.mul_assoc, ← Int.mul_assoc, Int.mul_comm x.1 e, Int.mul_comm y.1 e]
    omega
  have d2 : x.1 * -(e * y.2.2) + y.1 * (e * x.2.2) = a := by
    have : a = -(e * (x.1 * y.2.2 - y.1 * x.2.2)) := by omega
    rw [this, Int.mul_sub, Int.mul_neg, ← Int.mul_assoc, ← Int.mul_assoc, ← Int.mul_assoc, ← Int.mul_assoc, Int.mul_comm x.1 e, Int.mul_comm y.1 e]
    omega
  have u1 : e * y.2.1 = y.2.1.natAbs := by rcases ee with rfl | rfl <;> omega
  have u2 : -(e * y.2.2) = y.2.2.natAbs := by rcases ee with rfl | rfl <;> omega
  constructor <;> omega
/-- how many there may be -/
def EuL (a b : Int) (x y : Tri) (n : Nat) : Prop := n = 2 ∧ x.1 = a ∧ y.1 = b ∨ y.1 < x.1 ∧ 2 ^ n * (x.1 * y.1) ≤ 16 * (a * b)
theorem EuL.step {a b : Int} {x y : Tri} {n : Nat} (h : EuL a b x y n) (hx : 0 ≤ x.1) (hy : 0 < y.1) : EuL a b y (nxt x y) (n + 1) := by
  have hz : (nxt x y).1 = x.1 % y.1 := nxt_mod x y
  have z0 := Int.emod_nonneg x.1 (show y.1 ≠ 0 by omega)
  have z1 := Int.emod_lt_of_pos x.1 hy
  refine .inr ⟨by rw [hz]; exact z1, ?_⟩
  rw [hz]
  rcases h with ⟨rfl, rfl, rfl⟩ | ⟨h1, h2⟩
  · have zx : x.1 % y.1 ≤ x.1 := by
      have e1 := Int.mul_ediv_add_emod x.1 y.1
      have := mul_nn (show 0 ≤ y.1 by omega) (Int.ediv_nonneg hx (show 0 ≤ y.1 by omega))
      omega
    have := Int.mul_le_mul_of_nonneg_left zx (show 0 ≤ y.1 by omega)
    rw [Int.mul_comm y.1 x.1] at this
    have p : 0 ≤ x.1 * y.1 := mul_nn hx (by omega)
    have e : (2 : Int) ^ (2 + 1) = 8 := by decide
    rw [e]
    omega
  · have e1 := Int.mul_ediv_add_emod x.1 y.1
    have q1 : 1 ≤ x.1 / y.1 := Int.le_ediv_of_mul_le hy (by omega)
    have q2 : y.1 ≤ y.1 * (x.1 / y.1) := by
      have := Int.mul_le_mul_of_nonneg_left q1 (show 0 ≤ y.1 by omega)
      omega
    have zz : 2 * (x.1 % y.1) ≤ x.1 := by omega
    have h3 := Int.mul_le_mul_of_nonneg_right zz (show 0 ≤ y.1 by omega)
    have h4 := Int.mul_le_mul_of_nonneg_left h3 (show (0 : Int) ≤ 2 ^ n from Int.le_of_lt (Int.pow_pos (by decide)))
    have e3 : (2 : Int) ^ (n + 1) * (y.1 * (x.1 % y.1)) = 2 ^ n * (2 * (x.1 % y.1) * y.1) := by
      rw [Int.pow_succ, Int.mul_assoc, Int.mul_assoc, Int.mul_comm y.1]
    rw [e3]
    exact Int.le_trans h4 h2
theorem EuL.len {a b : Int} {x y : Tri} {n : Nat} (h : EuL a b x y n) (ha : 0 ≤ a) (hb : 0 ≤ b) (a1 : a < 2 ^ 7000) (b1 : b < 2 ^ 7000) (hy : 0 < y.1) : n < 14010 := by
  rcases h with ⟨rfl, _⟩ | ⟨h1, h2⟩
  · decide
  · have p : 1 ≤ x.1 * y.1 := Int.mul_pos (by omega) hy
    have h3 := Int.mul_le_mul_of_nonneg_left p (show (0 : Int) ≤ 2 ^ n from Int.le_of_lt (Int.pow_pos (by decide)))
    have h4 := lt_abs (abs_mul (abs_lt ha a1) (abs_lt hb b1))
    have h5 : 16 * (a * b) < 2 ^ 14010 := by
      have e : (2 : Int) ^ 14010 = 1024 * 2 ^ (7000 + 7000) := by
        rw [show 14010 = 10 + (7000 + 7000) from rfl, Int.pow_add]
        rfl
      rw [e]
      have : (0 : Int) < 2 ^ (7000 + 7000) := Int.pow_pos (by decide)
      omega
    have h6 : (2 : Int) ^ n < 2 ^ 14010 := by omega
    rcases Nat.lt_or_ge n 14010 with h | h
    · exact h
    · exact absurd (two_le h) (by omega)
def EuR (a b : Int) (rows : List Tri) : Prop := ∃ (pre : List Tri) (l e : Tri), rows = pre ++ [l] ++ [e] ∧ 0 < l.1 ∧ e.1 = 0 ∧ l.1 = Int.gcd a b ∧ l.1 = l.2.1 * a + l.2.2 * b ∧ (l.2.1.natAbs : Int) ≤ b + 1 ∧ rows.length ≤ 14020
theorem cut_two {xs : List D} {u v : D} : cutG (xs ++ [u] ++ [v]) (some (-2)) none = [u, v] := by
  have hl : (xs ++ [u] ++ [v]).length = xs.length + 2 := by simp
  have e1 : HT.sIx (xs.length + 2) 0 (some (-2)) = xs.length := by
    show (if (-2 : Int) < 0 then ((-2 : Int) + ((xs.length + 2 : Nat) : Int)).toNat else min (-2 : Int).toNat (xs.length + 2)) = xs.length
    rw [if_pos (by decide)]
    omega
  unfold cutG
  rw [hl, e1, HT.sIx_none, List.append_assoc, List.drop_left]
  show List.take (xs.length + 2 - xs.length) [u, v] = [u, v]
  rw [show xs.length + 2 - xs.length = 2 by omega]
  rfl
def b_rows_of : ZTS :=
  (sseq (sset (zlst (acons (ztup (acons (zv 0) (acons (zc (.int 1)) (acons (zc (.int 0)) anil)))) (acons (ztup (acons (zv 1) (acons (zc (.int 0)) (acons (zc (.int 1)) anil)))) anil))) 2)
    (sseq (swhile (tvl (zop oGt (zop oIx (zop oIx (zv 2) (zun oNeg (zc (.int 1)))) (zc (.int 0))) (zc (.int 0)))) (sseq (sasg (zsl (zv 2) (osome (zun oNeg (zc (.int 2)))) onone) (gtupA 2 (gcons (gn 3) (gcons (gn 4) gnil))))
    (sseq (sset (zop oFdv (zop oIx (zv 3) (zc (.int 0))) (zop oIx (zv 4) (zc (.int 0)))) 5)
    (sexp (zapp (zv 2) (acons (zbl (acons (zlc (izip (acons (zv 3) (acons (zv 4) anil))) (gtup 2 (gcons (gn 6) (gcons (gn 7) gnil))) tyes (zop oSub (zv 6) (zop oMul (zv 5) (zv 7))) [6, 7]) anil) cTuple) anil))))))
    (sret (zseal (zv 2)))))
def c_rows_of : ZSp := fun ds m Q _ => ∃ a b : Int, ds = [.int a, .int b] ∧ 0 ≤ a ∧ a < 2 ^ 7000 ∧ 0 ≤ b ∧ b < 2 ^ 7000 ∧ (0 < a ∨ 0 < b) ∧ ∀ rows, EuR a b rows → Q (.fl (rows.map tri)) m
theorem w_rows_of (ds : List D) (m : Mu) (Q : QE) (E : QX) (h : c_rows_of ds m Q E) : ds.length = 2 ∧ b_rows_of ⟨fun _ m => Q .non m, Q, fun x _ m => E x m⟩ (ds.map some ++ List.replicate (8 - ds.length) none) m := by
  obtain ⟨a, b, rfl, a0, a1, b0, b1, ab, h⟩ := h
  refine ⟨rfl, ?_⟩
  unfold b_rows_of
  walk_at "zs"
  refine fun p np => ?_
  refine while_i (fun k ρ m' => ∃ (pre : List Tri) (x y : Tri) (e : Int) (y3 y4 y5 y6 y7 : Option D), k = y.1.toNat ∧ EuS a b e x y ∧ EuL a b x y (pre.length + 2) ∧ (x.2.1.natAbs : Int) ≤ b + 1 ∧ (x.2.2.natAbs : Int) ≤ a + 1 ∧ (y.2.1.natAbs : Int) ≤ b + 1 ∧ (y.2.2.natAbs : Int) ≤ a + 1 ∧ pre.length ≤ 14010 ∧ x.1 < 2 ^ 7000 ∧ y.1 < 2 ^ 7000 ∧
      ρ = [some (.int a), some (.int b), some (.ref p), y3, y4, y5, y6, y7] ∧ m' = updM m p (.lst ((pre ++ [x] ++ [y]).map tri))) b.toNat ⟨[], (a, 1, 0), (b, 0, 1), -1, none, none, none, none, none, rfl, EuS.init a0 b0, .inl ⟨rfl, rfl, rfl⟩, by simp; omega, by simp; omega, by simp; omega, by simp; omega, by simp, a1, b1, rfl, rfl⟩ ?_
  rintro k ρ m' ⟨pre, x, y, e, y3, y4, y5, y6, y7, rfl, hs, hl, bx, bx2, by1, by2, hp, hx7, hy7, rfl, rfl⟩
  have eL : (pre ++ [x] ++ [y]).map tri = (pre ++ [x]).map tri ++ [tri y] := by rw [List.map_append]; rfl
  walk_at "zs"
  rw [eL, atI_last, show tri y = .tup [.int y.1, .int y.2.1, .int y.2.2] from rfl]
  walk_at "zs"
  by_cases hy : 0 < y.1
  · rw [if_pos hy]
    rw [show (pre ++ [x]).map tri = pre.map tri ++ [tri x] by rw [List.map_append]; rfl]
    rw [cut_two]
    walk_at "zs"
    rw [show tri x = .tup [.int x.1, .int x.2.1, .int x.2.2] from rfl]
    walk_at "zs"
    have y8 : y.1 < 2 ^ 8000 := Int.lt_of_lt_of_le hy7 (two_le (by decide))
    refine ⟨small_fdv hy y8, ⟨_, rfl⟩, ?_⟩
    rw [comp_e]
    walk_at "zs"
    have q0 : 0 ≤ x.1 / y.1 := Int.ediv_nonneg hs.x0 hs.y0
    have q1 : x.1 / y.1 ≤ x.1 := Int.ediv_le_self _ hs.x0
    have qs : (x.1 / y.1).natAbs < 2 ^ 7000 := abs_lt q0 (by omega)
    have a8 : a + 1 < 2 ^ 7001 := by
      have : (2 : Int) ^ 7001 = 2 ^ 7000 * 2 := Int.pow_succ 2 7000
      omega
    have b8 : b + 1 < 2 ^ 7001 := by
      have : (2 : Int) ^ 7001 = 2 ^ 7000 * 2 := Int.pow_succ 2 7000
      omega
    have m1 : CMulW (x.1 / y.1) y.1 := mul_ok qs (abs_lt hs.y0 hy7) (by decide)
    have m2 : CMulW (x.1 / y.1) y.2.1 := mul_ok qs (b := 7001) (by rw [← PySem.W.kbt_cast] at b8; omega) (by decide)
    have m3 : CMulW (x.1 / y.1) y.2.2 := mul_ok qs (b := 7001) (by rw [← PySem.W.kbt_cast] at a8; omega) (by decide)
    refine comp_map (fun i => match i with | 0 => D.int (x.1 - x.1 / y.1 * y.1) | 1 => .int (x.2.1 - x.1 / y.1 * y.2.1) | _ => .int (x.2.2 - x.1 / y.1 * y.2.2)) (by show (3 : Nat) ≤ sizeLine; rw [sizeLine_eq]; decide) trivial (fun i hi K1 K2 hK => ?_) ?_
    · have hi' : i < 3 := hi
      have cs : i = 0 ∨ i = 1 ∨ i = 2 := by omega
      rcases cs with rfl | rfl | rfl
      · walk_at "zs"
        exact ⟨m1, hK⟩
      · walk_at "zs"
        exact ⟨m2, hK⟩
      · walk_at "zs"
        exact ⟨m3, hK⟩
    · show cTuple [.fl [.int (nxt x y).1, .int (nxt x y).2.1, .int (nxt x y).2.2]] _ _
      walk_at "zs"
      have st := hs.step hy
      have z1 : (nxt x y).1 < y.1 := by rw [nxt_mod]; exact Int.emod_lt_of_pos _ hy
      have sm := st.small hy
      have ln := hl.len a0 b0 a1 b1 hy
      refine ⟨by simp [sizeLine_eq]; omega, (nxt x y).1.toNat, by have := st.y0; omega, pre ++ [x], y, nxt x y, -e, _, _, _, _, _, rfl, st, ?_, by1, by2, by omega, by omega, ?_, hy7, by omega, rfl, ?_⟩
      · rw [List.length_append]
        exact hl.step hs.x0 hy
      · rw [List.length_append]
        show pre.length + 1 ≤ 14010
        omega
      · rw [List.map_append, List.map_append, List.map_append]
        rfl
  · rw [if_neg hy]
    have hy' : y.1 = 0 := by have := hs.y0; omega
    have hg := hs.g
    rw [hy', Int.gcd_zero_right] at hg
    have x0 := hs.x0
    have gp : 0 < Int.gcd a b := Int.gcd_pos_iff.mpr (by omega)
    have := h (pre ++ [x] ++ [y]) ⟨pre, x, y, rfl, by omega, hy', by omega, hs.lx, bx, by simp; omega⟩
    rw [eL] at this
    rw [dropM_updM np]
    exact this
def b_last_row : ZTS :=
  (sret (zop oIx (zlc (iseq (zcall c_rows_of (acons (zv 0) (acons (zv 1) anil)))) (gn 2) (tvl (zop oGt (zop oIx (zv 2) (zc (.int 0))) (zc (.int 0)))) (zv 2) [2]) (zun oNeg (zc (.int 1)))))
def c_last_row : ZSp := fun ds m Q _ => ∃ a b : Int, ds = [.int a, .int b] ∧ 0 ≤ a ∧ a < 2 ^ 7000 ∧ 0 ≤ b ∧ b < 2 ^ 7000 ∧ (0 < a ∨ 0 < b) ∧ ∀ l : Tri, 0 < l.1 → l.1 = Int.gcd a b → l.1 = l.2.1 * a + l.2.2 * b → (l.2.1.natAbs : Int) ≤ b + 1 → Q (tri l) m
theorem getD_tri {xs : List Tri} {i : Nat} (h : i < xs.length) : (xs.map tri).getD i .non = .tup [.int (xs.getD i (0, 0, 0)).1, .int (xs.getD i (0, 0, 0)).2.1, .int (xs.getD i (0, 0, 0)).2.2] := by
  simp [List.getD_eq_getElem?_getD, h, tri]
theorem w_last_row (ds : List D) (m : Mu) (Q : QE) (E : QX) (h : c_last_row ds m Q E) : ds.length = 2 ∧ b_last_row ⟨fun _ m => Q .non m, Q, fun x _ m => E x m⟩ (ds.map some ++ List.replicate (3 - ds.length) none) m := by
  obtain ⟨a, b, rfl, a0, a1, b0, b1, ab, h⟩ := h
  refine ⟨rfl, ?_⟩
  unfold b_last_row
  walk_at "zs"
  rw [comp_e]
  walk_at "zs"
  refine ⟨a, b, rfl, a0, a1, b0, b1, ab, fun rows hr => ?_⟩
  obtain ⟨pre, l, e, hrw, l0, e0, lg, lc, ls, hl⟩ := hr
  walk_at "zs"
  have el : rows.length = pre.length + 2 := by rw [hrw]; simp
  refine comp_filter (fun i => tri (rows.getD i (0, 0, 0))) (fun i => decide (0 < (rows.getD i (0, 0, 0)).1)) (by show (rows.map tri).length ≤ _; rw [List.length_map, sizeLine_eq]; omega) trivial (fun i hi K1 K2 k1 k2 => ?_) ?_
  · have hi' : i < rows.length := by
      have h3 : i < (rows.map tri).length := hi
      rwa [List.length_map] at h3
    show gn 2 ((rows.map tri).getD i .non) _ _ _ _
    rw [getD_tri hi']
    walk_at "zs"
    by_cases hp : 0 < (rows.getD i (0, 0, 0)).1
    · rw [if_pos hp]
      exact k1 (decide_eq_true hp)
    · rw [if_neg hp]
      exact k2 (decide_eq_false hp)
  · have e1 : (rows.map tri).length = pre.length + 1 + 1 := by rw [List.length_map, el]
    have g1 : rows.getD pre.length (0, 0, 0) = l := by rw [hrw]; simp
    have g2 : rows.getD (pre.length + 1) (0, 0, 0) = e := by rw [hrw]; simp [List.getElem?_append_right]
    show oIx (.fl (((List.range (rows.map tri).length).filter _).map _)) _ _ _
    rw [e1, List.range_succ, List.range_succ, List.filter_append, List.filter_append]
    rw [show List.filter (fun i => decide (0 < (rows.getD i (0, 0, 0)).1)) [pre.length] = [pre.length] by rw [List.filter_cons_of_pos (by rw [g1]; exact decide_eq_true l0)]; rfl]
    rw [show List.filter (fun i => decide (0 < (rows.getD i (0, 0, 0)).1)) [pre.length + 1] = [] by rw [List.filter_cons_of_neg (by rw [g2, e0]; decide)]; rfl]
    rw [List.append_nil, List.map_append, show List.map (fun i => tri (rows.getD i (0, 0, 0))) [pre.length] = [tri l] by rw [List.map_cons, g1]; rfl]
    walk_at "zs"
    rw [atI_last]
    exact h l l0 lg lc ls
def b_gcd_of : ZTS :=
  (sret (zop oIx (zcall c_last_row (acons (zv 0) (acons (zv 1) anil))) (zc (.int 0))))
def c_gcd_of : ZSp := fun ds m Q _ => ∃ a b : Int, ds = [.int a, .int b] ∧ 0 ≤ a ∧ a < 2 ^ 7000 ∧ 0 ≤ b ∧ b < 2 ^ 7000 ∧ (0 < a ∨ 0 < b) ∧ Q (.int (Int.gcd a b)) m
theorem w_gcd_of (ds : List D) (m : Mu) (Q : QE) (E : QX) (h : c_gcd_of ds m Q E) : ds.length = 2 ∧ b_gcd_of ⟨fun _ m => Q .non m, Q, fun x _ m => E x m⟩ (ds.map some ++ List.replicate (2 - ds.length) none) m := by
  obtain ⟨a, b, rfl, a0, a1, b0, b1, ab, h⟩ := h
  refine ⟨rfl, ?_⟩
  unfold b_gcd_of
  walk_at "zs"
  refine ⟨a, b, rfl, a0, a1, b0, b1, ab, fun l l0 lg lc ls => ?_⟩
  rw [show tri l = .tup [.int l.1, .int l.2.1, .int l.2.2] from rfl]
  walk_at "zs"
  rw [lg]
  exact h
def b_inverse_by : ZTS :=
  (sseq (sasg (zcall c_rows_of (acons (zop oMod (zv 0) (zv 1)) (acons (zv 1) anil))) (gstar 3 0 (gcons (gn 2) (gcons (gn 3) (gcons (gn 4) gnil)))))
    (sret (zop oMod (zop oIx (zv 3) (zc (.int 1))) (zv 1))))
def c_inverse_by : ZSp := fun ds m Q _ => ∃ n M : Int, ds = [.int n, .int M] ∧ 0 < M ∧ M < 2 ^ 7000 ∧ ∀ s, 0 ≤ s → s < M → (s * n) % M = Int.gcd n M % M → Q (.int s) m
theorem inv_fact {n M s t : Int} (hM : 0 < M) (h : (Int.gcd (n % M) M : Int) = s * (n % M) + t * M) : (s % M * n) % M = Int.gcd n M % M := by
  have g : Int.gcd (n % M) M = Int.gcd n M := by
    have e := Int.mul_ediv_add_emod n M
    have e2 : n % M = n + -(n / M) * M := by rw [Int.neg_mul, Int.mul_comm (n / M) M]; omega
    rw [Int.gcd_comm, e2, Int.gcd_add_mul_right_right, Int.gcd_comm]
  rw [g] at h
  rw [h, Int.add_mul_emod_self_right, Int.mul_emod s, Int.emod_emod_of_dvd _ (Int.dvd_refl M), Int.mul_emod (s % M), Int.emod_emod_of_dvd _ (Int.dvd_refl M)]
theorem w_inverse_by (ds : List D) (m : Mu) (Q : QE) (E : QX) (h : c_inverse_by ds m Q E) : ds.length = 2 ∧ b_inverse_by ⟨fun _ m => Q .non m, Q, fun x _ m => E x m⟩ (ds.map some ++ List.replicate (5 - ds.length) none) m := by
  obtain ⟨n, M, rfl, M0, M1, h⟩ := h
  refine ⟨rfl, ?_⟩
  unfold b_inverse_by
  walk_at "zs"
  have n0 := Int.emod_nonneg n (show M ≠ 0 by omega)
  have n1 := Int.emod_lt_of_pos n M0
  refine ⟨M0, n % M, M, rfl, n0, by omega, by omega, M1, .inr M0, fun rows hr => ?_⟩
  obtain ⟨pre, l, e, rfl, l0, e0, lg, lc, ls, hl⟩ := hr
  walk_at "zs"
  rw [lg] at lc
  have hf := inv_fact M0 lc
  have el : ((pre ++ [l] ++ [e]).map tri).length = pre.length + 2 := by simp
  have ed : ((pre ++ [l] ++ [e]).map tri).drop pre.length = [tri l, tri e] := by
    rw [List.append_assoc, List.map_append]
    rw [show pre.length = (pre.map tri).length by rw [List.length_map], List.drop_left]
    rfl
  have hl' : pre.length + 2 ≤ 14020 := by
    have : (pre ++ [l] ++ [e]).length = pre.length + 2 := by simp
    omega
  rw [el, show pre.length + 2 + 1 - 3 = pre.length by omega, ed]
  refine ⟨by decide, by omega, by omega, ?_⟩
  rw [show tri l = .tup [.int l.1, .int l.2.1, .int l.2.2] from rfl]
  walk_at "zs"
  exact ⟨M0, h _ (Int.emod_nonneg _ (by omega)) (Int.emod_lt_of_pos _ M0) hf⟩
end Zed
end
section
set_option maxHeartbeats 4000000
/-! ZJoin: joining.py. -/
namespace Zed
open PySem PySem.Spec PyProof.Rows L2
local macro_rules | `(tactic| walk_at "zs") => `(tactic| simp only [zv, zc, zop, zun, anil, acons, ztup, zfl, zlst, zbl, zcall, zcallK, tvl, ttr, tand, tor, tnot, zand, zor, zorT, znot, zif, zchn, zsl, onone, osome, zrev, zrevA, zisi, gn, gnil, gcons, gtup, gsub, snil, sseq, sexp, sret, sretN, sif, sasg, sset, spar, spar3, saug, wkL, zapp, zpop, zseal, xat, snever, tyes, ilist, itup, istr, irng1, irng2, irng3, ienum, ienumT, izip, irev, wipeZ, zev, oAddL, isNon, at2_if, iseq, ienumT, gstar, gtupA, saugS, oGetL, sl_0, sl_1, sl_2, sl_3, sl_4, sl_5, sl_6, sl_7, sl_8, at1_0, at2_0, at2_1, at3_0, at3_1, at3_2, at4_0, at4_1, at4_2, at4_3, at5_0, at5_1, at5_2, at5_3, at5_4, at6_0, at6_1, at6_2, at6_3, at6_4, at6_5, at7_0, at7_1, at7_2, at7_3, at7_4, at7_5, at7_6, at8_0, at8_1, at8_2, at8_3, at8_4, at8_5, at8_6, at8_7, ixn2_0, ixn2_1, ixn3_0, ixn3_1, ixn3_2, cp_2, vp_2, cp_3, vp_3, cp_6, vp_6, cp_7, vp_7, cp_18, vp_18, cp_60, vp_60, q_truD_1, q_truD_2, q_truD_3, q_truD_4, q_truD_5, q_truD_6, q_oAdd_1, q_oAdd_2, q_oAdd_3, q_oAdd_4, q_oInt_1, q_oSub_1, q_oLt_1, q_oEq_1, q_oNe_1, q_oNe_2, q_oEq_2, q_oIs_1, q_oIs_2, q_oIsNot_1, q_oIsNot_2, q_oNeg_1, q_cAbs_1, q_cMax_1, q_cMin_1, q_cInt_1, q_cInt_2, q_cDivmod_1, q_lenD_1, q_lenD_2, q_lenD_3, q_cLen_1, q_cTuple_1, q_cTuple_2, q_cTuple_3, q_cListF_1, q_cListF_2, q_cListF_3, q_cList_1, q_cList_2, q_seqD_1, q_seqD_2, q_lenD_4, q_oIx_1, q_oIx_2, q_oIx_4, q_oSl_1, q_oSl_2, q_oSl_3, q_oSl_4, q_tyD_1, q_tyD_2, q_tyD_3, q_tyD_4, q_tyD_5, q_tyD_6, q_cIsi_1, q_oSet_1, q_oIAdd_1, q_oIAdd_2, List.getD_cons_zero, List.getD_cons_succ, List.take_zero, List.drop_zero, updM_same, updM_upd, dropM_updM, isi_ii, isi_bi, isi_ib, isi_bb, isi_tt, List.map_cons, List.map_nil, List.replicate_succ, List.replicate_zero, List.cons_append, List.nil_append, List.append_nil, List.set_cons_zero, List.set_cons_succ, List.getElem?_cons_zero, List.getElem?_cons_succ, List.length_cons, List.length_nil, Bool.false_eq_true, if_true, if_false, Bool.not_true, Bool.not_false, Bool.not_eq_true, Bool.not_eq_false', decide_eq_true_eq, true_and, and_true, exists_eq_left', Nat.reduceAdd, Nat.reduceSub, reduceCtorEq, decide_true, decide_false, Bool.true_eq_false, ite_true, ite_false, isw_int])
/-! ### the mathematics -/
theorem gcd_pos_l {a : Int} (b : Int) (h : 0 < a) : 0 < Int.gcd a b := Int.gcd_pos_iff.mpr (.inl (by omega))
theorem gcd_joint {L m b d : Int} (hL : 0 < L) (hm : 0 < m) (h1 : (Int.gcd L b : Int) ∣ d) (h2 : (Int.gcd m b : Int) ∣ d) : (Int.gcd (L * (m / Int.gcd L m)) b : Int) ∣ d := by
  have cp : 0 < Int.gcd L m := gcd_pos_l m hL
  have c0 : (0 : Int) < Int.gcd L m := by omega
  have eu : L / Int.gcd L m * Int.gcd L m = L := Int.ediv_mul_cancel (Int.gcd_dvd_left ..)
  have ev : m / Int.gcd L m * Int.gcd L m = m := Int.ediv_mul_cancel (Int.gcd_dvd_right ..)
  have co : Int.gcd (L / Int.gcd L m) (m / Int.gcd L m) = 1 := Int.gcd_ediv_gcd_ediv_gcd cp
  have u0 : 0 ≤ L / Int.gcd L m := Int.ediv_nonneg (by omega) (by omega)
  have v0 : 0 ≤ m / Int.gcd L m := Int.ediv_nonneg (by omega) (by omega)
  generalize hu : L / Int.gcd L m = u at *
  generalize hv : m / Int.gcd L m = v at *
  generalize (Int.gcd L m : Int) = c at *
  have gL := Int.gcd_dvd_left (L * v) b
  have gb := Int.gcd_dvd_right (L * v) b
  generalize (Int.gcd (L * v) b : Int) = g at *
  have k1 : g ∣ u * (Int.gcd m b : Int) := by
    have : g ∣ (Int.gcd (u * m) (u * b) : Int) := Int.dvd_coe_gcd (by rw [← ev, ← Int.mul_assoc, Int.mul_right_comm, eu]; exact gL) (Int.dvd_trans gb (Int.dvd_mul_left ..))
    rw [Int.gcd_mul_left, Int.natCast_mul, Int.natAbs_of_nonneg u0] at this
    exact this
  have k2 : g ∣ v * (Int.gcd L b : Int) := by
    have : g ∣ (Int.gcd (v * L) (v * b) : Int) := Int.dvd_coe_gcd (by rw [Int.mul_comm]; exact gL) (Int.dvd_trans gb (Int.dvd_mul_left ..))
    rw [Int.gcd_mul_left, Int.natCast_mul, Int.natAbs_of_nonneg v0] at this
    exact this
  have j1 : g ∣ u * d := Int.dvd_trans k1 (Int.mul_dvd_mul_left u h2)
  have j2 : g ∣ v * d := Int.dvd_trans k2 (Int.mul_dvd_mul_left v h1)
  have : g ∣ (Int.gcd (u * d) (v * d) : Int) := Int.dvd_coe_gcd j1 j2
  rw [Int.gcd_mul_right, co, Nat.one_mul] at this
  exact Int.dvd_natAbs.mp this
/-- the least common multiple, one after another -/
def lcmF : Int → List Int → Int
  | L, [] => L
  | L, m :: ms => lcmF (L * (m / Int.gcd L m)) ms
theorem lcmF_app : ∀ (L : Int) (xs ys : List Int), lcmF L (xs ++ ys) = lcmF (lcmF L xs) ys
  | _, [], _ => rfl
  | _, _ :: xs, ys => lcmF_app _ xs ys
theorem step_pos {L m : Int} (hL : 0 < L) (hm : 0 < m) : 0 < m / Int.gcd L m := by
  have cp : 0 < Int.gcd L m := gcd_pos_l m hL
  have ev : m / Int.gcd L m * Int.gcd L m = m := Int.ediv_mul_cancel (Int.gcd_dvd_right ..)
  have v0 : 0 ≤ m / Int.gcd L m := Int.ediv_nonneg (by omega) (by omega)
  rcases Int.lt_or_eq_of_le v0 with h | h
  · exact h
  · rw [← h, Int.zero_mul] at ev
    omega
theorem step_le {L m : Int} (hL : 0 < L) (hm : 0 < m) : m / Int.gcd L m ≤ m := Int.ediv_le_self _ (by omega)
theorem lcm_pos {L m : Int} (hL : 0 < L) (hm : 0 < m) : 0 < L * (m / Int.gcd L m) := Int.mul_pos hL (step_pos hL hm)
theorem lcmF_pos : ∀ {L : Int} {xs : List Int}, 0 < L → (∀ x ∈ xs, 0 < x) → 0 < lcmF L xs
  | _, [], hL, _ => hL
  | L, x :: xs, hL, h => lcmF_pos (L := L * (x / Int.gcd L x)) (xs := xs) (lcm_pos hL (h x List.mem_cons_self)) fun y hy => h y (List.mem_cons_of_mem _ hy)
theorem lcm_dvd_l (L m : Int) : L ∣ L * (m / Int.gcd L m) := Int.dvd_mul_right ..
theorem lcm_dvd_r {L m : Int} : m ∣ L * (m / Int.gcd L m) := by
  have eu : L / Int.gcd L m * Int.gcd L m = L := Int.ediv_mul_cancel (Int.gcd_dvd_left ..)
  have ev : m / Int.gcd L m * Int.gcd L m = m := Int.ediv_mul_cancel (Int.gcd_dvd_right ..)
  refine ⟨L / Int.gcd L m, ?_⟩
  generalize (Int.gcd L m : Int) = c at *
  generalize L / c = u at *
  generalize m / c = v at *
  rw [← eu, ← ev, Int.mul_right_comm, Int.mul_assoc, Int.mul_comm, Int.mul_assoc, Int.mul_comm c u]
theorem lcmF_joint {b d : Int} : ∀ {xs : List Int} {L : Int}, 0 < L → (∀ x ∈ xs, 0 < x) → (Int.gcd L b : Int) ∣ d → (∀ x ∈ xs, (Int.gcd x b : Int) ∣ d) → (Int.gcd (lcmF L xs) b : Int) ∣ d
  | [], _, _, _, h, _ => h
  | x :: xs, L, hL, hx, h, k => lcmF_joint (xs := xs) (L := L * (x / Int.gcd L x)) (lcm_pos hL (hx x List.mem_cons_self)) (fun y hy => hx y (List.mem_cons_of_mem _ hy)) (gcd_joint hL (hx x List.mem_cons_self) h (k x List.mem_cons_self)) fun y hy => k y (List.mem_cons_of_mem _ hy)
theorem lcmF_bits {B : Int} (hB : 1 ≤ B) : ∀ (xs : List Int) (L : Int) (k : Nat), 0 < L → L ≤ B ^ k → (∀ x ∈ xs, 0 < x ∧ x ≤ B) → lcmF L xs ≤ B ^ (k + xs.length)
  | [], L, k, _, h, _ => h
  | x :: xs, L, k, hL, h, hx => by
    obtain ⟨x0, x1⟩ := hx x List.mem_cons_self
    have s1 := step_le hL x0
    have s0 := step_pos hL x0
    have h1 : L * (x / Int.gcd L x) ≤ B ^ k * B := Int.mul_le_mul h (by omega) (by omega) (Int.le_of_lt (Int.pow_pos (by omega)))
    rw [← Int.pow_succ] at h1
    have := lcmF_bits hB xs (L * (x / Int.gcd L x)) (k + 1) (lcm_pos hL x0) h1 fun y hy => hx y (List.mem_cons_of_mem _ hy)
    rw [List.length_cons, Nat.add_comm xs.length 1, ← Nat.add_assoc]
    exact this
theorem dvd_cop {u v k : Int} (h : Int.gcd u v = 1) (hd : v ∣ u * k) : v ∣ k := by
  have : v ∣ (Int.gcd (u * k) (v * k) : Int) := Int.dvd_coe_gcd hd (Int.dvd_mul_right ..)
  rw [Int.gcd_mul_right, h, Nat.one_mul] at this
  exact Int.dvd_natAbs.mp this
theorem lcm_least {L m d : Int} (hL : 0 < L) (h1 : L ∣ d) (h2 : m ∣ d) : L * (m / Int.gcd L m) ∣ d := by
  have cp : 0 < Int.gcd L m := gcd_pos_l m hL
  have eu : L / Int.gcd L m * Int.gcd L m = L := Int.ediv_mul_cancel (Int.gcd_dvd_left ..)
  have ev : m / Int.gcd L m * Int.gcd L m = m := Int.ediv_mul_cancel (Int.gcd_dvd_right ..)
  have co : Int.gcd (L / Int.gcd L m) (m / Int.gcd L m) = 1 := Int.gcd_ediv_gcd_ediv_gcd cp
  obtain ⟨k, rfl⟩ := h1
  refine Int.mul_dvd_mul_left L (dvd_cop co ?_)
  generalize hu : L / Int.gcd L m = u at *
  generalize hv : m / Int.gcd L m = v at *
  have c0 : (Int.gcd L m : Int) ≠ 0 := by omega
  generalize (Int.gcd L m : Int) = c at *
  obtain ⟨j, hj⟩ := h2
  refine ⟨j, ?_⟩
  have : c * (u * k) = c * (v * j) := by
    rw [← Int.mul_assoc, ← Int.mul_assoc, Int.mul_comm c u, Int.mul_comm c v, eu, ev]
    exact hj
  exact Int.eq_of_mul_eq_mul_left c0 this
theorem lcmF_least {d : Int} : ∀ {xs : List Int} {L : Int}, 0 < L → L ∣ d → (∀ x ∈ xs, 0 < x ∧ x ∣ d) → lcmF L xs ∣ d
  | [], _, _, h, _ => h
  | x :: xs, L, hL, h, hx => lcmF_least (xs := xs) (L := L * (x / Int.gcd L x)) (lcm_pos hL (hx x List.mem_cons_self).1) (lcm_least hL h (hx x List.mem_cons_self).2) fun y hy => hx y (List.mem_cons_of_mem _ hy)
theorem emod_dvd {R R' m : Int} (h : R % m = R' % m) : m ∣ R - R' := by
  have e1 := Int.mul_ediv_add_emod R m
  have e2 := Int.mul_ediv_add_emod R' m
  refine ⟨R / m - R' / m, ?_⟩
  rw [Int.mul_sub]
  omega
theorem crt_uniq {R R' : Int} {ps : List (Int × Int)} (h0 : ∀ q ∈ ps, 0 < q.2) (a0 : 0 ≤ R) (a1 : R < lcmF 1 (ps.map (·.2))) (b0 : 0 ≤ R') (b1 : R' < lcmF 1 (ps.map (·.2))) (ha : ∀ q ∈ ps, R % q.2 = q.1) (hb : ∀ q ∈ ps, R' % q.2 = q.1) : R = R' := by
  have hd : lcmF 1 (ps.map (·.2)) ∣ R - R' := lcmF_least (by decide) (Int.one_dvd _) fun x hx => by
    obtain ⟨q, hq, rfl⟩ := List.mem_map.mp hx
    exact ⟨h0 q hq, emod_dvd (by rw [ha q hq, hb q hq])⟩
  have e1 : (R - R') % lcmF 1 (ps.map (·.2)) = 0 := Int.emod_eq_zero_of_dvd hd
  have e2 := Int.emod_eq_emod_iff_emod_sub_eq_zero.mpr e1
  rwa [Int.emod_eq_of_lt a0 a1, Int.emod_eq_of_lt b0 b1] at e2
/-- one step of joining -/
theorem crt_step {R M o b s : Int} (hM : 0 < M) (hb : 0 < b) (hd : (Int.gcd M b : Int) ∣ o - R) (ho : 0 ≤ o ∧ o < b) (hs : (s * (M / Int.gcd M b)) % (b / Int.gcd M b) = 1 % (b / Int.gcd M b)) :
    (R + M * ((o - R) / Int.gcd M b * s % (b / Int.gcd M b))) % b = o := by
  have eM : M / Int.gcd M b * Int.gcd M b = M := Int.ediv_mul_cancel (Int.gcd_dvd_left ..)
  have eb : b / Int.gcd M b * Int.gcd M b = b := Int.ediv_mul_cancel (Int.gcd_dvd_right ..)
  have ed : (o - R) / Int.gcd M b * Int.gcd M b = o - R := Int.ediv_mul_cancel hd
  generalize (Int.gcd M b : Int) = c at *
  generalize M / c = M1 at *
  generalize b / c = b1 at *
  generalize (o - R) / c = e at *
  have q := Int.mul_ediv_add_emod (e * s) b1
  have q2 := Int.mul_ediv_add_emod (s * M1) b1
  have q3 := Int.mul_ediv_add_emod 1 b1
  rw [hs] at q2
  have hk : ∃ k, R + M * (e * s % b1) = o + b * k := by
    refine ⟨e * (s * M1 / b1) - e * (1 / b1) - M1 * (e * s / b1), ?_⟩
    have t : e * s % b1 = e * s - b1 * (e * s / b1) := by omega
    rw [t]
    generalize e * s / b1 = z at *
    generalize 1 / b1 = z1 at *
    generalize s * M1 / b1 = z2 at *
    generalize 1 % b1 = z3 at *
    have a1 : s * M1 = b1 * z2 + (1 - b1 * z1) := by omega
    have a2 : M * (e * s - b1 * z) = c * (e * (s * M1)) - b * (M1 * z) := by
      rw [← eM, ← eb]
      simp only [Int.mul_sub]
      have t1 : M1 * c * (e * s) = c * (e * (s * M1)) := by
        rw [Int.mul_comm M1 c, Int.mul_assoc, Int.mul_left_comm M1 e s, Int.mul_comm M1 s]
      have t2 : M1 * c * (b1 * z) = b1 * c * (M1 * z) := by
        rw [Int.mul_comm M1 c, Int.mul_comm b1 c, Int.mul_assoc, Int.mul_assoc, Int.mul_left_comm M1 b1 z]
      rw [t1, t2]
    have a3 : c * (e * (s * M1)) = b * (e * z2) - b * (e * z1) + c * e := by
      rw [a1, ← eb]
      simp only [Int.mul_add, Int.mul_sub, Int.mul_one]
      have t1 : c * (e * (b1 * z2)) = b1 * c * (e * z2) := by
        rw [Int.mul_left_comm e b1 z2, ← Int.mul_assoc, Int.mul_comm c b1]
      have t2 : c * (e * (b1 * z1)) = b1 * c * (e * z1) := by
        rw [Int.mul_left_comm e b1 z1, ← Int.mul_assoc, Int.mul_comm c b1]
      rw [t1, t2]
      omega
    have a4 : c * e = o - R := by rw [Int.mul_comm]; exact ed
    rw [a2, a3, a4]
    simp only [Int.mul_sub]
    omega
  obtain ⟨k, hk⟩ := hk
  rw [hk, Int.add_mul_emod_self_left]
  exact Int.emod_eq_of_lt ho.1 ho.2
def Val (q : Int × Int) : Prop := 0 ≤ q.1 ∧ q.1 < q.2 ∧ q.2 ≤ 1000000000000000000000000000000000000000000000000000000000000
theorem g60_lt {n : Int} (h : n ≤ 1000000000000000000000000000000000000000000000000000000000000) : n < 2 ^ 7000 := lt_two (j := 200) (by
  have : (2 : Int) ^ 200 = 1606938044258990275541962092341162602522202993782792835301376 := by decide +kernel
  omega) (by decide)
/-! ### walks -/
def b_is_modulus : ZTS :=
  (sret (zand (zcall c_is_whole (acons (zv 0) anil)) (zchn oLe oLe (zc (.int 1)) (zv 0) (zc (.int 1000000000000000000000000000000000000000000000000000000000000)))))
def c_is_modulus : ZSp := fun ds m Q _ => ∃ n : Int, ds = [.int n] ∧ 1 ≤ n ∧ n ≤ 1000000000000000000000000000000000000000000000000000000000000 ∧ Q (.bl true) m
theorem w_is_modulus (ds : List D) (m : Mu) (Q : QE) (E : QX) (h : c_is_modulus ds m Q E) : ds.length = 1 ∧ b_is_modulus ⟨fun _ m => Q .non m, Q, fun x _ m => E x m⟩ (ds.map some ++ List.replicate (1 - ds.length) none) m := by
  obtain ⟨n, rfl, h0, h1, h⟩ := h
  refine ⟨rfl, ?_⟩
  unfold b_is_modulus
  walk_at "zs"
  simp only [h0, h1, decide_true, if_true]
  exact h
def b_is_pair : ZTS :=
  (sseq (sif (tor (tnot (tvl (zisi .tuple (zv 0)))) (tor (tvl (zop oNe (zbl (acons (zv 0) anil) cLen) (zc (.int 2)))) (tnot (tvl (zcall c_is_modulus (acons (zop oIx (zv 0) (zc (.int 1))) anil)))))) (sret (zc (.bl false))) snil)
    (sret (zand (zcall c_is_whole (acons (zop oIx (zv 0) (zc (.int 0))) anil)) (zchn oLe oLt (zc (.int 0)) (zop oIx (zv 0) (zc (.int 0))) (zop oIx (zv 0) (zc (.int 1)))))))
def c_is_pair : ZSp := fun ds m Q _ => ∃ q : Int × Int, ds = [pr q] ∧ Val q ∧ Q (.bl true) m
theorem w_is_pair (ds : List D) (m : Mu) (Q : QE) (E : QX) (h : c_is_pair ds m Q E) : ds.length = 1 ∧ b_is_pair ⟨fun _ m => Q .non m, Q, fun x _ m => E x m⟩ (ds.map some ++ List.replicate (1 - ds.length) none) m := by
  obtain ⟨q, rfl, ⟨q0, q1, q2⟩, h⟩ := h
  refine ⟨rfl, ?_⟩
  unfold b_is_pair
  unfold pr
  walk_at "zs"
  refine ⟨q.2, rfl, by omega, q2, ?_⟩
  walk_at "zs"
  simp only [q0, q1, decide_true, if_true]
  exact h
def b_check_pairs : ZTS :=
  (sif (tor (tnot (tvl (zisi .tuple (zv 0)))) (tor (tvl (zop oGt (zbl (acons (zv 0) anil) cLen) (zc (.int 30)))) (tnot (tvl (zbl (acons (zlc (iseq (zv 0)) (gn 1) tyes (zcall c_is_pair (acons (zv 1) anil)) [1]) anil) cAll))))) snever snil)
def c_check_pairs : ZSp := fun ds m Q _ => ∃ ps : List (Int × Int), ds = [.tup (ps.map pr)] ∧ ps.length ≤ 30 ∧ (∀ q ∈ ps, Val q) ∧ Q .non m
theorem w_check_pairs (ds : List D) (m : Mu) (Q : QE) (E : QX) (h : c_check_pairs ds m Q E) : ds.length = 1 ∧ b_check_pairs ⟨fun _ m => Q .non m, Q, fun x _ m => E x m⟩ (ds.map some ++ List.replicate (2 - ds.length) none) m := by
  obtain ⟨ps, rfl, hl, hv, h⟩ := h
  refine ⟨rfl, ?_⟩
  unfold b_check_pairs
  walk_at "zs"
  rw [if_neg (by rw [List.length_map]; omega)]
  rw [comp_e]
  walk_at "zs"
  refine comp_map (fun _ => .bl true) (by show (ps.map pr).length ≤ _; rw [List.length_map, sizeLine_eq]; omega) trivial (fun i hi K1 K2 hK => ?_) ?_
  · have hi' := lt_len hi
    show gn 1 ((ps.map pr).getD i .non) _ _ _ _
    rw [getD_prs hi']
    walk_at "zs"
    exact ⟨_, rfl, hv _ (getD_mem hi'), hK⟩
  · rw [rng_bl]
    refine cAll_bls ?_
    rw [all_rep]
    exact h
/-- the first two that clash -/
def Bad (ps : List (Int × Int)) (f s : Nat) : Prop := ((ps.getD f (0, 0)).1 - (ps.getD s (0, 0)).1) % Int.gcd (ps.getD f (0, 0)).2 (ps.getD s (0, 0)).2 ≠ 0
def Cl (ps : List (Int × Int)) : Option (Nat × Nat) → Prop
  | none => ∀ s f, s < ps.length → f < s → ¬ Bad ps f s
  | some (f, s) => s < ps.length ∧ f < s ∧ Bad ps f s ∧ (∀ s' f', s' < s → f' < s' → ¬ Bad ps f' s') ∧ ∀ f', f' < f → ¬ Bad ps f' s
theorem Cl.uniq {ps : List (Int × Int)} {r r' : Option (Nat × Nat)} (h : Cl ps r) (h' : Cl ps r') : r = r' := by
  cases r with
  | none =>
    cases r' with
    | none => rfl
    | some p => exact absurd h'.2.2.1 (h _ _ h'.1 h'.2.1)
  | some p =>
    cases r' with
    | none => exact absurd h.2.2.1 (h' _ _ h.1 h.2.1)
    | some p' =>
      obtain ⟨f, s⟩ := p
      obtain ⟨f', s'⟩ := p'
      obtain ⟨a1, a2, a3, a4, a5⟩ := h
      obtain ⟨b1, b2, b3, b4, b5⟩ := h'
      have es : s = s' := by
        rcases Nat.lt_trichotomy s s' with q | q | q
        · exact absurd a3 (b4 _ _ q a2)
        · exact q
        · exact absurd b3 (a4 _ _ q b2)
      subst es
      have ef : f = f' := by
        rcases Nat.lt_trichotomy f f' with q | q | q
        · exact absurd a3 (b5 _ q)
        · exact q
        · exact absurd b3 (a5 _ q)
      rw [ef]
def clD : Option (Nat × Nat) → D
  | none => .non
  | some (f, s) => .tup [.int f, .int s]
theorem cut_take {xs : List D} {i : Nat} (h : i ≤ xs.length) : cutG xs none (some (i : Int)) = xs.take i := by
  unfold cutG
  rw [HT.sIx_none, HT.sIx_nat, List.drop_zero, Nat.sub_zero, Nat.min_eq_left h]
def b_clash_of : ZTS :=
  (sseq (sfor (ienumT (acons (zv 0) anil)) (gtup 2 (gcons (gn 1) (gcons (gtup 2 (gcons (gn 2) (gcons (gn 3) gnil))) gnil))) (sfor (ienumT (acons (zsl (zv 0) onone (osome (zv 1))) anil)) (gtup 2 (gcons (gn 4) (gcons (gtup 2 (gcons (gn 5) (gcons (gn 6) gnil))) gnil))) (sif (tvl (zop oNe (zop oMod (zop oSub (zv 5) (zv 2)) (zcall c_gcd_of (acons (zv 6) (acons (zv 3) anil)))) (zc (.int 0)))) (sret (ztup (acons (zv 4) (acons (zv 1) anil)))) snil)))
    (sret (zc .non)))
def c_clash_of : ZSp := fun ds m Q _ => ∃ ps : List (Int × Int), ds = [.tup (ps.map pr)] ∧ ps.length ≤ 30 ∧ (∀ q ∈ ps, Val q) ∧ ∀ r, Cl ps r → Q (clD r) m
theorem w_clash_of (ds : List D) (m : Mu) (Q : QE) (E : QX) (h : c_clash_of ds m Q E) : ds.length = 1 ∧ b_clash_of ⟨fun _ m => Q .non m, Q, fun x _ m => E x m⟩ (ds.map some ++ List.replicate (7 - ds.length) none) m := by
  obtain ⟨ps, rfl, hl, hv, h⟩ := h
  refine ⟨rfl, ?_⟩
  unfold b_clash_of
  walk_at "zs"
  refine for_i ?_
  walk_at "zs"
  obtain ⟨I, hI⟩ : ∃ I : Nat → ZEnv → Mu → Prop, I = fun i ρ m' => ∃ a b c d e f, i ≤ ps.length ∧ (∀ s' f', s' < i → f' < s' → ¬ Bad ps f' s') ∧ ρ = [some (.tup (ps.map pr)), a, b, c, d, e, f] ∧ m' = m := ⟨_, rfl⟩
  refine loop_i I (by rw [hI]; exact ⟨_, _, _, _, _, _, Nat.zero_le _, fun s' f' h => by omega, rfl, rfl⟩) fun s ρ m' hi => ?_
  rw [hI] at hi
  obtain ⟨a, b, c, d, e, f, hs, hb, rfl, rfl⟩ := hi
  refine ⟨trivial, fun hlt => ?_, fun e => ?_⟩
  · have hlt' := lt_len hlt
    show gtup 2 _ (.tup [.int s, (ps.map pr).getD s .non]) _ _ _ _
    rw [getD_prs hlt']
    walk_at "zs"
    have v1 := hv _ (getD_mem (d := (0, 0)) hlt')
    refine for_i ?_
    walk_at "zs"
    rw [cut_take (by rw [List.length_map]; omega), ← List.map_take]
    obtain ⟨J, hJ⟩ : ∃ J : Nat → ZEnv → Mu → Prop, J = fun i ρ m2 => ∃ d e f, i ≤ s ∧ (∀ f', f' < i → ¬ Bad ps f' s) ∧ ρ = [some (.tup (ps.map pr)), some (.int s), some (.int (ps.getD s (0, 0)).1), some (.int (ps.getD s (0, 0)).2), d, e, f] ∧ m2 = m' := ⟨_, rfl⟩
    refine loop_i J (by rw [hJ]; exact ⟨_, _, _, Nat.zero_le _, fun f' h => by omega, rfl, rfl⟩) fun i ρ m2 hi => ?_
    rw [hJ] at hi
    obtain ⟨d, e, f, hi, hb2, rfl, rfl⟩ := hi
    have tl : (ps.take s).length = s := by rw [List.length_take]; omega
    refine ⟨trivial, fun hlt2 => ?_, fun e2 => ?_⟩
    · have hlt2' := lt_len hlt2
      rw [tl] at hlt2'
      show gtup 2 _ (.tup [.int i, ((ps.take s).map pr).getD i .non]) _ _ _ _
      rw [getD_prs (by rw [tl]; exact hlt2')]
      have ge : (ps.take s).getD i (0, 0) = ps.getD i (0, 0) := by simp [List.getD_eq_getElem?_getD, List.getElem?_take, hlt2']
      rw [ge]
      have v2 := hv _ (getD_mem (d := (0, 0)) (show i < ps.length by omega))
      walk_at "zs"
      refine ⟨_, _, rfl, by have := v2.1; have := v2.2.1; omega, g60_lt v2.2.2, by have := v1.1; have := v1.2.1; omega, g60_lt v1.2.2, .inl (by have := v2.1; have := v2.2.1; omega), ?_⟩
      have gp : 0 < Int.gcd (ps.getD i (0, 0)).2 (ps.getD s (0, 0)).2 := gcd_pos_l _ (by have := v2.1; have := v2.2.1; omega)
      walk_at "zs"
      refine ⟨by omega, ?_⟩
      by_cases hz : ((ps.getD i (0, 0)).1 - (ps.getD s (0, 0)).1) % Int.gcd (ps.getD i (0, 0)).2 (ps.getD s (0, 0)).2 = 0
      · simp only [hz, decide_true, Bool.not_true, Bool.false_eq_true, if_false]
        rw [hJ]
        refine ⟨_, _, _, hlt2', fun f' hf => ?_, rfl, rfl⟩
        rcases Nat.lt_or_eq_of_le (Nat.le_of_lt_succ hf) with q | q
        · exact hb2 f' q
        · rw [q]
          exact fun bad => bad hz
      · simp only [hz, decide_false, Bool.not_false, if_true]
        exact h (some (i, s)) ⟨hlt', hlt2', hz, hb, hb2⟩
    · have e3 := eq_len e2
      rw [tl] at e3
      rw [hI]
      refine ⟨_, _, _, _, _, _, hlt', fun s' f' hs' hf' => ?_, rfl, rfl⟩
      rcases Nat.lt_or_eq_of_le (Nat.le_of_lt_succ hs') with q | q
      · exact hb s' f' q hf'
      · rw [q] at hf' ⊢
        exact hb2 f' (by omega)
  · have e3 := eq_len e
    walk_at "zs"
    exact h none fun s' f' hs' hf' => hb s' f' (by omega) hf'
def b_two_joined : ZTS :=
  (sseq (sset (zcall c_gcd_of (acons (zv 1) (acons (zv 3) anil))) 4)
    (sseq (sset (zop oFdv (zv 3) (zv 4)) 5)
    (sseq (sset (zop oMod (zop oMul (zop oFdv (zop oSub (zv 2) (zv 0)) (zv 4)) (zcall c_inverse_by (acons (zop oFdv (zv 1) (zv 4)) (acons (zv 5) anil)))) (zv 5)) 6)
    (sret (ztup (acons (zop oAdd (zv 0) (zop oMul (zv 1) (zv 6))) (acons (zop oMul (zv 1) (zv 5)) anil)))))))
def c_two_joined : ZSp := fun ds m Q _ => ∃ R M o b : Int, ds = [.int R, .int M, .int o, .int b] ∧ 0 ≤ R ∧ R < M ∧ M < 2 ^ 6500 ∧ 0 ≤ o ∧ o < b ∧ b ≤ 1000000000000000000000000000000000000000000000000000000000000 ∧ (Int.gcd M b : Int) ∣ o - R ∧ ∀ t, 0 ≤ t → t < b / Int.gcd M b → (R + M * t) % b = o → Q (.tup [.int (R + M * t), .int (M * (b / Int.gcd M b))]) m
theorem w_two_joined (ds : List D) (m : Mu) (Q : QE) (E : QX) (h : c_two_joined ds m Q E) : ds.length = 4 ∧ b_two_joined ⟨fun _ m => Q .non m, Q, fun x _ m => E x m⟩ (ds.map some ++ List.replicate (7 - ds.length) none) m := by
  obtain ⟨R, M, o, b, rfl, R0, R1, M1, o0, o1, b1, hd, h⟩ := h
  refine ⟨rfl, ?_⟩
  unfold b_two_joined
  have M7 : M < 2 ^ 7000 := Int.lt_of_lt_of_le M1 (two_le (by decide))
  have b7 := g60_lt b1
  have c0 : (0 : Int) < Int.gcd M b := by have := gcd_pos_l b (show 0 < M by omega); omega
  have c1 : (Int.gcd M b : Int) ≤ b := Int.le_of_dvd (by omega) (Int.gcd_dvd_right ..)
  have sp := step_pos (show 0 < M by omega) (show 0 < b by omega)
  have sl := step_le (show 0 < M by omega) (show 0 < b by omega)
  have up : (2 : Int) ^ 7000 < 2 ^ 8000 := lt_two (Int.le_refl _) (by decide)
  walk_at "zs"
  refine ⟨M, b, rfl, by omega, M7, by omega, b7, .inl (by omega), ?_⟩
  walk_at "zs"
  refine ⟨small_fdv c0 (by omega), small_fdv c0 (by omega), small_fdv c0 (by omega), _, _, rfl, sp, by omega, fun s s0 s1 hs => ?_⟩
  walk_at "zs"
  rw [Int.gcd_ediv_gcd_ediv_gcd (gcd_pos_l b (show 0 < M by omega))] at hs
  have ed : (o - R) / Int.gcd M b * Int.gcd M b = o - R := Int.ediv_mul_cancel hd
  have ab : ((o - R) / Int.gcd M b).natAbs < 2 ^ 7000 := by
    have h1 : ((o - R) / Int.gcd M b).natAbs ≤ (o - R).natAbs := by
      rw [← ed, Int.natAbs_mul, Int.mul_ediv_cancel _ (by omega)]
      exact Nat.le_mul_of_pos_right _ (by omega)
    refine Nat.lt_of_le_of_lt h1 ?_
    have h2 := abs_lt (k := 7000) (show 0 ≤ M by omega) M7
    have h3 := abs_lt (k := 7000) (show 0 ≤ b by omega) b7
    omega
  have t0 := Int.emod_nonneg ((o - R) / Int.gcd M b * s) (show b / Int.gcd M b ≠ 0 by omega)
  have t1 := Int.emod_lt_of_pos ((o - R) / Int.gcd M b * s) sp
  have mt : ∀ t, 0 ≤ t → t < 2 ^ 7000 → CMulW M t := fun t t0 t1 => mul_ok (abs_lt (show 0 ≤ M by omega) M7) (abs_lt t0 t1) (by decide)
  exact ⟨mul_ok ab (abs_lt (k := 7000) s0 (by omega)) (by decide), sp, mt _ t0 (by omega), mt _ (by omega) (by omega), h _ t0 t1 (crt_step (by omega) (by omega) hd ⟨o0, o1⟩ hs)⟩
def b_joined_of : ZTS :=
  (sseq (sasg (ztup (acons (zc (.int 0)) (acons (zc (.int 1)) anil))) (gtup 2 (gcons (gn 1) (gcons (gn 2) gnil))))
    (sseq (sfor (iseq (zv 0)) (gtup 2 (gcons (gn 3) (gcons (gn 4) gnil))) (sasg (zcall c_two_joined (acons (zv 1) (acons (zv 2) (acons (zv 3) (acons (zv 4) anil))))) (gtup 2 (gcons (gn 1) (gcons (gn 2) gnil)))))
    (sret (ztup (acons (zv 1) (acons (zv 2) anil))))))
def c_joined_of : ZSp := fun ds m Q _ => ∃ ps : List (Int × Int), ds = [.tup (ps.map pr)] ∧ ps.length ≤ 30 ∧ (∀ q ∈ ps, Val q) ∧ Cl ps none ∧ ∀ R, 0 ≤ R → R < lcmF 1 (ps.map (·.2)) → (∀ q ∈ ps, R % q.2 = q.1) → Q (.tup [.int R, .int (lcmF 1 (ps.map (·.2)))]) m
theorem w_joined_of (ds : List D) (m : Mu) (Q : QE) (E : QX) (h : c_joined_of ds m Q E) : ds.length = 1 ∧ b_joined_of ⟨fun _ m => Q .non m, Q, fun x _ m => E x m⟩ (ds.map some ++ List.replicate (5 - ds.length) none) m := by
  obtain ⟨ps, rfl, hl, hv, hc, h⟩ := h
  refine ⟨rfl, ?_⟩
  unfold b_joined_of
  walk_at "zs"
  refine for_i ?_
  walk_at "zs"
  obtain ⟨I, hI⟩ : ∃ I : Nat → ZEnv → Mu → Prop, I = fun i ρ m' => ∃ R c d, i ≤ ps.length ∧ 0 ≤ R ∧ R < lcmF 1 ((ps.take i).map (·.2)) ∧ (∀ q ∈ ps.take i, R % q.2 = q.1) ∧ (∀ q ∈ ps.take i, q.2 ∣ lcmF 1 ((ps.take i).map (·.2))) ∧ ρ = [some (.tup (ps.map pr)), some (.int R), some (.int (lcmF 1 ((ps.take i).map (·.2)))), c, d] ∧ m' = m := ⟨_, rfl⟩
  refine loop_i I (by rw [hI]; exact ⟨0, _, _, Nat.zero_le _, Int.le_refl 0, by show (0 : Int) < 1; decide, fun q hq => by simp at hq, fun q hq => by simp at hq, rfl, rfl⟩) fun i ρ m' hi => ?_
  rw [hI] at hi
  obtain ⟨R, c, d, il, R0, R1, hR, hD, rfl, rfl⟩ := hi
  refine ⟨trivial, fun hlt => ?_, fun e => ?_⟩
  · have hlt' := lt_len hlt
    show gtup 2 _ ((ps.map pr).getD i .non) _ _ _ _
    rw [getD_prs hlt']
    walk_at "zs"
    have gx : ps.getD i (0, 0) = ps[i] := by rw [List.getD_eq_getElem?_getD, List.getElem?_eq_getElem hlt']; rfl
    have v := hv _ (List.getElem_mem hlt')
    rw [gx]
    have mem : ∀ q ∈ ps.take i, ∃ j, j < i ∧ ps.getD j (0, 0) = q := fun q hq => by
      obtain ⟨j, hj, e⟩ := List.mem_iff_getElem.mp hq
      rw [List.length_take] at hj
      refine ⟨j, by omega, ?_⟩
      rw [List.getD_eq_getElem?_getD, List.getElem?_eq_getElem (by omega), ← e]
      simp
    have pos : ∀ x ∈ (ps.take i).map (·.2), 0 < x ∧ x ≤ 1000000000000000000000000000000000000000000000000000000000000 := fun x hx => by
      obtain ⟨q, hq, rfl⟩ := List.mem_map.mp hx
      have w := hv q (List.mem_of_mem_take hq)
      exact ⟨by have := w.1; have := w.2.1; omega, w.2.2⟩
    have L0 : 0 < lcmF 1 ((ps.take i).map (·.2)) := by omega
    have L1 : lcmF 1 ((ps.take i).map (·.2)) < 2 ^ 6500 := by
      have := lcmF_bits (B := 1000000000000000000000000000000000000000000000000000000000000) (by decide) ((ps.take i).map (·.2)) 1 0 (by decide) (by decide) pos
      have h4 : (0 + ((ps.take i).map (fun q : Int × Int => q.2)).length) ≤ 30 := by rw [List.length_map, List.length_take]; omega
      generalize (0 + ((ps.take i).map (fun q : Int × Int => q.2)).length) = k at *
      have h3 : ((1000000000000000000000000000000000000000000000000000000000000 : Int) ^ k).natAbs ≤ 2 ^ (200 * k) := abs_pow (i := 1000000000000000000000000000000000000000000000000000000000000) (a := 200) _ (by decide +kernel)
      have h5 : (2 : Nat) ^ (200 * k) < 2 ^ 6500 := Nat.pow_lt_pow_right (by decide) (by omega)
      have h6 := lt_abs (k := 6500) (i := (1000000000000000000000000000000000000000000000000000000000000 : Int) ^ k) (by omega)
      omega
    have gd : (Int.gcd (lcmF 1 ((ps.take i).map (·.2))) ps[i].2 : Int) ∣ ps[i].1 - R := by
      refine lcmF_joint (by decide) (fun x hx => (pos x hx).1) ?_ fun x hx => ?_
      · rw [Int.gcd_one_left]
        exact Int.one_dvd _
      · obtain ⟨q, hq, rfl⟩ := List.mem_map.mp hx
        obtain ⟨j, hj, ej⟩ := mem q hq
        have nb := hc i j hlt' hj
        unfold Bad at nb
        rw [ej, gx] at nb
        have nb2 : (Int.gcd q.2 ps[i].2 : Int) ∣ q.1 - ps[i].1 := Int.dvd_of_emod_eq_zero (by omega)
        have r1 : q.2 ∣ R - q.1 := by
          have := hR q hq
          have e := Int.mul_ediv_add_emod R q.2
          exact ⟨R / q.2, by omega⟩
        have r2 := Int.dvd_trans (Int.gcd_dvd_left q.2 ps[i].2) r1
        have : ps[i].1 - R = -((q.1 - ps[i].1) + (R - q.1)) := by omega
        rw [this]
        exact Int.dvd_neg.mpr (Int.dvd_add nb2 r2)
    have et : (ps.take (i + 1)).map (·.2) = (ps.take i).map (·.2) ++ [ps[i].2] := by rw [List.take_succ_eq_append_getElem hlt', List.map_append]; rfl
    have eL : lcmF 1 ((ps.take (i + 1)).map (·.2)) = lcmF 1 ((ps.take i).map (·.2)) * (ps[i].2 / Int.gcd (lcmF 1 ((ps.take i).map (·.2))) ps[i].2) := by rw [et, lcmF_app]; rfl
    refine ⟨R, _, _, _, rfl, R0, R1, L1, v.1, v.2.1, v.2.2, gd, fun t t0 t1 ht => ?_⟩
    walk_at "zs"
    rw [hI]
    have vb : 0 < ps[i].2 := by have := v.1; have := v.2.1; omega
    refine ⟨_, _, _, hlt', ?_, ?_, fun q hq => ?_, fun q hq => ?_, by rw [eL], rfl⟩
    · have := Int.mul_nonneg (show 0 ≤ lcmF 1 ((ps.take i).map (·.2)) by omega) t0
      omega
    · rw [eL]
      have h1 := Int.mul_le_mul_of_nonneg_left (show t + 1 ≤ ps[i].2 / Int.gcd (lcmF 1 ((ps.take i).map (·.2))) ps[i].2 by omega) (show 0 ≤ lcmF 1 ((ps.take i).map (·.2)) by omega)
      rw [Int.mul_add, Int.mul_one] at h1
      omega
    · rw [List.take_succ_eq_append_getElem hlt'] at hq
      rcases List.mem_append.mp hq with hq | hq
      · obtain ⟨k, hk⟩ := hD q hq
        rw [hk, Int.mul_assoc, Int.add_mul_emod_self_left]
        exact hR q hq
      · rw [List.mem_singleton.mp hq]
        exact ht
    · rw [eL]
      rw [List.take_succ_eq_append_getElem hlt'] at hq
      rcases List.mem_append.mp hq with hq | hq
      · exact Int.dvd_trans (hD q hq) (lcm_dvd_l ..)
      · rw [List.mem_singleton.mp hq]
        exact lcm_dvd_r
  · have e3 := eq_len e
    rw [e3, List.take_length] at R1 hR
    walk_at "zs"
    rw [e3, List.take_length]
    exact h R R0 R1 hR
def b_joined : ZTS :=
  (sseq (sexp (zcall c_check_pairs (acons (zv 0) anil)))
    (sseq (sset (zcall c_clash_of (acons (zv 0) anil)) 1)
    (sseq (sif (tvl (zop oIsNot (zv 1) (zc .non))) (sret (zop oAdd (ztup (acons (zc (.str "clash")) anil)) (zv 1))) snil)
    (sret (zop oAdd (ztup (acons (zc (.str "class")) anil)) (zcall c_joined_of (acons (zv 0) anil)))))))
def c_joined : ZSp := fun ds m Q _ => ∃ ps : List (Int × Int), ds = [.tup (ps.map pr)] ∧ ps.length ≤ 30 ∧ (∀ q ∈ ps, Val q) ∧ (∀ f s : Nat, Cl ps (some (f, s)) → Q (.tup [.str "clash", .int f, .int s]) m) ∧
  (Cl ps none → ∀ R, 0 ≤ R → R < lcmF 1 (ps.map (·.2)) → (∀ q ∈ ps, R % q.2 = q.1) → Q (.tup [.str "class", .int R, .int (lcmF 1 (ps.map (·.2)))]) m)
theorem w_joined (ds : List D) (m : Mu) (Q : QE) (E : QX) (h : c_joined ds m Q E) : ds.length = 1 ∧ b_joined ⟨fun _ m => Q .non m, Q, fun x _ m => E x m⟩ (ds.map some ++ List.replicate (2 - ds.length) none) m := by
  obtain ⟨ps, rfl, hl, hv, h1, h2⟩ := h
  refine ⟨rfl, ?_⟩
  unfold b_joined
  walk_at "zs"
  refine ⟨ps, rfl, hl, hv, ?_⟩
  walk_at "zs"
  refine ⟨ps, rfl, hl, hv, fun r hr => ?_⟩
  cases r with
  | none =>
    simp only [clD, isNon, Bool.not_true, Bool.false_eq_true, if_false]
    refine ⟨ps, rfl, hl, hv, hr, fun R R0 R1 hR => ?_⟩
    walk_at "zs"
    exact h2 hr R R0 R1 hR
  | some p =>
    obtain ⟨f, s⟩ := p
    simp only [clD, isNon, Bool.not_false, if_true]
    walk_at "zs"
    exact h1 f s hr
end Zed
end
section
set_option maxHeartbeats 4000000
/-! ZCrt: what the laws of joining share. -/
namespace Zed
open PySem PySem.Spec PyProof.Rows L2
local macro_rules | `(tactic| walk_at "zs") => `(tactic| simp only [zv, zc, zop, zun, anil, acons, ztup, zfl, zlst, zbl, zcall, zcallK, tvl, ttr, tand, tor, tnot, zand, zor, zorT, znot, zif, zchn, zsl, onone, osome, zrev, zrevA, zisi, gn, gnil, gcons, gtup, gsub, snil, sseq, sexp, sret, sretN, sif, sasg, sset, spar, spar3, saug, wkL, zapp, zpop, zseal, xat, snever, tyes, ilist, itup, istr, irng1, irng2, irng3, ienum, ienumT, izip, irev, wipeZ, zev, oAddL, isNon, at2_if, iseq, ienumT, gstar, gtupA, saugS, oGetL, sl_0, sl_1, sl_2, sl_3, sl_4, sl_5, sl_6, sl_7, sl_8, at1_0, at2_0, at2_1, at3_0, at3_1, at3_2, at4_0, at4_1, at4_2, at4_3, at5_0, at5_1, at5_2, at5_3, at5_4, at6_0, at6_1, at6_2, at6_3, at6_4, at6_5, at7_0, at7_1, at7_2, at7_3, at7_4, at7_5, at7_6, at8_0, at8_1, at8_2, at8_3, at8_4, at8_5, at8_6, at8_7, ixn2_0, ixn2_1, ixn3_0, ixn3_1, ixn3_2, cp_2, vp_2, cp_3, vp_3, cp_6, vp_6, cp_7, vp_7, cp_18, vp_18, cp_60, vp_60, q_truD_1, q_truD_2, q_truD_3, q_truD_4, q_truD_5, q_truD_6, q_oAdd_1, q_oAdd_2, q_oAdd_3, q_oAdd_4, q_oInt_1, q_oSub_1, q_oLt_1, q_oEq_1, q_oNe_1, q_oNe_2, q_oEq_2, q_oIs_1, q_oIs_2, q_oIsNot_1, q_oIsNot_2, q_oNeg_1, q_cAbs_1, q_cMax_1, q_cMin_1, q_cInt_1, q_cInt_2, q_cDivmod_1, q_lenD_1, q_lenD_2, q_lenD_3, q_cLen_1, q_cTuple_1, q_cTuple_2, q_cTuple_3, q_cListF_1, q_cListF_2, q_cListF_3, q_cList_1, q_cList_2, q_seqD_1, q_seqD_2, q_lenD_4, q_oIx_1, q_oIx_2, q_oIx_4, q_oSl_1, q_oSl_2, q_oSl_3, q_oSl_4, q_tyD_1, q_tyD_2, q_tyD_3, q_tyD_4, q_tyD_5, q_tyD_6, q_cIsi_1, q_oSet_1, q_oIAdd_1, q_oIAdd_2, List.getD_cons_zero, List.getD_cons_succ, List.take_zero, List.drop_zero, updM_same, updM_upd, dropM_updM, isi_ii, isi_bi, isi_ib, isi_bb, isi_tt, List.map_cons, List.map_nil, List.replicate_succ, List.replicate_zero, List.cons_append, List.nil_append, List.append_nil, List.set_cons_zero, List.set_cons_succ, List.getElem?_cons_zero, List.getElem?_cons_succ, List.length_cons, List.length_nil, Bool.false_eq_true, if_true, if_false, Bool.not_true, Bool.not_false, Bool.not_eq_true, Bool.not_eq_false', decide_eq_true_eq, true_and, and_true, exists_eq_left', Nat.reduceAdd, Nat.reduceSub, reduceCtorEq, decide_true, decide_false, Bool.true_eq_false, ite_true, ite_false, isw_int])
def b_lgcd : ZTS :=
  (sseq (swhile (tvl (zop oGt (zv 1) (zc (.int 0)))) (spar 0 1 (acons (zv 1) (acons (zop oMod (zv 0) (zv 1)) anil))))
    (sret (zv 0)))
def c_lgcd : ZSp := fun ds m Q _ => ∃ a b : Int, ds = [.int a, .int b] ∧ 0 ≤ a ∧ 0 ≤ b ∧ Q (.int (Int.gcd a b)) m
theorem w_lgcd (ds : List D) (m : Mu) (Q : QE) (E : QX) (h : c_lgcd ds m Q E) : ds.length = 2 ∧ b_lgcd ⟨fun _ m => Q .non m, Q, fun x _ m => E x m⟩ (ds.map some ++ List.replicate (2 - ds.length) none) m := by
  obtain ⟨a, b, rfl, a0, b0, h⟩ := h
  refine ⟨rfl, ?_⟩
  unfold b_lgcd
  walk_at "zs"
  refine while_i (fun k ρ m' => ∃ x y : Int, k = y.toNat ∧ 0 ≤ x ∧ 0 ≤ y ∧ Int.gcd x y = Int.gcd a b ∧ ρ = [some (.int x), some (.int y)] ∧ m' = m) b.toNat ⟨a, b, rfl, a0, b0, rfl, rfl, rfl⟩ ?_
  rintro k ρ m' ⟨x, y, rfl, x0, y0, g, rfl, rfl⟩
  walk_at "zs"
  by_cases hy : 0 < y
  · rw [if_pos hy]
    have z0 := Int.emod_nonneg x (show y ≠ 0 by omega)
    have z1 := Int.emod_lt_of_pos x hy
    refine ⟨hy, (x % y).toNat, by omega, y, x % y, rfl, y0, z0, ?_, rfl⟩
    rw [← g]
    have e := Int.mul_ediv_add_emod x y
    have e2 : x % y = x + -(x / y) * y := by rw [Int.neg_mul, Int.mul_comm (x / y) y]; omega
    rw [e2, Int.gcd_add_mul_right_right, Int.gcd_comm]
  · rw [if_neg hy]
    have e : y = 0 := by omega
    rw [e, Int.gcd_zero_right] at g
    rw [← g, Int.natAbs_of_nonneg x0] at h
    exact h
def b_k20_least : ZTS :=
  (sseq (sset (zc (.int 1)) 1)
    (sseq (sfor (iseq (zv 0)) (gn 2) (sset (zop oMul (zv 1) (zop oFdv (zv 2) (zcall c_lgcd (acons (zv 1) (acons (zv 2) anil))))) 1))
    (sret (zv 1))))
def c_k20_least : ZSp := fun ds m Q _ => ∃ ms : List Int, ds = [.fl (ms.map .int)] ∧ ms.length ≤ 31 ∧ (∀ x ∈ ms, 0 < x ∧ x ≤ 1000000000000000000000000000000000000000000000000000000000000) ∧ Q (.int (lcmF 1 ms)) m
theorem lcm_small {ms : List Int} (hl : ms.length ≤ 31) (h : ∀ x ∈ ms, 0 < x ∧ x ≤ 1000000000000000000000000000000000000000000000000000000000000) : (lcmF 1 ms).natAbs < 2 ^ 6500 := by
  have p := lcmF_pos (show (0 : Int) < 1 by decide) fun x hx => (h x hx).1
  have := lcmF_bits (B := 1000000000000000000000000000000000000000000000000000000000000) (by decide) ms 1 0 (by decide) (by decide) h
  generalize hk : 0 + ms.length = k at *
  have h3 : ((1000000000000000000000000000000000000000000000000000000000000 : Int) ^ k).natAbs ≤ 2 ^ (200 * k) := abs_pow (i := 1000000000000000000000000000000000000000000000000000000000000) (a := 200) _ (by decide +kernel)
  have h5 : (2 : Nat) ^ (200 * k) < 2 ^ 6500 := Nat.pow_lt_pow_right (by decide) (by omega)
  omega
theorem w_k20_least (ds : List D) (m : Mu) (Q : QE) (E : QX) (h : c_k20_least ds m Q E) : ds.length = 1 ∧ b_k20_least ⟨fun _ m => Q .non m, Q, fun x _ m => E x m⟩ (ds.map some ++ List.replicate (3 - ds.length) none) m := by
  obtain ⟨ms, rfl, hl, hv, h⟩ := h
  refine ⟨rfl, ?_⟩
  unfold b_k20_least
  walk_at "zs"
  refine for_i ?_
  walk_at "zs"
  obtain ⟨I, hI⟩ : ∃ I : Nat → ZEnv → Mu → Prop, I = fun i ρ m' => ∃ c, i ≤ ms.length ∧ ρ = [some (.fl (ms.map .int)), some (.int (lcmF 1 (ms.take i))), c] ∧ m' = m := ⟨_, rfl⟩
  refine loop_i I (by rw [hI]; exact ⟨_, Nat.zero_le _, rfl, rfl⟩) fun i ρ m' hi => ?_
  rw [hI] at hi
  obtain ⟨c, il, rfl, rfl⟩ := hi
  refine ⟨trivial, fun hlt => ?_, fun e => ?_⟩
  · have hlt' := lt_len hlt
    show gn 2 ((ms.map D.int).getD i .non) _ _ _ _
    rw [getD_ints, if_pos hlt']
    have gx : ms.getD i 0 = ms[i] := by rw [List.getD_eq_getElem?_getD, List.getElem?_eq_getElem hlt']; rfl
    rw [gx]
    have v := hv _ (List.getElem_mem hlt')
    have L0 := lcmF_pos (xs := ms.take i) (show (0 : Int) < 1 by decide) fun x hx => (hv x (List.mem_of_mem_take hx)).1
    have sm := lcm_small (ms := ms.take i) (by rw [List.length_take]; omega) fun x hx => hv x (List.mem_of_mem_take hx)
    walk_at "zs"
    refine ⟨_, _, rfl, by omega, by omega, ?_⟩
    have c0 : (0 : Int) < Int.gcd (lcmF 1 (ms.take i)) ms[i] := by have := gcd_pos_l ms[i] L0; omega
    have c1 : (Int.gcd (lcmF 1 (ms.take i)) ms[i] : Int) ≤ ms[i] := Int.le_of_dvd (by omega) (Int.gcd_dvd_right ..)
    have g7 := g60_lt v.2
    have up : (2 : Int) ^ 7000 < 2 ^ 8000 := lt_two (Int.le_refl _) (by decide)
    have s0 := step_pos L0 v.1
    have s1 := step_le L0 v.1
    walk_at "zs"
    refine ⟨small_fdv c0 (by omega), mul_ok sm (abs_lt (k := 7000) (by omega) (by omega)) (by decide), ?_⟩
    rw [hI]
    have eL : lcmF 1 (ms.take (i + 1)) = lcmF 1 (ms.take i) * (ms[i] / Int.gcd (lcmF 1 (ms.take i)) ms[i]) := by
      rw [List.take_succ_eq_append_getElem hlt', lcmF_app]
      rfl
    exact ⟨_, hlt', by rw [eL], rfl⟩
  · have e3 := eq_len e
    walk_at "zs"
    rw [e3, List.take_length]
    exact h
theorem q_oIsNot_t {xs : List D} {m : Mu} {Q : QE} : oIsNot (.tup xs) .non m Q = Q (.bl true) m := rfl
theorem q_oIsNot_n {m : Mu} {Q : QE} : oIsNot .non .non m Q = Q (.bl false) m := rfl
theorem ok_class : PyData.canLay0 (.str "class") = true := by decide +kernel
theorem ok_clash : PyData.canLay0 (.str "clash") = true := by decide +kernel
theorem pl_c3 {x : Str} {a b : Int} (h : PyData.canLay0 (.str x) = true) : Pl 1 (.tup [.str x, .int a, .int b]) := fun y hy => by
  rcases List.mem_cons.mp hy with rfl | hy
  · exact h
  · rcases List.mem_cons.mp hy with rfl | hy
    · exact True.intro
    · rw [List.mem_singleton.mp hy]
      exact True.intro
def bdK (w i : Nat) : Int := match w with
  | 3 => ([1, 2, 6, 30, 210, 2310, 30030, 2912910] : List Int).getD i 0 ^ 2
  | 4 => ([1, 2, 6, 30, 210, 2310, 30030, 2912910] : List Int).getD i 0 ^ 7
  | _ => ([1, 2, 6, 30, 210, 2310, 30030, 2912910] : List Int).getD i 0 ^ 3
def t_k20_mod2 : ZTS :=
  (sseq (sif (tand (tvl (zop oNe (zv 2) (zfl anil))) (tvl (zop oEq (zcall c_take (acons (zv 0) (acons (zc (.int 6)) anil))) (zc (.int 0))))) (sset (zop oIx (zv 2) (zcall c_take (acons (zv 0) (acons (zbl (acons (zv 2) anil) cLen) anil)))) 5) snil)
    (sexp (zapp (zv 2) (acons (zv 5) anil))))
def t_k20_mod1 : ZTS :=
  (sseq (sif (tvl (zop oGt (zv 4) (zc (.int 2)))) (sfor (iseq (zfl (acons (zc (.int 2)) (acons (zc (.int 3)) (acons (zc (.int 5)) (acons (zc (.int 7)) (acons (zc (.int 11)) (acons (zc (.int 13)) (acons (zc (.int 97)) anil))))))))) (gn 6) (sfor (irng1 (acons (zcall c_take (acons (zv 0) (acons (zop oIx (zfl (acons (zc (.int 3)) (acons (zc (.int 8)) (acons (zc (.int 4)) anil)))) (zop oSub (zv 4) (zc (.int 3)))) anil))) anil)) (gn 7) (sset (zop oMul (zv 5) (zv 6)) 5))) snil)
    t_k20_mod2)
def b_k20_moduli : ZTS :=
  (sseq (sset (zlst anil) 2)
    (sseq (sfor (irng1 (acons (zv 1) anil)) (gn 3) (sseq (sset (zcall c_take (acons (zv 0) (acons (zc (.int 6)) anil))) 4)
    (sseq (sset (zop oIx (zfl (acons (zop oAdd (zc (.int 1)) (zcall c_take (acons (zv 0) (acons (zc (.int 12)) anil)))) (acons (zop oAdd (zc (.int 1)) (zcall c_take (acons (zv 0) (acons (zc (.int 300)) anil)))) (acons (zop oAdd (zc (.int 1)) (zcall c_figures (acons (zv 0) (acons (zc (.int 59)) anil)))) (acons (zc (.int 1)) (acons (zc (.int 1)) (acons (zc (.int 1)) anil))))))) (zv 4)) 5)
    t_k20_mod1)))
    (sret (zseal (zv 2)))))
def c_k20_moduli : ZSp := fun ds m Q _ => ∃ (p : Addr) (n : Int) (K : Nat), ds = [.ref p, .int n] ∧ Pool m p K ∧ K ≤ 1000000 ∧ 0 ≤ n ∧ n ≤ 64 ∧ ∀ (ms : List Int) m', (ms.length : Int) = n → (∀ x ∈ ms, 0 < x ∧ x ≤ 1000000000000000000000000000000000000000000000000000000000000) → PM m p (K + 20 * n.toNat) m' → Q (.fl (ms.map .int)) m'
theorem tail_k20_mod2 {Dz : ZEnds} {p q : Addr} {n : Int} {K : Nat} {ms : List Int} {m : Mu} {M w : Int} {a d e : Option D} (hM : 0 < M ∧ M ≤ 1000000000000000000000000000000000000000000000000000000000000) (hv : ∀ x ∈ ms, 0 < x ∧ x ≤ 1000000000000000000000000000000000000000000000000000000000000) (hl : ms.length ≤ 64) (hK : K ≤ 100000000) (hp : Pool m p K) (qp : q ≠ p)
    (h : ∀ M m1 d, 0 < M ∧ M ≤ 1000000000000000000000000000000000000000000000000000000000000 → PM m p (K + 2) m1 → Dz.nx [some (.ref p), some (.int n), some (.ref q), a, some (.int w), some (.int M), d, e] (updM m1 q (.lst ((ms ++ [M]).map .int)))) :
    t_k20_mod2 Dz [some (.ref p), some (.int n), some (.ref q), a, some (.int w), some (.int M), d, e] (updM m q (.lst (ms.map .int))) := by
  have eM : ∀ M : Int, ms.map D.int ++ [D.int M] = (ms ++ [M]).map .int := fun M => by rw [List.map_append]; rfl
  unfold t_k20_mod2
  walk_at "zs"
  refine oNe_ref_nil (n := 1) updM_same (pl_ints ms) (by decide) ?_
  have fin : ∀ M m1 d, 0 < M ∧ M ≤ 1000000000000000000000000000000000000000000000000000000000000 → PM m p (K + 2) m1 → (∃ xs, some (MO.lst (ms.map D.int)) = some (.lst xs)) ∧ (ms.map D.int).length < sizeLine ∧ Dz.nx [some (.ref p), some (.int n), some (.ref q), a, some (.int w), some (.int M), d, e] (updM m1 q (.lst (ms.map D.int ++ [.int M]))) := fun M m1 d hM hm1 => by
    rw [eM]
    exact ⟨⟨_, rfl⟩, by rw [List.length_map, sizeLine_eq]; omega, h M m1 d hM hm1⟩
  cases hms : ms with
  | nil =>
    rw [hms] at fin
    simp only [List.map_nil, List.isEmpty_nil, Bool.not_true, Bool.false_eq_true, if_false]
    walk_at "zs"
    exact fin M m d hM (hp.self.more (by omega))
  | cons x xs =>
    rw [← hms]
    have e0 : (ms.map D.int).isEmpty = false := by rw [hms]; rfl
    simp only [e0, Bool.not_false, if_true]
    have l0 : 0 < ms.length := by rw [hms]; simp
    refine ⟨p, 6, _, rfl, hp.upd qp, by omega, by decide, small_lt (by decide), fun r m2 r0 r1 hm2 => ?_⟩
    obtain ⟨u2, hu2, rfl⟩ := hm2.under qp
    walk_at "zs"
    by_cases c0 : r = 0
    · rw [if_pos c0]
      refine ⟨p, _, _, rfl, hu2.pool.upd qp, by omega, by rw [List.length_map]; omega, small_lt (by rw [List.length_map]; omega), fun j m3 j0 j1 hm3 => ?_⟩
      obtain ⟨u3, hu3, rfl⟩ := hm3.under qp
      rw [List.length_map] at j1
      walk_at "zs"
      obtain ⟨k, rfl⟩ : ∃ k : Nat, j = (k : Int) := ⟨j.toNat, by omega⟩
      have ej : atI (ms.map D.int) (k : Int) = some (.int (ms.getD k 0)) := by
        refine atI_nat ?_
        have : k < ms.length := by omega
        simp [List.getD_eq_getElem?_getD, this]
      rw [ej]
      walk_at "zs"
      exact fin _ _ d (hv _ (getD_mem (by omega))) ((hu2.trans hu3).more (by omega))
    · rw [if_neg c0]
      exact fin M _ d hM (hu2.more (by omega))
def prs7 : List Int := [2, 3, 5, 7, 11, 13, 97]
theorem bdK_le : ∀ w, w < 6 → 2 < w → ∀ i, i ≤ 7 → 0 < bdK w i ∧ bdK w i ≤ 1000000000000000000000000000000000000000000000000000000000000 := by decide +kernel
theorem bdK_step : ∀ w, w < 6 → 2 < w → ∀ i, i < 7 → bdK w i * prs7.getD i 0 ^ (([3, 8, 4] : List Nat).getD (w - 3) 0 - 1) ≤ bdK w (i + 1) ∧ 2 ≤ prs7.getD i 0 ∧ prs7.getD i 0 ≤ 97 ∧ 1 ≤ ([3, 8, 4] : List Nat).getD (w - 3) 0 ∧ ([3, 8, 4] : List Nat).getD (w - 3) 0 ≤ 8 := by decide +kernel
theorem tail_k20_mod1 {Dz : ZEnds} {p q : Addr} {n : Int} {K : Nat} {ms : List Int} {m : Mu} {M : Int} {w : Nat} {a d e : Option D} (hM : 0 < M ∧ M ≤ 1000000000000000000000000000000000000000000000000000000000000) (hw : w < 6) (hM1 : 2 < w → M = 1) (hv : ∀ x ∈ ms, 0 < x ∧ x ≤ 1000000000000000000000000000000000000000000000000000000000000) (hl : ms.length ≤ 64) (hK : K ≤ 10000000) (hp : Pool m p K) (qp : q ≠ p)
    (h : ∀ M m1 d e, 0 < M ∧ M ≤ 1000000000000000000000000000000000000000000000000000000000000 → PM m p (K + 9) m1 → Dz.nx [some (.ref p), some (.int n), some (.ref q), a, some (.int (w : Int)), some (.int M), d, e] (updM m1 q (.lst ((ms ++ [M]).map .int)))) :
    t_k20_mod1 Dz [some (.ref p), some (.int n), some (.ref q), a, some (.int (w : Int)), some (.int M), d, e] (updM m q (.lst (ms.map .int))) := by
  unfold t_k20_mod1
  walk_at "zs"
  by_cases h2 : 2 < (w : Int)
  · rw [if_pos h2]
    have h2' : 2 < w := by omega
    refine for_i ?_
    walk_at "zs"
    obtain ⟨I, hI⟩ : ∃ I : Nat → ZEnv → Mu → Prop, I = fun i ρ m' => ∃ (x : Int) (u : Mu) (d e : Option D), i ≤ 7 ∧ 0 < x ∧ x ≤ bdK w i ∧ PM m p (K + i) u ∧ ρ = [some (.ref p), some (.int n), some (.ref q), a, some (.int (w : Int)), some (.int x), d, e] ∧ m' = updM u q (.lst (ms.map .int)) := ⟨_, rfl⟩
    refine loop_i I (by rw [hI]; exact ⟨M, m, _, _, by decide, hM.1, by rw [hM1 h2']; exact (bdK_le w hw h2' 0 (by decide)).1, hp.self, rfl, rfl⟩) fun i ρ m' hi => ?_
    rw [hI] at hi
    obtain ⟨x, u, d, e, il, x0, x1, hu, rfl, rfl⟩ := hi
    refine ⟨trivial, fun hlt => ?_, fun e9 => ?_⟩
    · have hlt' : i < 7 := hlt
      have hitem : ([D.int 2, D.int 3, D.int 5, D.int 7, D.int 11, D.int 13, D.int 97] : List D).getD i .non = .int (prs7.getD i 0) := by
        have cs : i = 0 ∨ i = 1 ∨ i = 2 ∨ i = 3 ∨ i = 4 ∨ i = 5 ∨ i = 6 := by omega
        rcases cs with rfl | rfl | rfl | rfl | rfl | rfl | rfl <;> rfl
      show gn 6 (([D.int 2, D.int 3, D.int 5, D.int 7, D.int 11, D.int 13, D.int 97] : List D).getD i .non) _ _ _ _
      rw [hitem]
      walk_at "zs"
      refine for_i ?_
      walk_at "zs"
      obtain ⟨b1, b2, b3, b4, b5⟩ := bdK_step w hw h2' i hlt'
      have hat : atI [D.int 3, D.int 8, D.int 4] ((w : Int) - 3) = some (.int ((([3, 8, 4] : List Nat).getD (w - 3) 0 : Nat) : Int)) := by
        have cs : w = 3 ∨ w = 4 ∨ w = 5 := by omega
        rcases cs with rfl | rfl | rfl <;> rfl
      rw [hat]
      generalize ([3, 8, 4] : List Nat).getD (w - 3) 0 = many at *
      generalize prs7.getD i 0 = pr7 at *
      walk_at "zs"
      refine ⟨p, _, _, rfl, hu.pool.upd qp, by omega, by omega, small_lt (by omega), fun r u' r0 r1 hu' => ?_⟩
      obtain ⟨v, hv', rfl⟩ := hu'.under qp
      walk_at "zs"
      refine ⟨⟨by omega, by omega⟩, ?_⟩
      have mono : ∀ j : Nat, j ≤ r.toNat → x * pr7 ^ j ≤ bdK w (i + 1) := fun j hj => by
        have h1 : (pr7 : Int) ^ j ≤ pr7 ^ (many - 1) := by
          obtain ⟨k, hk⟩ := Nat.exists_eq_add_of_le (show j ≤ many - 1 by omega)
          rw [hk, Int.pow_add]
          have g1 : 0 < (pr7 : Int) ^ j := Int.pow_pos (by omega)
          have g2 : 0 < (pr7 : Int) ^ k := Int.pow_pos (by omega)
          have := Int.mul_le_mul_of_nonneg_left (show (1 : Int) ≤ pr7 ^ k by omega) (show 0 ≤ pr7 ^ j by omega)
          omega
        have h2 := Int.mul_le_mul x1 h1 (Int.le_of_lt (Int.pow_pos (by omega))) (by omega)
        omega
      have big := (bdK_le w hw h2' (i + 1) (by omega)).2
      obtain ⟨J, hJ⟩ : ∃ J : Nat → ZEnv → Mu → Prop, J = fun j ρ m' => ∃ e : Option D, j ≤ r.toNat ∧ ρ = [some (.ref p), some (.int n), some (.ref q), a, some (.int (w : Int)), some (.int (x * pr7 ^ j)), some (.int pr7), e] ∧ m' = updM v q (.lst (ms.map .int)) := ⟨_, rfl⟩
      refine loop_i J (by rw [hJ]; exact ⟨_, Nat.zero_le _, by rw [Int.pow_zero, Int.mul_one], rfl⟩) fun j ρ m' hj => ?_
      rw [hJ] at hj
      obtain ⟨e', jl, rfl, rfl⟩ := hj
      have xj0 : 0 < x * pr7 ^ j := Int.mul_pos x0 (Int.pow_pos (by omega))
      have xj1 := mono j jl
      have g7 := g60_lt (Int.le_trans xj1 big)
      refine ⟨trivial, fun hlt3 => ?_, fun e3 => ?_⟩
      · have hlt3' : j < r.toNat := hlt3
        walk_at "zs"
        refine ⟨mul_ok (abs_lt (k := 7000) (by omega) g7) (abs_lt (k := 7000) (by omega) (g60_lt (by omega))) (by decide), ?_⟩
        rw [hJ]
        exact ⟨_, hlt3', by rw [Int.mul_assoc, ← Int.pow_succ], rfl⟩
      · rw [hI]
        exact ⟨_, v, _, _, hlt', xj0, xj1, hu.trans hv', rfl, rfl⟩
    · have e8 : i = 7 := e9
      rw [e8] at x1 hu
      exact tail_k20_mod2 ⟨x0, Int.le_trans x1 (bdK_le w hw h2' 7 (by decide)).2⟩ hv hl (by omega) hu.pool qp fun M m1 d hM hm1 => h M m1 d e hM (hu.trans (hm1.more (by omega)))
  · rw [if_neg h2]
    exact tail_k20_mod2 hM hv hl (by omega) hp qp fun M m1 d hM hm1 => h M m1 d e hM (hm1.more (by omega))
theorem w_k20_moduli (ds : List D) (m : Mu) (Q : QE) (E : QX) (h : c_k20_moduli ds m Q E) : ds.length = 2 ∧ b_k20_moduli ⟨fun _ m => Q .non m, Q, fun x _ m => E x m⟩ (ds.map some ++ List.replicate (8 - ds.length) none) m := by
  obtain ⟨p, n, K, rfl, hp, hK, n0, n1, h⟩ := h
  refine ⟨rfl, ?_⟩
  unfold b_k20_moduli
  walk_at "zs"
  refine fun q nq => for_i ?_
  walk_at "zs"
  have qp := hp.ne nq
  refine ⟨⟨by omega, by omega⟩, ?_⟩
  obtain ⟨I, hI⟩ : ∃ I : Nat → ZEnv → Mu → Prop, I = fun i ρ m' => ∃ (ms : List Int) (m1 : Mu) (a b c d e : Option D), ms.length = i ∧ i ≤ 64 ∧ (∀ x ∈ ms, 0 < x ∧ x ≤ 1000000000000000000000000000000000000000000000000000000000000) ∧ PM m p (K + 20 * i) m1 ∧ ρ = [some (.ref p), some (.int n), some (.ref q), a, b, c, d, e] ∧ m' = updM m1 q (.lst (ms.map .int)) := ⟨_, rfl⟩
  refine loop_i I (by rw [hI]; exact ⟨[], m, _, _, _, _, _, rfl, by decide, (fun x hx => by cases hx), hp.self, rfl, rfl⟩) fun i ρ m' hi => ?_
  rw [hI] at hi
  obtain ⟨ms, m1, a, b, c, d, e, hl, il, hv, hm, rfl, rfl⟩ := hi
  refine ⟨trivial, fun hlt => ?_, fun e => ?_⟩
  · have hlt' : i < n.toNat := hlt
    walk_at "zs"
    refine ⟨p, 6, _, rfl, hm.pool.upd qp, by omega, by decide, small_lt (by decide), fun w m2 w0 w1 hm2 => ?_⟩
    obtain ⟨u2, hu2, rfl⟩ := hm2.under qp
    walk_at "zs"
    refine ⟨p, 12, _, rfl, hu2.pool.upd qp, by omega, by decide, small_lt (by decide), fun t1 m3 t10 t11 hm3 => ?_⟩
    obtain ⟨u3, hu3, rfl⟩ := hm3.under qp
    walk_at "zs"
    refine ⟨p, 300, _, rfl, hu3.pool.upd qp, by omega, by decide, small_lt (by decide), fun t2 m4 t20 t21 hm4 => ?_⟩
    obtain ⟨u4, hu4, rfl⟩ := hm4.under qp
    walk_at "zs"
    refine ⟨p, 59, _, rfl, hu4.pool.upd qp, by omega, by decide, by decide, fun t3 m5 t30 _ hm5 t31 => ?_⟩
    obtain ⟨u5, hu5, rfl⟩ := hm5.under qp
    walk_at "zs"
    obtain ⟨k, rfl⟩ : ∃ k : Nat, w = (k : Int) := ⟨w.toNat, by omega⟩
    have hm5 := (((hm.trans hu2).trans hu3).trans hu4).trans hu5
    have fin : ∀ M : Int, 0 < M ∧ M ≤ 1000000000000000000000000000000000000000000000000000000000000 → (2 < k → M = 1) → t_k20_mod1 ⟨I (i + 1), Q, fun x ρ m => E x m⟩ [some (.ref p), some (.int n), some (.ref q), some (.int i), some (.int (k : Int)), some (.int M), d, e] (updM u5 q (.lst (ms.map .int))) := fun M hM hM1 => by
      refine tail_k20_mod1 hM (by omega) hM1 hv (by omega) (by omega) hm5.pool qp fun M m1 d e hM hm1 => ?_
      rw [hI]
      refine ⟨ms ++ [M], m1, _, _, _, _, _, by rw [List.length_append, hl]; rfl, by omega, fun y hy => ?_, (hm5.trans hm1).more (by omega), rfl, rfl⟩
      rcases List.mem_append.mp hy with hy | hy
      · exact hv y hy
      · rw [List.mem_singleton.mp hy]
        exact hM
    have f59 : (10 : Int) ^ (59 : Int).toNat ≤ 1000000000000000000000000000000000000000000000000000000000000 := by decide +kernel
    have cs : k = 0 ∨ k = 1 ∨ k = 2 ∨ k = 3 ∨ k = 4 ∨ k = 5 := by omega
    rcases cs with rfl | rfl | rfl | rfl | rfl | rfl
    · exact fin _ (by omega) (by omega)
    · exact fin _ (by omega) (by omega)
    · exact fin _ (by omega) (by omega)
    · exact fin _ (by omega) (fun _ => rfl)
    · exact fin _ (by omega) (fun _ => rfl)
    · exact fin _ (by omega) (fun _ => rfl)
  · have e3 : i = n.toNat := e
    walk_at "zs"
    rw [dropM_updM (by rw [hm.at qp]; exact nq)]
    exact h ms m1 (by omega) hv (by rw [← e3]; exact hm)
end Zed
end
section
set_option maxHeartbeats 4000000
/-! ZK02: division, the law's own. -/
namespace Zed
open PySem PySem.Spec PyProof.Rows L2
local macro_rules | `(tactic| walk_at "zs") => `(tactic| simp only [zv, zc, zop, zun, anil, acons, ztup, zfl, zlst, zbl, zcall, zcallK, tvl, ttr, tand, tor, tnot, zand, zor, zorT, znot, zif, zchn, zsl, onone, osome, zrev, zrevA, zisi, gn, gnil, gcons, gtup, gsub, snil, sseq, sexp, sret, sretN, sif, sasg, sset, spar, spar3, saug, wkL, zapp, zpop, zseal, xat, snever, tyes, ilist, itup, istr, irng1, irng2, irng3, ienum, ienumT, izip, irev, wipeZ, isNon, at2_if, iseq, ienumT, gstar, gtupA, saugS, oGetL, sl_0, sl_1, sl_2, sl_3, sl_4, sl_5, sl_6, sl_7, sl_8, at1_0, at2_0, at2_1, at3_0, at3_1, at3_2, at4_0, at4_1, at4_2, at4_3, at5_0, at5_1, at5_2, at5_3, at5_4, at6_0, at6_1, at6_2, at6_3, at6_4, at6_5, at7_0, at7_1, at7_2, at7_3, at7_4, at7_5, at7_6, at8_0, at8_1, at8_2, at8_3, at8_4, at8_5, at8_6, at8_7, ixn2_0, ixn2_1, ixn3_0, ixn3_1, ixn3_2, cp_2, vp_2, cp_3, vp_3, cp_6, vp_6, cp_7, vp_7, cp_18, vp_18, cp_60, vp_60, q_truD_1, q_truD_2, q_truD_3, q_truD_4, q_truD_5, q_truD_6, q_oAdd_1, q_oAdd_2, q_oAdd_3, q_oAdd_4, q_oInt_1, q_oSub_1, q_oLt_1, q_oEq_1, q_oNe_1, q_oNe_2, q_oEq_2, q_oIs_1, q_oIs_2, q_oIsNot_1, q_oIsNot_2, q_oNeg_1, q_cAbs_1, q_cMax_1, q_cMin_1, q_cInt_1, q_cInt_2, q_cDivmod_1, q_lenD_1, q_lenD_2, q_lenD_3, q_cLen_1, q_cTuple_1, q_cTuple_2, q_cTuple_3, q_cListF_1, q_cListF_2, q_cListF_3, q_cList_1, q_cList_2, q_seqD_1, q_seqD_2, q_lenD_4, q_oIx_1, q_oIx_2, q_oIx_4, q_oSl_1, q_oSl_2, q_oSl_3, q_oSl_4, q_tyD_1, q_tyD_2, q_tyD_3, q_tyD_4, q_tyD_5, q_tyD_6, q_cIsi_1, q_oSet_1, q_oIAdd_1, q_oIAdd_2, List.getD_cons_zero, List.getD_cons_succ, List.take_zero, List.drop_zero, updM_same, updM_upd, dropM_updM, isi_ii, isi_bi, isi_ib, isi_bb, isi_tt, List.map_cons, List.map_nil, List.replicate_succ, List.replicate_zero, List.cons_append, List.nil_append, List.append_nil, List.set_cons_zero, List.set_cons_succ, List.getElem?_cons_zero, List.getElem?_cons_succ, List.length_cons, List.length_nil, Bool.false_eq_true, if_true, if_false, Bool.not_true, Bool.not_false, Bool.not_eq_true, Bool.not_eq_false', decide_eq_true_eq, true_and, and_true, exists_eq_left', Nat.reduceAdd, Nat.reduceSub, reduceCtorEq, decide_true, decide_false, Bool.true_eq_false, ite_true, ite_false, isw_int])
/-! ### the mathematics -/
def dvs (b d : Int) : Int → List Int → List (Int × Int)
  | _, [] => []
  | r, x :: xs => ((r * b + x) / d, (r * b + x) % d) :: dvs b d ((r * b + x) % d) xs
theorem dvs_len {b d : Int} : ∀ (r : Int) (xs : List Int), (dvs b d r xs).length = xs.length
  | _, [] => rfl
  | r, x :: xs => congrArg Nat.succ (dvs_len _ xs)
def horner (b : Int) : Int → List Int → Int
  | v, [] => v
  | v, x :: xs => horner b (v * b + x) xs
theorem horner_app {b : Int} : ∀ (v : Int) (xs ys : List Int), horner b v (xs ++ ys) = horner b (horner b v xs) ys
  | _, [], _ => rfl
  | v, x :: xs, ys => horner_app _ xs ys
theorem horner_rev {b : Int} : ∀ xs : List Int, horner b 0 xs.reverse = vals b xs
  | [] => rfl
  | x :: xs => by
    rw [List.reverse_cons, horner_app, horner_rev xs]
    show vals b xs * b + x = x + b * vals b xs
    rw [Int.mul_comm, Int.add_comm]
def figs (b : Int) : Int → List (Int × Int) → Int
  | w, [] => w
  | w, p :: ps => figs b (w * b + p.1) ps
def lastr : Int → List (Int × Int) → Int
  | r, [] => r
  | _, p :: ps => lastr p.2 ps
theorem dvs_val {b d : Int} : ∀ (w r : Int) (xs : List Int), figs b w (dvs b d r xs) * d + lastr r (dvs b d r xs) = horner b (w * d + r) xs
  | _, _, [] => rfl
  | w, r, x :: xs => by
    show figs b (w * b + (r * b + x) / d) (dvs b d ((r * b + x) % d) xs) * d + lastr ((r * b + x) % d) (dvs b d ((r * b + x) % d) xs) = horner b ((w * d + r) * b + x) xs
    rw [dvs_val]
    have h := Int.mul_ediv_add_emod (r * b + x) d
    have e : (w * b + (r * b + x) / d) * d + (r * b + x) % d = (w * d + r) * b + x := by
      rw [Int.add_mul, Int.add_mul, Int.mul_comm ((r * b + x) / d) d, Int.mul_right_comm w b d]
      omega
    rw [e]
theorem dvs_mem {b d : Int} (hb : 0 < b) (hd : 0 < d) : ∀ (r : Int) (xs : List Int), 0 ≤ r → r < d → (∀ x ∈ xs, 0 ≤ x ∧ x < b) → ∀ p ∈ dvs b d r xs, 0 ≤ p.1 ∧ p.1 < b ∧ 0 ≤ p.2 ∧ p.2 < d
  | _, [], _, _, _, p, hp => by cases hp
  | r, x :: xs, r0, r1, hx, p, hp => by
    obtain ⟨x0, x1⟩ := hx x List.mem_cons_self
    have m0 := Int.emod_nonneg (r * b + x) (show d ≠ 0 by omega)
    have m1 := Int.emod_lt_of_pos (r * b + x) hd
    rcases List.mem_cons.mp hp with rfl | hp
    · have h1 : 0 ≤ r * b := Int.mul_nonneg r0 (by omega)
      refine ⟨Int.ediv_nonneg (by omega) (by omega), Int.ediv_lt_of_lt_mul hd ?_, m0, m1⟩
      have h2 : (r + 1) * b ≤ d * b := Int.mul_le_mul_of_nonneg_right (by omega) (by omega)
      rw [Int.add_mul, Int.one_mul] at h2
      rw [Int.mul_comm b d]
      omega
    · exact dvs_mem hb hd _ xs m0 m1 (fun y hy => hx y (List.mem_cons_of_mem _ hy)) p hp
theorem dvs_drop {b d : Int} : ∀ (r : Int) (xs : List Int) (i : Nat), i < xs.length → ∃ s, (dvs b d r xs).drop i = dvs b d s (xs.drop i)
  | r, xs, 0, _ => ⟨r, rfl⟩
  | _, [], _ + 1, h => by cases h
  | r, x :: xs, i + 1, h => by
    cases xs with
    | nil => exact absurd h (by simp)
    | cons y ys => exact dvs_drop _ (y :: ys) i (Nat.lt_of_succ_lt_succ h)
/-! ### walks -/
def b_division : ZTS :=
  (sseq (sexp (zcall c_check_number (acons (zv 0) anil)))
    (sseq (sif (tor (tnot (tvl (zcall c_is_whole (acons (zv 1) anil)))) (tvl (zop oLt (zv 1) (zc (.int 1))))) snever snil)
    (sseq (sexp (zcall c_check_base (acons (zv 2) anil)))
    (sseq (spar 3 4 (acons (zlst anil) (acons (zc (.int 0)) anil)))
    (sseq (sfor (iseq (zrevA (zcall c_figures_of (acons (zv 0) (acons (zv 2) anil))))) (gn 5) (sseq (sasg (zbl (acons (zop oAdd (zop oMul (zv 4) (zv 2)) (zv 5)) (acons (zv 1) anil)) cDivmod) (gtup 2 (gcons (gn 6) (gcons (gn 4) gnil))))
    (sexp (zapp (zv 3) (acons (ztup (acons (zv 6) (acons (zv 4) anil))) anil)))))
    (sret (zbl (acons (zv 3) anil) cTuple)))))))
def c_division0 : ZSp := fun ds m Q _ => ∃ n d b : Int, ds = [.int n, .int d, .int b] ∧ 0 ≤ n ∧ n < 2 ^ 100000 ∧ 1 ≤ d ∧ d < 2 ^ 8000 ∧ 2 ≤ b ∧ b ≤ 1000000 ∧ ∀ m', Ext m m' → Q (.tup ((dvs b d 0 (digs b n).reverse).map pr)) m'
theorem w_division (ds : List D) (m : Mu) (Q : QE) (E : QX) (h : c_division0 ds m Q E) : ds.length = 3 ∧ b_division ⟨fun _ m => Q .non m, Q, fun x _ m => E x m⟩ (ds.map some ++ List.replicate (7 - ds.length) none) m := by
  obtain ⟨n, d, b, rfl, n0, n1, d0, d1, b0, b1, h⟩ := h
  refine ⟨rfl, ?_⟩
  unfold b_division
  walk_at "zs"
  refine ⟨n, rfl, n0, ?_⟩
  walk_at "zs"
  rw [if_neg (show ¬ d < 1 by omega)]
  refine ⟨b, rfl, b0, b1, ?_⟩
  walk_at "zs"
  refine fun p np => for_i ?_
  walk_at "zs"
  have bb := million_lt b1
  refine ⟨n, b, rfl, n0, n1, b0, bb, ?_⟩
  walk_at "zs"
  have hl := digs_len b0 _ n n1
  have hm : ∀ x ∈ (digs b n).reverse, 0 ≤ x ∧ x < b := fun x hx => digs_mem b0 x (List.mem_reverse.mp hx)
  rw [← List.map_reverse]
  rw [← List.length_reverse] at hl
  generalize (digs b n).reverse = xs at *
  obtain ⟨I, hI⟩ : ∃ I : Nat → ZEnv → Mu → Prop, I = fun i ρ m' => ∃ (acc : List (Int × Int)) (r : Int) (y z : Option D), 0 ≤ r ∧ r < d ∧ i ≤ xs.length ∧ acc.length = i ∧ acc ++ dvs b d r (xs.drop i) = dvs b d 0 xs ∧ ρ = [some (.int n), some (.int d), some (.int b), some (.ref p), some (.int r), y, z] ∧ m' = updM m p (.lst (acc.map pr)) := ⟨_, rfl⟩
  refine loop_i I (by rw [hI]; exact ⟨[], 0, none, none, Int.le_refl 0, by omega, Nat.zero_le _, rfl, rfl, rfl, rfl⟩) fun i ρ m' hi => ?_
  rw [hI] at hi
  obtain ⟨acc, r, y, z, r0, r1, il, al, ha, rfl, rfl⟩ := hi
  refine ⟨trivial, fun hlt => ?_, fun e => ?_⟩
  · have hlt' : i < xs.length := by
      have h3 : i < (xs.map D.int).length := hlt
      rwa [List.length_map] at h3
    show gn 5 ((xs.map D.int).getD i .non) _ _ _ _
    rw [getD_ints, if_pos hlt']
    walk_at "zs"
    have gx : xs.getD i 0 = xs[i] := by rw [List.getD_eq_getElem?_getD, List.getElem?_eq_getElem hlt']; rfl
    rw [gx, hI]
    have hd : xs.drop i = xs[i] :: xs.drop (i + 1) := List.drop_eq_getElem_cons hlt'
    rw [hd] at ha
    refine ⟨mul_ok (a := 8000) (b := 8000) (abs_lt r0 (by omega)) (abs_lt (by omega) bb) (by decide), small_div (by omega) d1, ⟨_, rfl⟩, by rw [List.length_map, sizeLine_eq]; omega,
      acc ++ [((r * b + xs[i]) / d, (r * b + xs[i]) % d)], _, _, _, Int.emod_nonneg _ (by omega), Int.emod_lt_of_pos _ (by omega), hlt', by rw [List.length_append, al]; rfl, by rw [List.append_assoc]; exact ha, rfl, by rw [List.map_append]; rfl⟩
  · walk_at "zs"
    have e' : i = xs.length := by
      have h3 : i = (xs.map D.int).length := e
      rwa [List.length_map] at h3
    rw [e', List.drop_length] at ha
    have ha' : acc = dvs b d 0 xs := by rw [← ha]; exact (List.append_nil acc).symm
    rw [ha']
    exact h _ (Ext.upd np _)
def b_k02_limbs : ZTS :=
  (sseq (sset (zlst anil) 2)
    (sseq (swhile (tvl (zop oGt (zv 0) (zc (.int 0)))) (sseq (sexp (zapp (zv 2) (acons (zop oMod (zv 0) (zv 1)) anil)))
    (sset (zop oFdv (zv 0) (zv 1)) 0)))
    (sret (zrevA (zv 2)))))
def c_k02_limbs : ZSp := fun ds m Q _ => ∃ n b : Int, ds = [.int n, .int b] ∧ 0 ≤ n ∧ n < 2 ^ 100000 ∧ 2 ≤ b ∧ b < 2 ^ 8000 ∧ ∀ m', Ext m m' → Q (.fl ((digs b n).reverse.map .int)) m'
theorem w_k02_limbs (ds : List D) (m : Mu) (Q : QE) (E : QX) (h : c_k02_limbs ds m Q E) : ds.length = 2 ∧ b_k02_limbs ⟨fun _ m => Q .non m, Q, fun x _ m => E x m⟩ (ds.map some ++ List.replicate (3 - ds.length) none) m := by
  obtain ⟨n, b, rfl, h0, h1, h2, h3, h⟩ := h
  refine ⟨rfl, ?_⟩
  unfold b_k02_limbs
  walk_at "zs"
  refine fun p np => ?_
  have hlen := digs_len h2 _ n h1
  refine while_i (fun k ρ m' => ∃ (r : Int) (acc : List Int), k = r.toNat ∧ 0 ≤ r ∧ acc ++ digs b r = digs b n ∧ ρ = [some (.int r), some (.int b), some (.ref p)] ∧ m' = updM m p (.lst (acc.map .int))) n.toNat ⟨n, [], rfl, h0, rfl, rfl, rfl⟩ ?_
  rintro k ρ m' ⟨r, acc, rfl, hr, ha, rfl, rfl⟩
  walk_at "zs"
  by_cases hp : 0 < r
  · simp only [hp, decide_true, if_true]
    have ha' := ha
    rw [digs_pos h2 hp] at ha'
    have hl : acc.length < sizeLine := by
      have := congrArg List.length ha'
      rw [List.length_append, List.length_cons] at this
      rw [sizeLine_eq]
      omega
    have d1 := small_fdv (i := r) (by omega : 0 < b) h3
    refine ⟨⟨_, rfl⟩, by omega, by rw [List.length_map]; exact hl, d1, (r / b).toNat, ?_, r / b, acc ++ [r % b], rfl, Int.ediv_nonneg (by omega) (by omega), by rw [List.append_assoc]; exact ha', rfl, by rw [List.map_append]; rfl⟩
    have := div_lt h2 hp
    have h5 : 0 ≤ r / b := Int.ediv_nonneg (by omega) (by omega)
    omega
  · simp only [hp, decide_false, Bool.false_eq_true, if_false]
    rw [digs_zero (by omega), List.append_nil] at ha
    rw [ha, ← List.map_reverse]
    exact h _ (Ext.upd np _)
def b_k02_due : ZTS :=
  (sseq (spar 3 4 (acons (zlst anil) (acons (zc (.int 0)) anil)))
    (sseq (sfor (iseq (zcall c_k02_limbs (acons (zv 0) (acons (zv 2) anil)))) (gn 5) (sseq (sset (zop oAdd (zop oMul (zv 4) (zv 2)) (zv 5)) 4)
    (sseq (sexp (zapp (zv 3) (acons (ztup (acons (zop oFdv (zv 4) (zv 1)) (acons (zop oMod (zv 4) (zv 1)) anil))) anil)))
    (sset (zop oMod (zv 4) (zv 1)) 4))))
    (sret (zbl (acons (zv 3) anil) cTuple))))
def c_k02_due : ZSp := fun ds m Q _ => ∃ n d b : Int, ds = [.int n, .int d, .int b] ∧ 0 ≤ n ∧ n < 2 ^ 100000 ∧ 1 ≤ d ∧ d < 2 ^ 8000 ∧ 2 ≤ b ∧ b ≤ 1000000 ∧ ∀ m', Ext m m' → Q (.tup ((dvs b d 0 (digs b n).reverse).map pr)) m'
theorem w_k02_due (ds : List D) (m : Mu) (Q : QE) (E : QX) (h : c_k02_due ds m Q E) : ds.length = 3 ∧ b_k02_due ⟨fun _ m => Q .non m, Q, fun x _ m => E x m⟩ (ds.map some ++ List.replicate (6 - ds.length) none) m := by
  obtain ⟨n, d, b, rfl, n0, n1, d0, d1, b0, b1, h⟩ := h
  refine ⟨rfl, ?_⟩
  unfold b_k02_due
  walk_at "zs"
  refine fun p np => for_i ?_
  walk_at "zs"
  have bb := million_lt b1
  refine ⟨n, b, rfl, n0, n1, b0, bb, fun m2 he => ?_⟩
  walk_at "zs"
  have hl := digs_len b0 _ n n1
  have hm : ∀ x ∈ (digs b n).reverse, 0 ≤ x ∧ x < b := fun x hx => digs_mem b0 x (List.mem_reverse.mp hx)
  rw [← List.length_reverse] at hl
  generalize (digs b n).reverse = xs at *
  have hE : Ext m m2 := (Ext.upd np _).trans he
  have hp2 : m2 p = some (.lst []) := he.at updM_same
  obtain ⟨I, hI⟩ : ∃ I : Nat → ZEnv → Mu → Prop, I = fun i ρ m' => ∃ (acc : List (Int × Int)) (r : Int) (y : Option D), 0 ≤ r ∧ r < d ∧ i ≤ xs.length ∧ acc.length = i ∧ acc ++ dvs b d r (xs.drop i) = dvs b d 0 xs ∧ ρ = [some (.int n), some (.int d), some (.int b), some (.ref p), some (.int r), y] ∧ m' = updM m2 p (.lst (acc.map pr)) := ⟨_, rfl⟩
  refine loop_i I (by rw [hI]; exact ⟨[], 0, none, Int.le_refl 0, by omega, Nat.zero_le _, rfl, rfl, rfl, (updM_id hp2).symm⟩) fun i ρ m' hi => ?_
  rw [hI] at hi
  obtain ⟨acc, r, y, r0, r1, il, al, ha, rfl, rfl⟩ := hi
  refine ⟨trivial, fun hlt => ?_, fun e => ?_⟩
  · have hlt' : i < xs.length := by
      have h3 : i < (xs.map D.int).length := hlt
      rwa [List.length_map] at h3
    show gn 5 ((xs.map D.int).getD i .non) _ _ _ _
    rw [getD_ints, if_pos hlt']
    walk_at "zs"
    have gx : xs.getD i 0 = xs[i] := by rw [List.getD_eq_getElem?_getD, List.getElem?_eq_getElem hlt']; rfl
    rw [gx, hI]
    have hd : xs.drop i = xs[i] :: xs.drop (i + 1) := List.drop_eq_getElem_cons hlt'
    rw [hd] at ha
    have hs : CDivW (r * b + xs[i]) d := small_fdv (by omega) d1
    refine ⟨mul_ok (a := 8000) (b := 8000) (abs_lt r0 (by omega)) (abs_lt (by omega) bb) (by decide), ⟨_, rfl⟩, hs, by omega, by rw [List.length_map, sizeLine_eq]; omega, by omega,
      acc ++ [((r * b + xs[i]) / d, (r * b + xs[i]) % d)], _, _, Int.emod_nonneg _ (by omega), Int.emod_lt_of_pos _ (by omega), hlt', by rw [List.length_append, al]; rfl, by rw [List.append_assoc]; exact ha, rfl, by rw [List.map_append]; rfl⟩
  · walk_at "zs"
    have e' : i = xs.length := by
      have h3 : i = (xs.map D.int).length := e
      rwa [List.length_map] at h3
    rw [e', List.drop_length] at ha
    have ha' : acc = dvs b d 0 xs := by rw [← ha]; exact (List.append_nil acc).symm
    rw [ha']
    exact h _ (hE.upd2 np _)
def b_whole : ZTS :=
  (sret (zand (zisi .int (zv 0)) (znot (zisi .bool (zv 0)))))
def c_whole := c_is_whole
theorem wh_int {n : Int} {m : Mu} {Q : QE} {E : QX} : c_whole [.int n] m Q E = Q (.bl true) m := isw_int
theorem w_whole (ds : List D) (m : Mu) (Q : QE) (E : QX) (h : c_whole ds m Q E) : ds.length = 1 ∧ b_whole ⟨fun _ m => Q .non m, Q, fun x _ m => E x m⟩ (ds.map some ++ List.replicate (1 - ds.length) none) m := w_is_whole ds m Q E h
def b_k02_pairs : ZTS :=
  (sseq (sif (tor (tnot (tvl (zisi .tuple (zv 0)))) (tnot (tvl (zbl (acons (zlc (iseq (zv 0)) (gn 1) tyes (zand (zisi .tuple (zv 1)) (zop oEq (zbl (acons (zv 1) anil) cLen) (zc (.int 2)))) [1]) anil) cAll)))) (sret (zc (.bl false))) snil)
    (sret (zbl (acons (zlc (iseq (zv 0)) (gn 1) tyes (zand (zcall c_whole (acons (zop oIx (zv 1) (zc (.int 0))) anil)) (zcall c_whole (acons (zop oIx (zv 1) (zc (.int 1))) anil))) [1]) anil) cAll)))
def c_k02_pairs : ZSp := fun ds m Q _ => ∃ ps : List (Int × Int), ds = [.tup (ps.map pr)] ∧ ps.length ≤ 100000 ∧ Q (.bl true) m
theorem w_k02_pairs (ds : List D) (m : Mu) (Q : QE) (E : QX) (h : c_k02_pairs ds m Q E) : ds.length = 1 ∧ b_k02_pairs ⟨fun _ m => Q .non m, Q, fun x _ m => E x m⟩ (ds.map some ++ List.replicate (2 - ds.length) none) m := by
  obtain ⟨ps, rfl, hl, h⟩ := h
  refine ⟨rfl, ?_⟩
  unfold b_k02_pairs
  walk_at "zs"
  rw [comp_e]
  walk_at "zs"
  refine comp_map (fun _ => .bl true) (by show (ps.map pr).length ≤ _; rw [List.length_map, sizeLine_eq]; omega) trivial (fun i hi K1 K2 hK => ?_) ?_
  · have hi' : i < ps.length := by
      have h3 : i < (ps.map pr).length := hi
      rwa [List.length_map] at h3
    show gn 1 ((ps.map pr).getD i .non) _ _ _ _
    rw [getD_prs hi']
    walk_at "zs"
    exact hK
  · rw [rng_bl]
    refine cAll_bls ?_
    rw [all_rep]
    walk_at "zs"
    rw [comp_e]
    walk_at "zs"
    refine comp_map (fun _ => .bl true) (by show (ps.map pr).length ≤ _; rw [List.length_map, sizeLine_eq]; omega) trivial (fun i hi K1 K2 hK => ?_) ?_
    · have hi' : i < ps.length := by
        have h3 : i < (ps.map pr).length := hi
        rwa [List.length_map] at h3
      show gn 1 ((ps.map pr).getD i .non) _ _ _ _
      rw [getD_prs hi']
      walk_at "zs"
      simp only [wh_int, if_true]
      exact hK
    · rw [rng_bl]
      refine cAll_bls ?_
      rw [all_rep]
      exact h
theorem figs_app {b : Int} : ∀ (w : Int) (ps qs : List (Int × Int)), figs b w (ps ++ qs) = figs b (figs b w ps) qs
  | _, [], _ => rfl
  | w, p :: ps, qs => figs_app _ ps qs
theorem figs_lt {b : Int} (hb : 2 ≤ b) : ∀ (ps : List (Int × Int)) (w : Int) (k : Nat), 0 ≤ w → w < b ^ k → (∀ p ∈ ps, 0 ≤ p.1 ∧ p.1 < b) → 0 ≤ figs b w ps ∧ figs b w ps < b ^ (k + ps.length)
  | [], w, k, w0, w1, _ => ⟨w0, w1⟩
  | p :: ps, w, k, w0, w1, h => by
    obtain ⟨p0, p1⟩ := h p List.mem_cons_self
    have h1 : 0 ≤ w * b := Int.mul_nonneg w0 (by omega)
    have h2 : (w + 1) * b ≤ b ^ k * b := Int.mul_le_mul_of_nonneg_right (by omega) (by omega)
    rw [Int.add_mul, Int.one_mul, ← Int.pow_succ] at h2
    have h2 : w * b + b ≤ b ^ (k + 1) := h2
    have := figs_lt hb ps (w * b + p.1) (k + 1) (by omega) (by omega) fun q hq => h q (List.mem_cons_of_mem _ hq)
    rw [List.length_cons, Nat.add_comm ps.length 1, ← Nat.add_assoc]
    exact this
theorem lastr_get {ps : List (Int × Int)} {p : Int × Int} (r : Int) (h : ps.getLast? = some p) : lastr r ps = p.2 := by
  induction ps generalizing r with
  | nil => cases h
  | cons q qs ih =>
    cases qs with
    | nil =>
      have e : q = p := Option.some.inj h
      rw [e]
      rfl
    | cons q2 qs =>
      rw [List.getLast?_cons_cons] at h
      exact ih q.2 h
def b_k02_right : ZTS :=
  (sseq (sif (tor (tnot (tvl (zcall c_k02_pairs (acons (zv 0) anil)))) (tvl (zop oNe (zv 0) (zcall c_k02_due (acons (zv 1) (acons (zv 2) (acons (zv 3) anil))))))) (sret (zc (.bl false))) snil)
    (sseq (sset (zc (.int 0)) 4)
    (sseq (sfor (iseq (zv 0)) (gtup 2 (gcons (gn 5) (gcons (gn 6) gnil))) (sseq (sif (tor (tvl (zop oGe (zv 5) (zv 3))) (tvl (zop oGe (zv 6) (zv 2)))) (sret (zc (.bl false))) snil)
    (sset (zop oAdd (zop oMul (zv 4) (zv 3)) (zv 5)) 4)))
    (sret (zop oEq (zop oAdd (zop oMul (zv 4) (zv 2)) (zop oIx (zop oIx (zorT (zv 0) (ztup (acons (ztup (acons (zc (.int 0)) (acons (zc (.int 0)) anil))) anil))) (zun oNeg (zc (.int 1)))) (zc (.int 1)))) (zv 1))))))
def c_k02_right : ZSp := fun ds m Q _ => ∃ n d b : Int, ds = [.tup ((dvs b d 0 (digs b n).reverse).map pr), .int n, .int d, .int b] ∧ 0 ≤ n ∧ n < 2 ^ 5000 ∧ 1 ≤ d ∧ d < 2 ^ 8000 ∧ 2 ≤ b ∧ b ≤ 1000000 ∧ ∀ m', Ext m m' → Q (.bl true) m'
theorem w_k02_right (ds : List D) (m : Mu) (Q : QE) (E : QX) (h : c_k02_right ds m Q E) : ds.length = 4 ∧ b_k02_right ⟨fun _ m => Q .non m, Q, fun x _ m => E x m⟩ (ds.map some ++ List.replicate (7 - ds.length) none) m := by
  obtain ⟨n, d, b, rfl, n0, n1, d0, d1, b0, b1, h⟩ := h
  refine ⟨rfl, ?_⟩
  unfold b_k02_right
  have n1' : n < 2 ^ 100000 := Int.lt_of_lt_of_le n1 (two_le (by decide))
  have bb := million_lt b1
  have hl : (dvs b d 0 (digs b n).reverse).length ≤ 5000 := by rw [dvs_len, List.length_reverse]; exact digs_len b0 _ n n1
  walk_at "zs"
  refine ⟨_, rfl, by omega, ?_⟩
  walk_at "zs"
  refine ⟨n, d, b, rfl, n0, n1', d0, d1, b0, b1, fun m2 he => ?_⟩
  refine oNe_tup (pl_prs _) (by decide) ?_
  walk_at "zs"
  refine for_i ?_
  walk_at "zs"
  have hx : ∀ x ∈ (digs b n).reverse, 0 ≤ x ∧ x < b := fun x hx => digs_mem b0 x (List.mem_reverse.mp hx)
  have hm := dvs_mem (show 0 < b by omega) (show 0 < d by omega) 0 (digs b n).reverse (Int.le_refl 0) (by omega) hx
  have hv := dvs_val (b := b) (d := d) 0 0 (digs b n).reverse
  rw [Int.zero_mul, Int.add_zero, horner_rev, vals_digs b0 n0] at hv
  generalize dvs b d 0 (digs b n).reverse = ps at *
  obtain ⟨I, hI⟩ : ∃ I : Nat → ZEnv → Mu → Prop, I = fun i ρ m' => ∃ (y z : Option D), i ≤ ps.length ∧ ρ = [some (.tup (ps.map pr)), some (.int n), some (.int d), some (.int b), some (.int (figs b 0 (ps.take i))), y, z] ∧ m' = m2 := ⟨_, rfl⟩
  refine loop_i I (by rw [hI]; exact ⟨none, none, Nat.zero_le _, rfl, rfl⟩) fun i ρ m' hi => ?_
  rw [hI] at hi
  obtain ⟨y, z, il, rfl, rfl⟩ := hi
  have w1 : ∀ k, k ≤ ps.length → (figs b 0 (ps.take k)).natAbs < 2 ^ 200000 := fun k hk => by
    have f := figs_lt b0 (ps.take k) 0 0 (Int.le_refl 0) (by rw [Int.pow_zero]; decide) fun p hp => ⟨(hm p (List.mem_of_mem_take hp)).1, (hm p (List.mem_of_mem_take hp)).2.1⟩
    rw [List.length_take, Nat.min_eq_left hk, Nat.zero_add] at f
    have g := b_pow (show 0 ≤ b by omega) b1 k
    exact Nat.lt_of_le_of_lt (by omega) (abs_more g (by omega))
  refine ⟨trivial, fun hlt => ?_, fun e => ?_⟩
  · have hlt' : i < ps.length := by
      have h3 : i < (ps.map pr).length := hlt
      rwa [List.length_map] at h3
    show gtup 2 _ ((ps.map pr).getD i .non) _ _ _ _
    rw [getD_prs hlt']
    have gx : ps.getD i (0, 0) = ps[i] := by rw [List.getD_eq_getElem?_getD, List.getElem?_eq_getElem hlt']; rfl
    rw [gx]
    have mm := hm ps[i] (List.getElem_mem hlt')
    walk_at "zs"
    rw [if_neg (by omega), if_neg (by omega), hI]
    have et : figs b 0 (ps.take (i + 1)) = figs b 0 (ps.take i) * b + ps[i].1 := by
      rw [List.take_succ_eq_append_getElem hlt', figs_app]
      rfl
    exact ⟨mul_ok (a := 200000) (b := 8000) (w1 i il) (abs_lt (by omega) bb) (by decide), _, _, hlt', by rw [et], rfl⟩
  · have e' : i = ps.length := by
      have h3 : i = (ps.map pr).length := e
      rwa [List.length_map] at h3
    walk_at "zs"
    have sz : CMulW (figs b 0 (ps.take i)) d := mul_ok (a := 200000) (b := 8000) (w1 i il) (abs_lt (by omega) d1) (by decide)
    rw [e', List.take_length] at sz ⊢
    refine ⟨sz, ?_⟩
    have eF : ∀ z : Int, z = lastr 0 ps → Q (.bl (decide (figs b 0 ps * d + z = n))) m' := fun z hz => by
      rw [hz, hv, decide_eq_true rfl]
      exact h _ he
    cases hps : ps.getLast? with
    | none =>
      have e0 : ps = [] := List.getLast?_eq_none_iff.mp hps
      rw [e0] at eF ⊢
      exact eF 0 rfl
    | some p =>
      have ne : (ps.map pr).isEmpty = false := by
        cases ps with
        | nil => cases hps
        | cons x xs => rfl
      rw [ne, atI_end (x := pr p) (by rw [List.getLast?_map, hps]; rfl)]
      exact eF p.2 (lastr_get 0 hps).symm
def b_k02_two : ZTS :=
  (sseq (sset (zcall c_figures (acons (zv 0) (acons (zop oIx (zfl (acons (zc (.int 60)) (acons (zc (.int 395)) anil))) (zbl (acons (zop oEq (zcall c_take (acons (zv 0) (acons (zc (.int 6)) anil))) (zc (.int 0))) anil) cInt)) anil))) 1)
    (sseq (sset (zop oAdd (zc (.int 1)) (zcall c_figures (acons (zv 0) (acons (zop oIx (zfl (acons (zc (.int 30)) (acons (zc (.int 200)) anil))) (zbl (acons (zop oEq (zcall c_take (acons (zv 0) (acons (zc (.int 6)) anil))) (zc (.int 0))) anil) cInt)) anil)))) 2)
    (sseq (sset (zcall c_take (acons (zv 0) (acons (zc (.int 6)) anil))) 3)
    (sseq (sif (tvl (zop oEq (zv 3) (zc (.int 0)))) (sret (ztup (acons (zop oMul (zv 2) (zcall c_figures (acons (zv 0) (acons (zc (.int 20)) anil)))) (acons (zv 2) anil)))) snil)
    (sseq (sif (tvl (zop oEq (zv 3) (zc (.int 1)))) (sret (ztup (acons (zbl (acons (zc (.int 0)) (acons (zop oSub (zop oMul (zv 2) (zop oAdd (zc (.int 1)) (zcall c_take (acons (zv 0) (acons (zc (.int 50)) anil))))) (zc (.int 1))) anil)) cMax) (acons (zv 2) anil)))) snil)
    (sseq (sif (tvl (zop oEq (zv 3) (zc (.int 2)))) (sret (ztup (acons (zv 1) (acons (zop oAdd (zv 1) (zc (.int 1))) anil)))) snil)
    (sseq (sif (tvl (zop oEq (zv 3) (zc (.int 3)))) (sret (ztup (acons (zcall c_take (acons (zv 0) (acons (zc (.int 5)) anil))) (acons (zop oAdd (zc (.int 1)) (zcall c_take (acons (zv 0) (acons (zc (.int 3)) anil)))) anil)))) snil)
    (sret (ztup (acons (zv 1) (acons (zv 2) anil)))))))))))
def c_k02_two : ZSp := fun ds m Q _ => ∃ (p : Addr) (K : Nat), ds = [.ref p] ∧ Pool m p K ∧ K ≤ 10000000 ∧ ∀ n d m', 0 ≤ n → n < 2 ^ 5000 → 1 ≤ d → d < 2 ^ 2500 → PM m p (K + 10) m' → Q (.tup [.int n, .int d]) m'
theorem w_k02_two (ds : List D) (m : Mu) (Q : QE) (E : QX) (h : c_k02_two ds m Q E) : ds.length = 1 ∧ b_k02_two ⟨fun _ m => Q .non m, Q, fun x _ m => E x m⟩ (ds.map some ++ List.replicate (4 - ds.length) none) m := by
  obtain ⟨p, K, rfl, hp, hK, h⟩ := h
  refine ⟨rfl, ?_⟩
  unfold b_k02_two
  walk_at "zs"
  refine ⟨p, 6, K, rfl, hp, by omega, by decide, small_lt (by decide), fun r m1 r0 r1 hm1 => ?_⟩
  walk_at "zs"
  refine ⟨p, _, _, rfl, hm1.pool, by omega, by omega, by omega, fun n m2 n0 n1 hm2 _ => ?_⟩
  walk_at "zs"
  refine ⟨p, 6, _, rfl, hm2.pool, by omega, by decide, small_lt (by decide), fun r2 m3 r20 r21 hm3 => ?_⟩
  walk_at "zs"
  refine ⟨p, _, _, rfl, hm3.pool, by omega, by omega, by omega, fun d m4 d0 d1 hm4 _ => ?_⟩
  walk_at "zs"
  refine ⟨p, 6, _, rfl, hm4.pool, by omega, by decide, small_lt (by decide), fun r3 m5 _ _ hm5 => ?_⟩
  walk_at "zs"
  have hm := (((hm1.trans hm2).trans hm3).trans hm4).trans hm5
  have e20 : (2 : Int) ^ 2000 < 2 ^ 2001 := lt_two (Int.le_refl _) (by decide)
  have e21 : (2 : Int) ^ 2001 < 2 ^ 2500 := lt_two (Int.le_refl _) (by decide)
  have e22 : (2 : Int) ^ 2500 < 2 ^ 5000 := lt_two (Int.le_refl _) (by decide)
  have dd : (1 + d).natAbs < 2 ^ 2001 := abs_lt (by omega) (by omega)
  by_cases c0 : r3 = 0
  · rw [if_pos c0]
    refine ⟨p, 20, _, rfl, hm5.pool, by omega, by decide, by decide, fun f m6 f0 f1 hm6 _ => ?_⟩
    walk_at "zs"
    have fd := abs_mul dd (abs_lt f0 f1)
    exact ⟨mul_ok dd (abs_lt f0 f1) (by decide), h _ _ _ (Int.mul_nonneg (by omega) f0) (Int.lt_of_lt_of_le (lt_abs fd) (two_le (by decide))) (by omega) (by omega) ((hm.trans hm6).more (by omega))⟩
  · rw [if_neg c0]
    by_cases c1 : r3 = 1
    · rw [if_pos c1]
      refine ⟨p, 50, _, rfl, hm5.pool, by omega, by decide, small_lt (by decide), fun f m6 f0 f1 hm6 => ?_⟩
      walk_at "zs"
      have f64 : (1 + f).natAbs < 2 ^ 6 := by
        have : (2 : Nat) ^ 6 = 64 := by decide
        omega
      have fd := lt_abs (abs_mul dd f64)
      have fd2 : (2 : Int) ^ (2001 + 6) < 2 ^ 2500 := lt_two (Int.le_refl _) (by decide)
      refine ⟨mul_ok dd f64 (by decide), h _ _ _ (by omega) (by omega) (by omega) (by omega) ((hm.trans hm6).more (by omega))⟩
    · rw [if_neg c1]
      by_cases c2 : r3 = 2
      · rw [if_pos c2]
        exact h _ _ _ n0 (by omega) (by omega) (by omega) (hm.more (by omega))
      · rw [if_neg c2]
        by_cases c3 : r3 = 3
        · rw [if_pos c3]
          refine ⟨p, 5, _, rfl, hm5.pool, by omega, by decide, small_lt (by decide), fun f m6 f0 f1 hm6 => ?_⟩
          walk_at "zs"
          refine ⟨p, 3, _, rfl, hm6.pool, by omega, by decide, small_lt (by decide), fun f2 m7 f20 f21 hm7 => ?_⟩
          have t : (2 : Int) ^ 10 = 1024 := by decide
          have t2 : (2 : Int) ^ 10 < 2 ^ 2500 := lt_two (Int.le_refl _) (by decide)
          exact h _ _ _ f0 (by omega) (by omega) (by omega) (((hm.trans hm6).trans hm7).more (by omega))
        · rw [if_neg c3]
          exact h _ _ _ n0 (by omega) (by omega) (by omega) (hm.more (by omega))
abbrev c_division := defC c_division0 [.int 10]
abbrev ck_division := kwC c_division0 2 1
def b_k02_law : ZTS :=
  (sseq (sfor (irng1 (acons (zbl (acons (zc (.int 1)) (acons (zbl (acons (zbl (acons (zv 0) anil) cLen) (acons (zc (.int 16)) anil)) cMin) anil)) cMax) anil)) (gn 1) (sseq (sset (zcall c_pool (acons (zcall c_cell (acons (zv 0) (acons (zv 1) anil))) anil)) 2)
    (sseq (sset (zcall c_base7 (acons (zv 2) anil)) 3)
    (sseq (sasg (zcall c_k02_two (acons (zv 2) anil)) (gtup 2 (gcons (gn 4) (gcons (gn 5) gnil))))
    (sseq (sif (tnot (tvl (zcall c_k02_right (acons (zcallK ck_division (acons (zv 4) (acons (zv 5) anil)) (acons (zv 3) anil)) (acons (zv 4) (acons (zv 5) (acons (zv 3) anil))))))) (sret (zc (.bl false))) snil)
    (sseq (sif (tnot (tvl (zcall c_k02_right (acons (zcall c_division (acons (zv 4) (acons (zv 5) anil))) (acons (zv 4) (acons (zv 5) (acons (zc (.int 10)) anil))))))) (sret (zc (.bl false))) snil)
    (sif (tvl (zop oNe (zcallK ck_division (acons (zc (.int 0)) (acons (zv 5) anil)) (acons (zv 3) anil)) (ztup anil))) (sret (zc (.bl false))) snil)))))))
    (sret (zc (.bl true))))
def c_k02_law : ZSp := fun ds m Q _ => ∃ ns : List Int, ds = [.fl (ns.map .int)] ∧ ns.length ≤ 63 ∧ ∀ m, Q (.bl true) m
theorem w_k02_law (ds : List D) (m : Mu) (Q : QE) (E : QX) (h : c_k02_law ds m Q E) : ds.length = 1 ∧ b_k02_law ⟨fun _ m => Q .non m, Q, fun x _ m => E x m⟩ (ds.map some ++ List.replicate (6 - ds.length) none) m := by
  obtain ⟨ns, rfl, hn, h⟩ := h
  refine ⟨rfl, ?_⟩
  unfold b_k02_law
  walk_at "zs"
  refine for_i ?_
  walk_at "zs"
  rw [List.length_map]
  generalize hN : (if (if (16 : Int) < ns.length then (16 : Int) else ns.length) > 1 then (if (16 : Int) < ns.length then (16 : Int) else ns.length) else 1) = N
  have hN0 : 0 ≤ N ∧ N ≤ 16 := by omega
  refine ⟨by omega, ?_⟩
  obtain ⟨I, hI⟩ : ∃ I : Nat → ZEnv → Mu → Prop, I = fun i ρ m' => ∃ a b c d e, i ≤ 16 ∧ ρ = [some (.fl (ns.map .int)), a, b, c, d, e] := ⟨_, rfl⟩
  refine loop_i I (by rw [hI]; exact ⟨_, _, _, _, _, by decide, rfl⟩) fun i ρ m0 hi => ?_
  rw [hI] at hi
  obtain ⟨a, b, c, d, e, hi, rfl⟩ := hi
  refine ⟨trivial, fun hlt => ?_, fun e => ?_⟩
  · have hlt' : i < N.toNat := hlt
    walk_at "zs"
    refine ⟨ns, i, rfl, by omega, hn, fun i0 => ⟨i0, rfl, fun p np m1 hp hx1 => ?_⟩⟩
    walk_at "zs"
    refine ⟨p, 0, rfl, hp, by omega, fun b m2 b0 b1 hm2 => ?_⟩
    walk_at "zs"
    refine ⟨p, _, rfl, hm2.pool, by omega, fun n d m3 n0 n1 d0 d1 hm3 => ?_⟩
    walk_at "zs"
    have n1' : n < 2 ^ 100000 := Int.lt_of_lt_of_le n1 (two_le (by decide))
    have d1' : d < 2 ^ 8000 := Int.lt_of_lt_of_le d1 (two_le (by decide))
    refine ⟨rfl, rfl, n, d, b, rfl, n0, n1', d0, d1', b0, b1, fun m4 _ => ⟨n, d, b, rfl, n0, n1, d0, d1', b0, b1, fun m5 _ => ?_⟩⟩
    walk_at "zs"
    refine ⟨n, d, 10, rfl, n0, n1', d0, d1', by decide, by decide, fun m6 _ => ⟨n, d, 10, rfl, n0, n1, d0, d1', by decide, by decide, fun m7 _ => ?_⟩⟩
    walk_at "zs"
    have z0 : digs b 0 = [] := digs_zero (Int.le_refl 0)
    refine ⟨rfl, rfl, 0, d, b, rfl, Int.le_refl 0, lt_two (j := 20) (by decide) (by decide), d0, d1', b0, b1, fun m8 _ => ?_⟩
    rw [z0]
    refine oNe_tup (n := 1) (fun x hx => by cases hx) (by decide) ?_
    walk_at "zs"
    rw [hI]
    exact ⟨_, _, _, _, _, by omega, rfl⟩
  · walk_at "zs"
    exact h _
end Zed
end
section
/-! ZF_ctx: names unlike. -/
namespace Zed
open PySem PySem.Spec PyProof.Rows L2
theorem fe_modulus : (("modulus" : Str) == "modulus") = true := by decide +kernel
theorem fb_modulus_base : (("modulus" : Str) == "base") = false := by decide +kernel
theorem fn_modulus_base : (("modulus" : Str) = "base") = False := eq_false (by decide +kernel)
theorem fb_modulus_size : (("modulus" : Str) == "size") = false := by decide +kernel
theorem fn_modulus_size : (("modulus" : Str) = "size") = False := eq_false (by decide +kernel)
theorem fb_modulus_raised : (("modulus" : Str) == "raised") = false := by decide +kernel
theorem fn_modulus_raised : (("modulus" : Str) = "raised") = False := eq_false (by decide +kernel)
theorem fb_modulus_great : (("modulus" : Str) == "great") = false := by decide +kernel
theorem fn_modulus_great : (("modulus" : Str) = "great") = False := eq_false (by decide +kernel)
theorem fb_modulus_has_mont : (("modulus" : Str) == "has_mont") = false := by decide +kernel
theorem fn_modulus_has_mont : (("modulus" : Str) = "has_mont") = False := eq_false (by decide +kernel)
theorem fb_modulus_tables : (("modulus" : Str) == "tables") = false := by decide +kernel
theorem fn_modulus_tables : (("modulus" : Str) = "tables") = False := eq_false (by decide +kernel)
theorem fb_modulus_ways : (("modulus" : Str) == "ways") = false := by decide +kernel
theorem fn_modulus_ways : (("modulus" : Str) = "ways") = False := eq_false (by decide +kernel)
theorem fb_modulus_rows : (("modulus" : Str) == "rows") = false := by decide +kernel
theorem fn_modulus_rows : (("modulus" : Str) = "rows") = False := eq_false (by decide +kernel)
theorem fb_modulus_rest : (("modulus" : Str) == "rest") = false := by decide +kernel
theorem fn_modulus_rest : (("modulus" : Str) = "rest") = False := eq_false (by decide +kernel)
theorem fb_modulus_kept : (("modulus" : Str) == "kept") = false := by decide +kernel
theorem fn_modulus_kept : (("modulus" : Str) = "kept") = False := eq_false (by decide +kernel)
theorem fb_modulus_reduced : (("modulus" : Str) == "reduced") = false := by decide +kernel
theorem fn_modulus_reduced : (("modulus" : Str) = "reduced") = False := eq_false (by decide +kernel)
theorem fb_modulus_plain : (("modulus" : Str) == "plain") = false := by decide +kernel
theorem fn_modulus_plain : (("modulus" : Str) = "plain") = False := eq_false (by decide +kernel)
theorem fb_modulus_barrett : (("modulus" : Str) == "barrett") = false := by decide +kernel
theorem fn_modulus_barrett : (("modulus" : Str) = "barrett") = False := eq_false (by decide +kernel)
theorem fb_modulus_table : (("modulus" : Str) == "table") = false := by decide +kernel
theorem fn_modulus_table : (("modulus" : Str) = "table") = False := eq_false (by decide +kernel)
theorem fb_modulus_mont : (("modulus" : Str) == "mont") = false := by decide +kernel
theorem fn_modulus_mont : (("modulus" : Str) = "mont") = False := eq_false (by decide +kernel)
theorem fe_base : (("base" : Str) == "base") = true := by decide +kernel
theorem fb_base_modulus : (("base" : Str) == "modulus") = false := by decide +kernel
theorem fn_base_modulus : (("base" : Str) = "modulus") = False := eq_false (by decide +kernel)
theorem fb_base_size : (("base" : Str) == "size") = false := by decide +kernel
theorem fn_base_size : (("base" : Str) = "size") = False := eq_false (by decide +kernel)
theorem fb_base_raised : (("base" : Str) == "raised") = false := by decide +kernel
theorem fn_base_raised : (("base" : Str) = "raised") = False := eq_false (by decide +kernel)
theorem fb_base_great : (("base" : Str) == "great") = false := by decide +kernel
theorem fn_base_great : (("base" : Str) = "great") = False := eq_false (by decide +kernel)
theorem fb_base_has_mont : (("base" : Str) == "has_mont") = false := by decide +kernel
theorem fn_base_has_mont : (("base" : Str) = "has_mont") = False := eq_false (by decide +kernel)
theorem fb_base_tables : (("base" : Str) == "tables") = false := by decide +kernel
theorem fn_base_tables : (("base" : Str) = "tables") = False := eq_false (by decide +kernel)
theorem fb_base_ways : (("base" : Str) == "ways") = false := by decide +kernel
theorem fn_base_ways : (("base" : Str) = "ways") = False := eq_false (by decide +kernel)
theorem fb_base_rows : (("base" : Str) == "rows") = false := by decide +kernel
theorem fn_base_rows : (("base" : Str) = "rows") = False := eq_false (by decide +kernel)
theorem fb_base_rest : (("base" : Str) == "rest") = false := by decide +kernel
theorem fn_base_rest : (("base" : Str) = "rest") = False := eq_false (by decide +kernel)
theorem fb_base_kept : (("base" : Str) == "kept") = false := by decide +kernel
theorem fn_base_kept : (("base" : Str) = "kept") = False := eq_false (by decide +kernel)
theorem fb_base_reduced : (("base" : Str) == "reduced") = false := by decide +kernel
theorem fn_base_reduced : (("base" : Str) = "reduced") = False := eq_false (by decide +kernel)
theorem fb_base_plain : (("base" : Str) == "plain") = false := by decide +kernel
theorem fn_base_plain : (("base" : Str) = "plain") = False := eq_false (by decide +kernel)
theorem fb_base_barrett : (("base" : Str) == "barrett") = false := by decide +kernel
theorem fn_base_barrett : (("base" : Str) = "barrett") = False := eq_false (by decide +kernel)
theorem fb_base_table : (("base" : Str) == "table") = false := by decide +kernel
theorem fn_base_table : (("base" : Str) = "table") = False := eq_false (by decide +kernel)
theorem fb_base_mont : (("base" : Str) == "mont") = false := by decide +kernel
theorem fn_base_mont : (("base" : Str) = "mont") = False := eq_false (by decide +kernel)
theorem fe_size : (("size" : Str) == "size") = true := by decide +kernel
theorem fb_size_modulus : (("size" : Str) == "modulus") = false := by decide +kernel
theorem fn_size_modulus : (("size" : Str) = "modulus") = False := eq_false (by decide +kernel)
theorem fb_size_base : (("size" : Str) == "base") = false := by decide +kernel
theorem fn_size_base : (("size" : Str) = "base") = False := eq_false (by decide +kernel)
theorem fb_size_raised : (("size" : Str) == "raised") = false := by decide +kernel
theorem fn_size_raised : (("size" : Str) = "raised") = False := eq_false (by decide +kernel)
theorem fb_size_great : (("size" : Str) == "great") = false := by decide +kernel
theorem fn_size_great : (("size" : Str) = "great") = False := eq_false (by decide +kernel)
theorem fb_size_has_mont : (("size" : Str) == "has_mont") = false := by decide +kernel
theorem fn_size_has_mont : (("size" : Str) = "has_mont") = False := eq_false (by decide +kernel)
theorem fb_size_tables : (("size" : Str) == "tables") = false := by decide +kernel
theorem fn_size_tables : (("size" : Str) = "tables") = False := eq_false (by decide +kernel)
theorem fb_size_ways : (("size" : Str) == "ways") = false := by decide +kernel
theorem fn_size_ways : (("size" : Str) = "ways") = False := eq_false (by decide +kernel)
theorem fb_size_rows : (("size" : Str) == "rows") = false := by decide +kernel
theorem fn_size_rows : (("size" : Str) = "rows") = False := eq_false (by decide +kernel)
theorem fb_size_rest : (("size" : Str) == "rest") = false := by decide +kernel
theorem fn_size_rest : (("size" : Str) = "rest") = False := eq_false (by decide +kernel)
theorem fb_size_kept : (("size" : Str) == "kept") = false := by decide +kernel
theorem fn_size_kept : (("size" : Str) = "kept") = False := eq_false (by decide +kernel)
theorem fb_size_reduced : (("size" : Str) == "reduced") = false := by decide +kernel
theorem fn_size_reduced : (("size" : Str) = "reduced") = False := eq_false (by decide +kernel)
theorem fb_size_plain : (("size" : Str) == "plain") = false := by decide +kernel
theorem fn_size_plain : (("size" : Str) = "plain") = False := eq_false (by decide +kernel)
theorem fb_size_barrett : (("size" : Str) == "barrett") = false := by decide +kernel
theorem fn_size_barrett : (("size" : Str) = "barrett") = False := eq_false (by decide +kernel)
theorem fb_size_table : (("size" : Str) == "table") = false := by decide +kernel
theorem fn_size_table : (("size" : Str) = "table") = False := eq_false (by decide +kernel)
theorem fb_size_mont : (("size" : Str) == "mont") = false := by decide +kernel
theorem fn_size_mont : (("size" : Str) = "mont") = False := eq_false (by decide +kernel)
theorem fe_raised : (("raised" : Str) == "raised") = true := by decide +kernel
theorem fb_raised_modulus : (("raised" : Str) == "modulus") = false := by decide +kernel
theorem fn_raised_modulus : (("raised" : Str) = "modulus") = False := eq_false (by decide +kernel)
theorem fb_raised_base : (("raised" : Str) == "base") = false := by decide +kernel
theorem fn_raised_base : (("raised" : Str) = "base") = False := eq_false (by decide +kernel)
theorem fb_raised_size : (("raised" : Str) == "size") = false := by decide +kernel
theorem fn_raised_size : (("raised" : Str) = "size") = False := eq_false (by decide +kernel)
theorem fb_raised_great : (("raised" : Str) == "great") = false := by decide +kernel
theorem fn_raised_great : (("raised" : Str) = "great") = False := eq_false (by decide +kernel)
theorem fb_raised_has_mont : (("raised" : Str) == "has_mont") = false := by decide +kernel
theorem fn_raised_has_mont : (("raised" : Str) = "has_mont") = False := eq_false (by decide +kernel)
theorem fb_raised_tables : (("raised" : Str) == "tables") = false := by decide +kernel
theorem fn_raised_tables : (("raised" : Str) = "tables") = False := eq_false (by decide +kernel)
theorem fb_raised_ways : (("raised" : Str) == "ways") = false := by decide +kernel
theorem fn_raised_ways : (("raised" : Str) = "ways") = False := eq_false (by decide +kernel)
theorem fb_raised_rows : (("raised" : Str) == "rows") = false := by decide +kernel
theorem fn_raised_rows : (("raised" : Str) = "rows") = False := eq_false (by decide +kernel)
theorem fb_raised_rest : (("raised" : Str) == "rest") = false := by decide +kernel
theorem fn_raised_rest : (("raised" : Str) = "rest") = False := eq_false (by decide +kernel)
theorem fb_raised_kept : (("raised" : Str) == "kept") = false := by decide +kernel
theorem fn_raised_kept : (("raised" : Str) = "kept") = False := eq_false (by decide +kernel)
theorem fb_raised_reduced : (("raised" : Str) == "reduced") = false := by decide +kernel
theorem fn_raised_reduced : (("raised" : Str) = "reduced") = False := eq_false (by decide +kernel)
theorem fb_raised_plain : (("raised" : Str) == "plain") = false := by decide +kernel
theorem fn_raised_plain : (("raised" : Str) = "plain") = False := eq_false (by decide +kernel)
theorem fb_raised_barrett : (("raised" : Str) == "barrett") = false := by decide +kernel
theorem fn_raised_barrett : (("raised" : Str) = "barrett") = False := eq_false (by decide +kernel)
theorem fb_raised_table : (("raised" : Str) == "table") = false := by decide +kernel
theorem fn_raised_table : (("raised" : Str) = "table") = False := eq_false (by decide +kernel)
theorem fb_raised_mont : (("raised" : Str) == "mont") = false := by decide +kernel
theorem fn_raised_mont : (("raised" : Str) = "mont") = False := eq_false (by decide +kernel)
theorem fe_great : (("great" : Str) == "great") = true := by decide +kernel
theorem fb_great_modulus : (("great" : Str) == "modulus") = false := by decide +kernel
theorem fn_great_modulus : (("great" : Str) = "modulus") = False := eq_false (by decide +kernel)
theorem fb_great_base : (("great" : Str) == "base") = false := by decide +kernel
theorem fn_great_base : (("great" : Str) = "base") = False := eq_false (by decide +kernel)
theorem fb_great_size : (("great" : Str) == "size") = false := by decide +kernel
theorem fn_great_size : (("great" : Str) = "size") = False := eq_false (by decide +kernel)
theorem fb_great_raised : (("great" : Str) == "raised") = false := by decide +kernel
theorem fn_great_raised : (("great" : Str) = "raised") = False := eq_false (by decide +kernel)
theorem fb_great_has_mont : (("great" : Str) == "has_mont") = false := by decide +kernel
theorem fn_great_has_mont : (("great" : Str) = "has_mont") = False := eq_false (by decide +kernel)
theorem fb_great_tables : (("great" : Str) == "tables") = false := by decide +kernel
theorem fn_great_tables : (("great" : Str) = "tables") = False := eq_false (by decide +kernel)
theorem fb_great_ways : (("great" : Str) == "ways") = false := by decide +kernel
theorem fn_great_ways : (("great" : Str) = "ways") = False := eq_false (by decide +kernel)
theorem fb_great_rows : (("great" : Str) == "rows") = false := by decide +kernel
theorem fn_great_rows : (("great" : Str) = "rows") = False := eq_false (by decide +kernel)
theorem fb_great_rest : (("great" : Str) == "rest") = false := by decide +kernel
theorem fn_great_rest : (("great" : Str) = "rest") = False := eq_false (by decide +kernel)
theorem fb_great_kept : (("great" : Str) == "kept") = false := by decide +kernel
theorem fn_great_kept : (("great" : Str) = "kept") = False := eq_false (by decide +kernel)
theorem fb_great_reduced : (("great" : Str) == "reduced") = false := by decide +kernel
theorem fn_great_reduced : (("great" : Str) = "reduced") = False := eq_false (by decide +kernel)
theorem fb_great_plain : (("great" : Str) == "plain") = false := by decide +kernel
theorem fn_great_plain : (("great" : Str) = "plain") = False := eq_false (by decide +kernel)
theorem fb_great_barrett : (("great" : Str) == "barrett") = false := by decide +kernel
theorem fn_great_barrett : (("great" : Str) = "barrett") = False := eq_false (by decide +kernel)
theorem fb_great_table : (("great" : Str) == "table") = false := by decide +kernel
theorem fn_great_table : (("great" : Str) = "table") = False := eq_false (by decide +kernel)
theorem fb_great_mont : (("great" : Str) == "mont") = false := by decide +kernel
theorem fn_great_mont : (("great" : Str) = "mont") = False := eq_false (by decide +kernel)
theorem fe_has_mont : (("has_mont" : Str) == "has_mont") = true := by decide +kernel
theorem fb_has_mont_modulus : (("has_mont" : Str) == "modulus") = false := by decide +kernel
theorem fn_has_mont_modulus : (("has_mont" : Str) = "modulus") = False := eq_false (by decide +kernel)
theorem fb_has_mont_base : (("has_mont" : Str) == "base") = false := by decide +kernel
theorem fn_has_mont_base : (("has_mont" : Str) = "base") = False := eq_false (by decide +kernel)
theorem fb_has_mont_size : (("has_mont" : Str) == "size") = false := by decide +kernel
theorem fn_has_mont_size : (("has_mont" : Str) = "size") = False := eq_false (by decide +kernel)
theorem fb_has_mont_raised : (("has_mont" : Str) == "raised") = false := by decide +kernel
theorem fn_has_mont_raised : (("has_mont" : Str) = "raised") = False := eq_false (by decide +kernel)
theorem fb_has_mont_great : (("has_mont" : Str) == "great") = false := by decide +kernel
theorem fn_has_mont_great : (("has_mont" : Str) = "great") = False := eq_false (by decide +kernel)
theorem fb_has_mont_tables : (("has_mont" : Str) == "tables") = false := by decide +kernel
theorem fn_has_mont_tables : (("has_mont" : Str) = "tables") = False := eq_false (by decide +kernel)
theorem fb_has_mont_ways : (("has_mont" : Str) == "ways") = false := by decide +kernel
theorem fn_has_mont_ways : (("has_mont" : Str) = "ways") = False := eq_false (by decide +kernel)
theorem fb_has_mont_rows : (("has_mont" : Str) == "rows") = false := by decide +kernel
theorem fn_has_mont_rows : (("has_mont" : Str) = "rows") = False := eq_false (by decide +kernel)
theorem fb_has_mont_rest : (("has_mont" : Str) == "rest") = false := by decide +kernel
theorem fn_has_mont_rest : (("has_mont" : Str) = "rest") = False := eq_false (by decide +kernel)
theorem fb_has_mont_kept : (("has_mont" : Str) == "kept") = false := by decide +kernel
theorem fn_has_mont_kept : (("has_mont" : Str) = "kept") = False := eq_false (by decide +kernel)
theorem fb_has_mont_reduced : (("has_mont" : Str) == "reduced") = false := by decide +kernel
theorem fn_has_mont_reduced : (("has_mont" : Str) = "reduced") = False := eq_false (by decide +kernel)
theorem fb_has_mont_plain : (("has_mont" : Str) == "plain") = false := by decide +kernel
theorem fn_has_mont_plain : (("has_mont" : Str) = "plain") = False := eq_false (by decide +kernel)
theorem fb_has_mont_barrett : (("has_mont" : Str) == "barrett") = false := by decide +kernel
theorem fn_has_mont_barrett : (("has_mont" : Str) = "barrett") = False := eq_false (by decide +kernel)
theorem fb_has_mont_table : (("has_mont" : Str) == "table") = false := by decide +kernel
theorem fn_has_mont_table : (("has_mont" : Str) = "table") = False := eq_false (by decide +kernel)
theorem fb_has_mont_mont : (("has_mont" : Str) == "mont") = false := by decide +kernel
theorem fn_has_mont_mont : (("has_mont" : Str) = "mont") = False := eq_false (by decide +kernel)
theorem fe_tables : (("tables" : Str) == "tables") = true := by decide +kernel
theorem fb_tables_modulus : (("tables" : Str) == "modulus") = false := by decide +kernel
theorem fn_tables_modulus : (("tables" : Str) = "modulus") = False := eq_false (by decide +kernel)
theorem fb_tables_base : (("tables" : Str) == "base") = false := by decide +kernel
theorem fn_tables_base : (("tables" : Str) = "base") = False := eq_false (by decide +kernel)
theorem fb_tables_size : (("tables" : Str) == "size") = false := by decide +kernel
theorem fn_tables_size : (("tables" : Str) = "size") = False := eq_false (by decide +kernel)
theorem fb_tables_raised : (("tables" : Str) == "raised") = false := by decide +kernel
theorem fn_tables_raised : (("tables" : Str) = "raised") = False := eq_false (by decide +kernel)
theorem fb_tables_great : (("tables" : Str) == "great") = false := by decide +kernel
theorem fn_tables_great : (("tables" : Str) = "great") = False := eq_false (by decide +kernel)
theorem fb_tables_has_mont : (("tables" : Str) == "has_mont") = false := by decide +kernel
theorem fn_tables_has_mont : (("tables" : Str) = "has_mont") = False := eq_false (by decide +kernel)
theorem fb_tables_ways : (("tables" : Str) == "ways") = false := by decide +kernel
theorem fn_tables_ways : (("tables" : Str) = "ways") = False := eq_false (by decide +kernel)
theorem fb_tables_rows : (("tables" : Str) == "rows") = false := by decide +kernel
theorem fn_tables_rows : (("tables" : Str) = "rows") = False := eq_false (by decide +kernel)
theorem fb_tables_rest : (("tables" : Str) == "rest") = false := by decide +kernel
theorem fn_tables_rest : (("tables" : Str) = "rest") = False := eq_false (by decide +kernel)
theorem fb_tables_kept : (("tables" : Str) == "kept") = false := by decide +kernel
theorem fn_tables_kept : (("tables" : Str) = "kept") = False := eq_false (by decide +kernel)
theorem fb_tables_reduced : (("tables" : Str) == "reduced") = false := by decide +kernel
theorem fn_tables_reduced : (("tables" : Str) = "reduced") = False := eq_false (by decide +kernel)
theorem fb_tables_plain : (("tables" : Str) == "plain") = false := by decide +kernel
theorem fn_tables_plain : (("tables" : Str) = "plain") = False := eq_false (by decide +kernel)
theorem fb_tables_barrett : (("tables" : Str) == "barrett") = false := by decide +kernel
theorem fn_tables_barrett : (("tables" : Str) = "barrett") = False := eq_false (by decide +kernel)
theorem fb_tables_table : (("tables" : Str) == "table") = false := by decide +kernel
theorem fn_tables_table : (("tables" : Str) = "table") = False := eq_false (by decide +kernel)
theorem fb_tables_mont : (("tables" : Str) == "mont") = false := by decide +kernel
theorem fn_tables_mont : (("tables" : Str) = "mont") = False := eq_false (by decide +kernel)
theorem fe_ways : (("ways" : Str) == "ways") = true := by decide +kernel
theorem fb_ways_modulus : (("ways" : Str) == "modulus") = false := by decide +kernel
theorem fn_ways_modulus : (("ways" : Str) = "modulus") = False := eq_false (by decide +kernel)
theorem fb_ways_base : (("ways" : Str) == "base") = false := by decide +kernel
theorem fn_ways_base : (("ways" : Str) = "base") = False := eq_false (by decide +kernel)
theorem fb_ways_size : (("ways" : Str) == "size") = false := by decide +kernel
theorem fn_ways_size : (("ways" : Str) = "size") = False := eq_false (by decide +kernel)
theorem fb_ways_raised : (("ways" : Str) == "raised") = false := by decide +kernel
theorem fn_ways_raised : (("ways" : Str) = "raised") = False := eq_false (by decide +kernel)
theorem fb_ways_great : (("ways" : Str) == "great") = false := by decide +kernel
theorem fn_ways_great : (("ways" : Str) = "great") = False := eq_false (by decide +kernel)
theorem fb_ways_has_mont : (("ways" : Str) == "has_mont") = false := by decide +kernel
theorem fn_ways_has_mont : (("ways" : Str) = "has_mont") = False := eq_false (by decide +kernel)
theorem fb_ways_tables : (("ways" : Str) == "tables") = false := by decide +kernel
theorem fn_ways_tables : (("ways" : Str) = "tables") = False := eq_false (by decide +kernel)
theorem fb_ways_rows : (("ways" : Str) == "rows") = false := by decide +kernel
theorem fn_ways_rows : (("ways" : Str) = "rows") = False := eq_false (by decide +kernel)
theorem fb_ways_rest : (("ways" : Str) == "rest") = false := by decide +kernel
theorem fn_ways_rest : (("ways" : Str) = "rest") = False := eq_false (by decide +kernel)
theorem fb_ways_kept : (("ways" : Str) == "kept") = false := by decide +kernel
theorem fn_ways_kept : (("ways" : Str) = "kept") = False := eq_false (by decide +kernel)
theorem fb_ways_reduced : (("ways" : Str) == "reduced") = false := by decide +kernel
theorem fn_ways_reduced : (("ways" : Str) = "reduced") = False := eq_false (by decide +kernel)
theorem fb_ways_plain : (("ways" : Str) == "plain") = false := by decide +kernel
theorem fn_ways_plain : (("ways" : Str) = "plain") = False := eq_false (by decide +kernel)
theorem fb_ways_barrett : (("ways" : Str) == "barrett") = false := by decide +kernel
theorem fn_ways_barrett : (("ways" : Str) = "barrett") = False := eq_false (by decide +kernel)
theorem fb_ways_table : (("ways" : Str) == "table") = false := by decide +kernel
theorem fn_ways_table : (("ways" : Str) = "table") = False := eq_false (by decide +kernel)
theorem fb_ways_mont : (("ways" : Str) == "mont") = false := by decide +kernel
theorem fn_ways_mont : (("ways" : Str) = "mont") = False := eq_false (by decide +kernel)
theorem fe_rows : (("rows" : Str) == "rows") = true := by decide +kernel
theorem fb_rows_modulus : (("rows" : Str) == "modulus") = false := by decide +kernel
theorem fn_rows_modulus : (("rows" : Str) = "modulus") = False := eq_false (by decide +kernel)
theorem fb_rows_base : (("rows" : Str) == "base") = false := by decide +kernel
theorem fn_rows_base : (("rows" : Str) = "base") = False := eq_false (by decide +kernel)
theorem fb_rows_size : (("rows" : Str) == "size") = false := by decide +kernel
theorem fn_rows_size : (("rows" : Str) = "size") = False := eq_false (by decide +kernel)
theorem fb_rows_raised : (("rows" : Str) == "raised") = false := by decide +kernel
theorem fn_rows_raised : (("rows" : Str) = "raised") = False := eq_false (by decide +kernel)
theorem fb_rows_great : (("rows" : Str) == "great") = false := by decide +kernel
theorem fn_rows_great : (("rows" : Str) = "great") = False := eq_false (by decide +kernel)
theorem fb_rows_has_mont : (("rows" : Str) == "has_mont") = false := by decide +kernel
theorem fn_rows_has_mont : (("rows" : Str) = "has_mont") = False := eq_false (by decide +kernel)
theorem fb_rows_tables : (("rows" : Str) == "tables") = false := by decide +kernel
theorem fn_rows_tables : (("rows" : Str) = "tables") = False := eq_false (by decide +kernel)
theorem fb_rows_ways : (("rows" : Str) == "ways") = false := by decide +kernel
theorem fn_rows_ways : (("rows" : Str) = "ways") = False := eq_false (by decide +kernel)
theorem fb_rows_rest : (("rows" : Str) == "rest") = false := by decide +kernel
theorem fn_rows_rest : (("rows" : Str) = "rest") = False := eq_false (by decide +kernel)
theorem fb_rows_kept : (("rows" : Str) == "kept") = false := by decide +kernel
theorem fn_rows_kept : (("rows" : Str) = "kept") = False := eq_false (by decide +kernel)
theorem fb_rows_reduced : (("rows" : Str) == "reduced") = false := by decide +kernel
theorem fn_rows_reduced : (("rows" : Str) = "reduced") = False := eq_false (by decide +kernel)
theorem fb_rows_plain : (("rows" : Str) == "plain") = false := by decide +kernel
theorem fn_rows_plain : (("rows" : Str) = "plain") = False := eq_false (by decide +kernel)
theorem fb_rows_barrett : (("rows" : Str) == "barrett") = false := by decide +kernel
theorem fn_rows_barrett : (("rows" : Str) = "barrett") = False := eq_false (by decide +kernel)
theorem fb_rows_table : (("rows" : Str) == "table") = false := by decide +kernel
theorem fn_rows_table : (("rows" : Str) = "table") = False := eq_false (by decide +kernel)
theorem fb_rows_mont : (("rows" : Str) == "mont") = false := by decide +kernel
theorem fn_rows_mont : (("rows" : Str) = "mont") = False := eq_false (by decide +kernel)
theorem fe_rest : (("rest" : Str) == "rest") = true := by decide +kernel
theorem fb_rest_modulus : (("rest" : Str) == "modulus") = false := by decide +kernel
theorem fn_rest_modulus : (("rest" : Str) = "modulus") = False := eq_false (by decide +kernel)
theorem fb_rest_base : (("rest" : Str) == "base") = false := by decide +kernel
theorem fn_rest_base : (("rest" : Str) = "base") = False := eq_false (by decide +kernel)
theorem fb_rest_size : (("rest" : Str) == "size") = false := by decide +kernel
theorem fn_rest_size : (("rest" : Str) = "size") = False := eq_false (by decide +kernel)
theorem fb_rest_raised : (("rest" : Str) == "raised") = false := by decide +kernel
theorem fn_rest_raised : (("rest" : Str) = "raised") = False := eq_false (by decide +kernel)
theorem fb_rest_great : (("rest" : Str) == "great") = false := by decide +kernel
theorem fn_rest_great : (("rest" : Str) = "great") = False := eq_false (by decide +kernel)
theorem fb_rest_has_mont : (("rest" : Str) == "has_mont") = false := by decide +kernel
theorem fn_rest_has_mont : (("rest" : Str) = "has_mont") = False := eq_false (by decide +kernel)
theorem fb_rest_tables : (("rest" : Str) == "tables") = false := by decide +kernel
theorem fn_rest_tables : (("rest" : Str) = "tables") = False := eq_false (by decide +kernel)
theorem fb_rest_ways : (("rest" : Str) == "ways") = false := by decide +kernel
theorem fn_rest_ways : (("rest" : Str) = "ways") = False := eq_false (by decide +kernel)
theorem fb_rest_rows : (("rest" : Str) == "rows") = false := by decide +kernel
theorem fn_rest_rows : (("rest" : Str) = "rows") = False := eq_false (by decide +kernel)
theorem fb_rest_kept : (("rest" : Str) == "kept") = false := by decide +kernel
theorem fn_rest_kept : (("rest" : Str) = "kept") = False := eq_false (by decide +kernel)
theorem fb_rest_reduced : (("rest" : Str) == "reduced") = false := by decide +kernel
theorem fn_rest_reduced : (("rest" : Str) = "reduced") = False := eq_false (by decide +kernel)
theorem fb_rest_plain : (("rest" : Str) == "plain") = false := by decide +kernel
theorem fn_rest_plain : (("rest" : Str) = "plain") = False := eq_false (by decide +kernel)
theorem fb_rest_barrett : (("rest" : Str) == "barrett") = false := by decide +kernel
theorem fn_rest_barrett : (("rest" : Str) = "barrett") = False := eq_false (by decide +kernel)
theorem fb_rest_table : (("rest" : Str) == "table") = false := by decide +kernel
theorem fn_rest_table : (("rest" : Str) = "table") = False := eq_false (by decide +kernel)
theorem fb_rest_mont : (("rest" : Str) == "mont") = false := by decide +kernel
theorem fn_rest_mont : (("rest" : Str) = "mont") = False := eq_false (by decide +kernel)
theorem fe_kept : (("kept" : Str) == "kept") = true := by decide +kernel
theorem fb_kept_modulus : (("kept" : Str) == "modulus") = false := by decide +kernel
theorem fn_kept_modulus : (("kept" : Str) = "modulus") = False := eq_false (by decide +kernel)
theorem fb_kept_base : (("kept" : Str) == "base") = false := by decide +kernel
theorem fn_kept_base : (("kept" : Str) = "base") = False := eq_false (by decide +kernel)
theorem fb_kept_size : (("kept" : Str) == "size") = false := by decide +kernel
theorem fn_kept_size : (("kept" : Str) = "size") = False := eq_false (by decide +kernel)
theorem fb_kept_raised : (("kept" : Str) == "raised") = false := by decide +kernel
theorem fn_kept_raised : (("kept" : Str) = "raised") = False := eq_false (by decide +kernel)
theorem fb_kept_great : (("kept" : Str) == "great") = false := by decide +kernel
theorem fn_kept_great : (("kept" : Str) = "great") = False := eq_false (by decide +kernel)
theorem fb_kept_has_mont : (("kept" : Str) == "has_mont") = false := by decide +kernel
theorem fn_kept_has_mont : (("kept" : Str) = "has_mont") = False := eq_false (by decide +kernel)
theorem fb_kept_tables : (("kept" : Str) == "tables") = false := by decide +kernel
theorem fn_kept_tables : (("kept" : Str) = "tables") = False := eq_false (by decide +kernel)
theorem fb_kept_ways : (("kept" : Str) == "ways") = false := by decide +kernel
theorem fn_kept_ways : (("kept" : Str) = "ways") = False := eq_false (by decide +kernel)
theorem fb_kept_rows : (("kept" : Str) == "rows") = false := by decide +kernel
theorem fn_kept_rows : (("kept" : Str) = "rows") = False := eq_false (by decide +kernel)
theorem fb_kept_rest : (("kept" : Str) == "rest") = false := by decide +kernel
theorem fn_kept_rest : (("kept" : Str) = "rest") = False := eq_false (by decide +kernel)
theorem fb_kept_reduced : (("kept" : Str) == "reduced") = false := by decide +kernel
theorem fn_kept_reduced : (("kept" : Str) = "reduced") = False := eq_false (by decide +kernel)
theorem fb_kept_plain : (("kept" : Str) == "plain") = false := by decide +kernel
theorem fn_kept_plain : (("kept" : Str) = "plain") = False := eq_false (by decide +kernel)
theorem fb_kept_barrett : (("kept" : Str) == "barrett") = false := by decide +kernel
theorem fn_kept_barrett : (("kept" : Str) = "barrett") = False := eq_false (by decide +kernel)
theorem fb_kept_table : (("kept" : Str) == "table") = false := by decide +kernel
theorem fn_kept_table : (("kept" : Str) = "table") = False := eq_false (by decide +kernel)
theorem fb_kept_mont : (("kept" : Str) == "mont") = false := by decide +kernel
theorem fn_kept_mont : (("kept" : Str) = "mont") = False := eq_false (by decide +kernel)
theorem fe_reduced : (("reduced" : Str) == "reduced") = true := by decide +kernel
theorem fb_reduced_modulus : (("reduced" : Str) == "modulus") = false := by decide +kernel
theorem fn_reduced_modulus : (("reduced" : Str) = "modulus") = False := eq_false (by decide +kernel)
theorem fb_reduced_base : (("reduced" : Str) == "base") = false := by decide +kernel
theorem fn_reduced_base : (("reduced" : Str) = "base") = False := eq_false (by decide +kernel)
theorem fb_reduced_size : (("reduced" : Str) == "size") = false := by decide +kernel
theorem fn_reduced_size : (("reduced" : Str) = "size") = False := eq_false (by decide +kernel)
theorem fb_reduced_raised : (("reduced" : Str) == "raised") = false := by decide +kernel
theorem fn_reduced_raised : (("reduced" : Str) = "raised") = False := eq_false (by decide +kernel)
theorem fb_reduced_great : (("reduced" : Str) == "great") = false := by decide +kernel
theorem fn_reduced_great : (("reduced" : Str) = "great") = False := eq_false (by decide +kernel)
theorem fb_reduced_has_mont : (("reduced" : Str) == "has_mont") = false := by decide +kernel
theorem fn_reduced_has_mont : (("reduced" : Str) = "has_mont") = False := eq_false (by decide +kernel)
theorem fb_reduced_tables : (("reduced" : Str) == "tables") = false := by decide +kernel
theorem fn_reduced_tables : (("reduced" : Str) = "tables") = False := eq_false (by decide +kernel)
theorem fb_reduced_ways : (("reduced" : Str) == "ways") = false := by decide +kernel
theorem fn_reduced_ways : (("reduced" : Str) = "ways") = False := eq_false (by decide +kernel)
theorem fb_reduced_rows : (("reduced" : Str) == "rows") = false := by decide +kernel
theorem fn_reduced_rows : (("reduced" : Str) = "rows") = False := eq_false (by decide +kernel)
theorem fb_reduced_rest : (("reduced" : Str) == "rest") = false := by decide +kernel
theorem fn_reduced_rest : (("reduced" : Str) = "rest") = False := eq_false (by decide +kernel)
theorem fb_reduced_kept : (("reduced" : Str) == "kept") = false := by decide +kernel
theorem fn_reduced_kept : (("reduced" : Str) = "kept") = False := eq_false (by decide +kernel)
theorem fb_reduced_plain : (("reduced" : Str) == "plain") = false := by decide +kernel
theorem fn_reduced_plain : (("reduced" : Str) = "plain") = False := eq_false (by decide +kernel)
theorem fb_reduced_barrett : (("reduced" : Str) == "barrett") = false := by decide +kernel
theorem fn_reduced_barrett : (("reduced" : Str) = "barrett") = False := eq_false (by decide +kernel)
theorem fb_reduced_table : (("reduced" : Str) == "table") = false := by decide +kernel
theorem fn_reduced_table : (("reduced" : Str) = "table") = False := eq_false (by decide +kernel)
theorem fb_reduced_mont : (("reduced" : Str) == "mont") = false := by decide +kernel
theorem fn_reduced_mont : (("reduced" : Str) = "mont") = False := eq_false (by decide +kernel)
theorem fe_plain : (("plain" : Str) == "plain") = true := by decide +kernel
theorem fb_plain_modulus : (("plain" : Str) == "modulus") = false := by decide +kernel
theorem fn_plain_modulus : (("plain" : Str) = "modulus") = False := eq_false (by decide +kernel)
theorem fb_plain_base : (("plain" : Str) == "base") = false := by decide +kernel
theorem fn_plain_base : (("plain" : Str) = "base") = False := eq_false (by decide +kernel)
theorem fb_plain_size : (("plain" : Str) == "size") = false := by decide +kernel
theorem fn_plain_size : (("plain" : Str) = "size") = False := eq_false (by decide +kernel)
theorem fb_plain_raised : (("plain" : Str) == "raised") = false := by decide +kernel
theorem fn_plain_raised : (("plain" : Str) = "raised") = False := eq_false (by decide +kernel)
theorem fb_plain_great : (("plain" : Str) == "great") = false := by decide +kernel
theorem fn_plain_great : (("plain" : Str) = "great") = False := eq_false (by decide +kernel)
theorem fb_plain_has_mont : (("plain" : Str) == "has_mont") = false := by decide +kernel
theorem fn_plain_has_mont : (("plain" : Str) = "has_mont") = False := eq_false (by decide +kernel)
theorem fb_plain_tables : (("plain" : Str) == "tables") = false := by decide +kernel
theorem fn_plain_tables : (("plain" : Str) = "tables") = False := eq_false (by decide +kernel)
theorem fb_plain_ways : (("plain" : Str) == "ways") = false := by decide +kernel
theorem fn_plain_ways : (("plain" : Str) = "ways") = False := eq_false (by decide +kernel)
theorem fb_plain_rows : (("plain" : Str) == "rows") = false := by decide +kernel
theorem fn_plain_rows : (("plain" : Str) = "rows") = False := eq_false (by decide +kernel)
theorem fb_plain_rest : (("plain" : Str) == "rest") = false := by decide +kernel
theorem fn_plain_rest : (("plain" : Str) = "rest") = False := eq_false (by decide +kernel)
theorem fb_plain_kept : (("plain" : Str) == "kept") = false := by decide +kernel
theorem fn_plain_kept : (("plain" : Str) = "kept") = False := eq_false (by decide +kernel)
theorem fb_plain_reduced : (("plain" : Str) == "reduced") = false := by decide +kernel
theorem fn_plain_reduced : (("plain" : Str) = "reduced") = False := eq_false (by decide +kernel)
theorem fb_plain_barrett : (("plain" : Str) == "barrett") = false := by decide +kernel
theorem fn_plain_barrett : (("plain" : Str) = "barrett") = False := eq_false (by decide +kernel)
theorem fb_plain_table : (("plain" : Str) == "table") = false := by decide +kernel
theorem fn_plain_table : (("plain" : Str) = "table") = False := eq_false (by decide +kernel)
theorem fb_plain_mont : (("plain" : Str) == "mont") = false := by decide +kernel
theorem fn_plain_mont : (("plain" : Str) = "mont") = False := eq_false (by decide +kernel)
theorem fe_barrett : (("barrett" : Str) == "barrett") = true := by decide +kernel
theorem fb_barrett_modulus : (("barrett" : Str) == "modulus") = false := by decide +kernel
theorem fn_barrett_modulus : (("barrett" : Str) = "modulus") = False := eq_false (by decide +kernel)
theorem fb_barrett_base : (("barrett" : Str) == "base") = false := by decide +kernel
theorem fn_barrett_base : (("barrett" : Str) = "base") = False := eq_false (by decide +kernel)
theorem fb_barrett_size : (("barrett" : Str) == "size") = false := by decide +kernel
theorem fn_barrett_size : (("barrett" : Str) = "size") = False := eq_false (by decide +kernel)
theorem fb_barrett_raised : (("barrett" : Str) == "raised") = false := by decide +kernel
theorem fn_barrett_raised : (("barrett" : Str) = "raised") = False := eq_false (by decide +kernel)
theorem fb_barrett_great : (("barrett" : Str) == "great") = false := by decide +kernel
theorem fn_barrett_great : (("barrett" : Str) = "great") = False := eq_false (by decide +kernel)
theorem fb_barrett_has_mont : (("barrett" : Str) == "has_mont") = false := by decide +kernel
theorem fn_barrett_has_mont : (("barrett" : Str) = "has_mont") = False := eq_false (by decide +kernel)
theorem fb_barrett_tables : (("barrett" : Str) == "tables") = false := by decide +kernel
theorem fn_barrett_tables : (("barrett" : Str) = "tables") = False := eq_false (by decide +kernel)
theorem fb_barrett_ways : (("barrett" : Str) == "ways") = false := by decide +kernel
theorem fn_barrett_ways : (("barrett" : Str) = "ways") = False := eq_false (by decide +kernel)
theorem fb_barrett_rows : (("barrett" : Str) == "rows") = false := by decide +kernel
theorem fn_barrett_rows : (("barrett" : Str) = "rows") = False := eq_false (by decide +kernel)
theorem fb_barrett_rest : (("barrett" : Str) == "rest") = false := by decide +kernel
theorem fn_barrett_rest : (("barrett" : Str) = "rest") = False := eq_false (by decide +kernel)
theorem fb_barrett_kept : (("barrett" : Str) == "kept") = false := by decide +kernel
theorem fn_barrett_kept : (("barrett" : Str) = "kept") = False := eq_false (by decide +kernel)
theorem fb_barrett_reduced : (("barrett" : Str) == "reduced") = false := by decide +kernel
theorem fn_barrett_reduced : (("barrett" : Str) = "reduced") = False := eq_false (by decide +kernel)
theorem fb_barrett_plain : (("barrett" : Str) == "plain") = false := by decide +kernel
theorem fn_barrett_plain : (("barrett" : Str) = "plain") = False := eq_false (by decide +kernel)
theorem fb_barrett_table : (("barrett" : Str) == "table") = false := by decide +kernel
theorem fn_barrett_table : (("barrett" : Str) = "table") = False := eq_false (by decide +kernel)
theorem fb_barrett_mont : (("barrett" : Str) == "mont") = false := by decide +kernel
theorem fn_barrett_mont : (("barrett" : Str) = "mont") = False := eq_false (by decide +kernel)
theorem fe_table : (("table" : Str) == "table") = true := by decide +kernel
theorem fb_table_modulus : (("table" : Str) == "modulus") = false := by decide +kernel
theorem fn_table_modulus : (("table" : Str) = "modulus") = False := eq_false (by decide +kernel)
theorem fb_table_base : (("table" : Str) == "base") = false := by decide +kernel
theorem fn_table_base : (("table" : Str) = "base") = False := eq_false (by decide +kernel)
theorem fb_table_size : (("table" : Str) == "size") = false := by decide +kernel
theorem fn_table_size : (("table" : Str) = "size") = False := eq_false (by decide +kernel)
theorem fb_table_raised : (("table" : Str) == "raised") = false := by decide +kernel
theorem fn_table_raised : (("table" : Str) = "raised") = False := eq_false (by decide +kernel)
theorem fb_table_great : (("table" : Str) == "great") = false := by decide +kernel
theorem fn_table_great : (("table" : Str) = "great") = False := eq_false (by decide +kernel)
theorem fb_table_has_mont : (("table" : Str) == "has_mont") = false := by decide +kernel
theorem fn_table_has_mont : (("table" : Str) = "has_mont") = False := eq_false (by decide +kernel)
theorem fb_table_tables : (("table" : Str) == "tables") = false := by decide +kernel
theorem fn_table_tables : (("table" : Str) = "tables") = False := eq_false (by decide +kernel)
theorem fb_table_ways : (("table" : Str) == "ways") = false := by decide +kernel
theorem fn_table_ways : (("table" : Str) = "ways") = False := eq_false (by decide +kernel)
theorem fb_table_rows : (("table" : Str) == "rows") = false := by decide +kernel
theorem fn_table_rows : (("table" : Str) = "rows") = False := eq_false (by decide +kernel)
theorem fb_table_rest : (("table" : Str) == "rest") = false := by decide +kernel
theorem fn_table_rest : (("table" : Str) = "rest") = False := eq_false (by decide +kernel)
theorem fb_table_kept : (("table" : Str) == "kept") = false := by decide +kernel
theorem fn_table_kept : (("table" : Str) = "kept") = False := eq_false (by decide +kernel)
theorem fb_table_reduced : (("table" : Str) == "reduced") = false := by decide +kernel
theorem fn_table_reduced : (("table" : Str) = "reduced") = False := eq_false (by decide +kernel)
theorem fb_table_plain : (("table" : Str) == "plain") = false := by decide +kernel
theorem fn_table_plain : (("table" : Str) = "plain") = False := eq_false (by decide +kernel)
theorem fb_table_barrett : (("table" : Str) == "barrett") = false := by decide +kernel
theorem fn_table_barrett : (("table" : Str) = "barrett") = False := eq_false (by decide +kernel)
theorem fb_table_mont : (("table" : Str) == "mont") = false := by decide +kernel
theorem fn_table_mont : (("table" : Str) = "mont") = False := eq_false (by decide +kernel)
theorem fe_mont : (("mont" : Str) == "mont") = true := by decide +kernel
theorem fb_mont_modulus : (("mont" : Str) == "modulus") = false := by decide +kernel
theorem fn_mont_modulus : (("mont" : Str) = "modulus") = False := eq_false (by decide +kernel)
theorem fb_mont_base : (("mont" : Str) == "base") = false := by decide +kernel
theorem fn_mont_base : (("mont" : Str) = "base") = False := eq_false (by decide +kernel)
theorem fb_mont_size : (("mont" : Str) == "size") = false := by decide +kernel
theorem fn_mont_size : (("mont" : Str) = "size") = False := eq_false (by decide +kernel)
theorem fb_mont_raised : (("mont" : Str) == "raised") = false := by decide +kernel
theorem fn_mont_raised : (("mont" : Str) = "raised") = False := eq_false (by decide +kernel)
theorem fb_mont_great : (("mont" : Str) == "great") = false := by decide +kernel
theorem fn_mont_great : (("mont" : Str) = "great") = False := eq_false (by decide +kernel)
theorem fb_mont_has_mont : (("mont" : Str) == "has_mont") = false := by decide +kernel
theorem fn_mont_has_mont : (("mont" : Str) = "has_mont") = False := eq_false (by decide +kernel)
theorem fb_mont_tables : (("mont" : Str) == "tables") = false := by decide +kernel
theorem fn_mont_tables : (("mont" : Str) = "tables") = False := eq_false (by decide +kernel)
theorem fb_mont_ways : (("mont" : Str) == "ways") = false := by decide +kernel
theorem fn_mont_ways : (("mont" : Str) = "ways") = False := eq_false (by decide +kernel)
theorem fb_mont_rows : (("mont" : Str) == "rows") = false := by decide +kernel
theorem fn_mont_rows : (("mont" : Str) = "rows") = False := eq_false (by decide +kernel)
theorem fb_mont_rest : (("mont" : Str) == "rest") = false := by decide +kernel
theorem fn_mont_rest : (("mont" : Str) = "rest") = False := eq_false (by decide +kernel)
theorem fb_mont_kept : (("mont" : Str) == "kept") = false := by decide +kernel
theorem fn_mont_kept : (("mont" : Str) = "kept") = False := eq_false (by decide +kernel)
theorem fb_mont_reduced : (("mont" : Str) == "reduced") = false := by decide +kernel
theorem fn_mont_reduced : (("mont" : Str) = "reduced") = False := eq_false (by decide +kernel)
theorem fb_mont_plain : (("mont" : Str) == "plain") = false := by decide +kernel
theorem fn_mont_plain : (("mont" : Str) = "plain") = False := eq_false (by decide +kernel)
theorem fb_mont_barrett : (("mont" : Str) == "barrett") = false := by decide +kernel
theorem fn_mont_barrett : (("mont" : Str) = "barrett") = False := eq_false (by decide +kernel)
theorem fb_mont_table : (("mont" : Str) == "table") = false := by decide +kernel
theorem fn_mont_table : (("mont" : Str) = "table") = False := eq_false (by decide +kernel)
theorem attrD_obj {m : Mu} {f : Str} {C : Addr} {fs : List (Str × D)} : attrD m f (.obj C fs) = (fs.lookup f).map fun d => (C, d) := rfl
theorem attrD_ref {m : Mu} {f : Str} {p : Addr} : attrD m f (.ref p) = (match m p with | some (.ins C fs) => (fs.lookup f).map fun d => (C, d) | _ => none) := rfl
theorem putD_nil {f : Str} {d : D} : putD f d [] = [(f, d)] := rfl
theorem putD_cons {f g : Str} {d v : D} {r : List (Str × D)} : putD f d ((g, v) :: r) = if g = f then (f, d) :: r else (g, v) :: putD f d r := rfl
theorem lk_nil {f : Str} : List.lookup f ([] : List (Str × D)) = none := rfl
theorem lk_cons {f g : Str} {d : D} {r : List (Str × D)} : List.lookup f ((g, d) :: r) = if (f == g) = true then some d else List.lookup f r := by rw [List.lookup_cons]; cases f == g <;> rfl
theorem in_one {a : Addr} : (a ∈ [a]) = True := eq_true (List.mem_singleton.mpr rfl)
theorem isObj_obj {C C2 : Addr} {nm : Str} {m : Mu} {fs : List (Str × D)} : isObj C nm m (.obj C2 fs) = (C2 = C ∧ fs.lookup nm = none) := rfl
end Zed
end
section
set_option maxHeartbeats 4000000
/-! ZCtx: contexts.py. -/
namespace Zed
open PySem PySem.Spec PyProof.Rows L2
local macro_rules | `(tactic| walk_at "zs") => `(tactic| simp only [zv, zc, zop, zun, anil, acons, ztup, zfl, zlst, zbl, zcall, zcallK, tvl, ttr, tand, tor, tnot, zand, zor, zorT, znot, zif, zchn, zsl, onone, osome, zrev, zrevA, zisi, gn, gnil, gcons, gtup, gsub, snil, sseq, sexp, sret, sretN, sif, sasg, sset, spar, spar3, saug, wkL, zapp, zpop, zseal, xat, snever, tyes, ilist, itup, istr, irng1, irng2, irng3, ienum, ienumT, izip, irev, wipeZ, zev, oAddL, isNon, at2_if, iseq, ienumT, gstar, gtupA, saugS, oGetL, izipS, sl_0, sl_1, sl_2, sl_3, sl_4, sl_5, sl_6, sl_7, sl_8, at1_0, at2_0, at2_1, at3_0, at3_1, at3_2, at4_0, at4_1, at4_2, at4_3, at5_0, at5_1, at5_2, at5_3, at5_4, at6_0, at6_1, at6_2, at6_3, at6_4, at6_5, at7_0, at7_1, at7_2, at7_3, at7_4, at7_5, at7_6, at8_0, at8_1, at8_2, at8_3, at8_4, at8_5, at8_6, at8_7, ixn2_0, ixn2_1, ixn3_0, ixn3_1, ixn3_2, cp_2, vp_2, cp_3, vp_3, cp_6, vp_6, cp_7, vp_7, cp_18, vp_18, cp_60, vp_60, q_truD_1, q_truD_2, q_truD_3, q_truD_4, q_truD_5, q_truD_6, q_oAdd_1, q_oAdd_2, q_oAdd_3, q_oAdd_4, q_oInt_1, q_oSub_1, q_oLt_1, q_oEq_1, q_oNe_1, q_oNe_2, q_oEq_2, q_oIs_1, q_oIs_2, q_oIsNot_1, q_oIsNot_2, q_oNeg_1, q_cAbs_1, q_cMax_1, q_cMin_1, q_cInt_1, q_cInt_2, q_cDivmod_1, q_lenD_1, q_lenD_2, q_lenD_3, q_cLen_1, q_cTuple_1, q_cTuple_2, q_cTuple_3, q_cListF_1, q_cListF_2, q_cListF_3, q_cList_1, q_cList_2, q_seqD_1, q_seqD_2, q_lenD_4, q_oIx_1, q_oIx_2, q_oIx_4, q_oSl_1, q_oSl_2, q_oSl_3, q_oSl_4, q_tyD_1, q_tyD_2, q_tyD_3, q_tyD_4, q_tyD_5, q_tyD_6, q_cIsi_1, q_oSet_1, q_oIAdd_1, q_oIAdd_2, List.getD_cons_zero, List.getD_cons_succ, List.take_zero, List.drop_zero, updM_same, updM_upd, dropM_updM, isi_ii, isi_bi, isi_ib, isi_bb, isi_tt, List.map_cons, List.map_nil, List.replicate_succ, List.replicate_zero, List.cons_append, List.nil_append, List.append_nil, List.set_cons_zero, List.set_cons_succ, List.getElem?_cons_zero, List.getElem?_cons_succ, List.length_cons, List.length_nil, Bool.false_eq_true, if_true, if_false, Bool.not_true, Bool.not_false, Bool.not_eq_true, Bool.not_eq_false', decide_eq_true_eq, true_and, and_true, exists_eq_left', Nat.reduceAdd, Nat.reduceSub, reduceCtorEq, decide_true, decide_false, Bool.true_eq_false, ite_true, ite_false, isw_int, fe_modulus, fe_base, fe_size, fe_raised, fe_great, fe_has_mont, fe_tables, fe_ways, fe_rows, fe_rest, fe_kept, fe_reduced, fe_plain, fe_barrett, fe_table, fe_mont, fb_modulus_base, fn_modulus_base, fb_modulus_size, fn_modulus_size, fb_modulus_raised, fn_modulus_raised, fb_modulus_great, fn_modulus_great, fb_modulus_has_mont, fn_modulus_has_mont, fb_modulus_tables, fn_modulus_tables, fb_modulus_ways, fn_modulus_ways, fb_modulus_rows, fn_modulus_rows, fb_modulus_rest, fn_modulus_rest, fb_modulus_kept, fn_modulus_kept, fb_modulus_reduced, fn_modulus_reduced, fb_modulus_plain, fn_modulus_plain, fb_modulus_barrett, fn_modulus_barrett, fb_modulus_table, fn_modulus_table, fb_modulus_mont, fn_modulus_mont, fb_base_modulus, fn_base_modulus, fb_base_size, fn_base_size, fb_base_raised, fn_base_raised, fb_base_great, fn_base_great, fb_base_has_mont, fn_base_has_mont, fb_base_tables, fn_base_tables, fb_base_ways, fn_base_ways, fb_base_rows, fn_base_rows, fb_base_rest, fn_base_rest, fb_base_kept, fn_base_kept, fb_base_reduced, fn_base_reduced, fb_base_plain, fn_base_plain, fb_base_barrett, fn_base_barrett, fb_base_table, fn_base_table, fb_base_mont, fn_base_mont, fb_size_modulus, fn_size_modulus, fb_size_base, fn_size_base, fb_size_raised, fn_size_raised, fb_size_great, fn_size_great, fb_size_has_mont, fn_size_has_mont, fb_size_tables, fn_size_tables, fb_size_ways, fn_size_ways, fb_size_rows, fn_size_rows, fb_size_rest, fn_size_rest, fb_size_kept, fn_size_kept, fb_size_reduced, fn_size_reduced, fb_size_plain, fn_size_plain, fb_size_barrett, fn_size_barrett, fb_size_table, fn_size_table, fb_size_mont, fn_size_mont, fb_raised_modulus, fn_raised_modulus, fb_raised_base, fn_raised_base, fb_raised_size, fn_raised_size, fb_raised_great, fn_raised_great, fb_raised_has_mont, fn_raised_has_mont, fb_raised_tables, fn_raised_tables, fb_raised_ways, fn_raised_ways, fb_raised_rows, fn_raised_rows, fb_raised_rest, fn_raised_rest, fb_raised_kept, fn_raised_kept, fb_raised_reduced, fn_raised_reduced, fb_raised_plain, fn_raised_plain, fb_raised_barrett, fn_raised_barrett, fb_raised_table, fn_raised_table, fb_raised_mont, fn_raised_mont, fb_great_modulus, fn_great_modulus, fb_great_base, fn_great_base, fb_great_size, fn_great_size, fb_great_raised, fn_great_raised, fb_great_has_mont, fn_great_has_mont, fb_great_tables, fn_great_tables, fb_great_ways, fn_great_ways, fb_great_rows, fn_great_rows, fb_great_rest, fn_great_rest, fb_great_kept, fn_great_kept, fb_great_reduced, fn_great_reduced, fb_great_plain, fn_great_plain, fb_great_barrett, fn_great_barrett, fb_great_table, fn_great_table, fb_great_mont, fn_great_mont, fb_has_mont_modulus, fn_has_mont_modulus, fb_has_mont_base, fn_has_mont_base, fb_has_mont_size, fn_has_mont_size, fb_has_mont_raised, fn_has_mont_raised, fb_has_mont_great, fn_has_mont_great, fb_has_mont_tables, fn_has_mont_tables, fb_has_mont_ways, fn_has_mont_ways, fb_has_mont_rows, fn_has_mont_rows, fb_has_mont_rest, fn_has_mont_rest, fb_has_mont_kept, fn_has_mont_kept, fb_has_mont_reduced, fn_has_mont_reduced, fb_has_mont_plain, fn_has_mont_plain, fb_has_mont_barrett, fn_has_mont_barrett, fb_has_mont_table, fn_has_mont_table, fb_has_mont_mont, fn_has_mont_mont, fb_tables_modulus, fn_tables_modulus, fb_tables_base, fn_tables_base, fb_tables_size, fn_tables_size, fb_tables_raised, fn_tables_raised, fb_tables_great, fn_tables_great, fb_tables_has_mont, fn_tables_has_mont, fb_tables_ways, fn_tables_ways, fb_tables_rows, fn_tables_rows, fb_tables_rest, fn_tables_rest, fb_tables_kept, fn_tables_kept, fb_tables_reduced, fn_tables_reduced, fb_tables_plain, fn_tables_plain, fb_tables_barrett, fn_tables_barrett, fb_tables_table, fn_tables_table, fb_tables_mont, fn_tables_mont, fb_ways_modulus, fn_ways_modulus, fb_ways_base, fn_ways_base, fb_ways_size, fn_ways_size, fb_ways_raised, fn_ways_raised, fb_ways_great, fn_ways_great, fb_ways_has_mont, fn_ways_has_mont, fb_ways_tables, fn_ways_tables, fb_ways_rows, fn_ways_rows, fb_ways_rest, fn_ways_rest, fb_ways_kept, fn_ways_kept, fb_ways_reduced, fn_ways_reduced, fb_ways_plain, fn_ways_plain, fb_ways_barrett, fn_ways_barrett, fb_ways_table, fn_ways_table, fb_ways_mont, fn_ways_mont, fb_rows_modulus, fn_rows_modulus, fb_rows_base, fn_rows_base, fb_rows_size, fn_rows_size, fb_rows_raised, fn_rows_raised, fb_rows_great, fn_rows_great, fb_rows_has_mont, fn_rows_has_mont, fb_rows_tables, fn_rows_tables, fb_rows_ways, fn_rows_ways, fb_rows_rest, fn_rows_rest, fb_rows_kept, fn_rows_kept, fb_rows_reduced, fn_rows_reduced, fb_rows_plain, fn_rows_plain, fb_rows_barrett, fn_rows_barrett, fb_rows_table, fn_rows_table, fb_rows_mont, fn_rows_mont, fb_rest_modulus, fn_rest_modulus, fb_rest_base, fn_rest_base, fb_rest_size, fn_rest_size, fb_rest_raised, fn_rest_raised, fb_rest_great, fn_rest_great, fb_rest_has_mont, fn_rest_has_mont, fb_rest_tables, fn_rest_tables, fb_rest_ways, fn_rest_ways, fb_rest_rows, fn_rest_rows, fb_rest_kept, fn_rest_kept, fb_rest_reduced, fn_rest_reduced, fb_rest_plain, fn_rest_plain, fb_rest_barrett, fn_rest_barrett, fb_rest_table, fn_rest_table, fb_rest_mont, fn_rest_mont, fb_kept_modulus, fn_kept_modulus, fb_kept_base, fn_kept_base, fb_kept_size, fn_kept_size, fb_kept_raised, fn_kept_raised, fb_kept_great, fn_kept_great, fb_kept_has_mont, fn_kept_has_mont, fb_kept_tables, fn_kept_tables, fb_kept_ways, fn_kept_ways, fb_kept_rows, fn_kept_rows, fb_kept_rest, fn_kept_rest, fb_kept_reduced, fn_kept_reduced, fb_kept_plain, fn_kept_plain, fb_kept_barrett, fn_kept_barrett, fb_kept_table, fn_kept_table, fb_kept_mont, fn_kept_mont, fb_reduced_modulus, fn_reduced_modulus, fb_reduced_base, fn_reduced_base, fb_reduced_size, fn_reduced_size, fb_reduced_raised, fn_reduced_raised, fb_reduced_great, fn_reduced_great, fb_reduced_has_mont, fn_reduced_has_mont, fb_reduced_tables, fn_reduced_tables, fb_reduced_ways, fn_reduced_ways, fb_reduced_rows, fn_reduced_rows, fb_reduced_rest, fn_reduced_rest, fb_reduced_kept, fn_reduced_kept, fb_reduced_plain, fn_reduced_plain, fb_reduced_barrett, fn_reduced_barrett, fb_reduced_table, fn_reduced_table, fb_reduced_mont, fn_reduced_mont, fb_plain_modulus, fn_plain_modulus, fb_plain_base, fn_plain_base, fb_plain_size, fn_plain_size, fb_plain_raised, fn_plain_raised, fb_plain_great, fn_plain_great, fb_plain_has_mont, fn_plain_has_mont, fb_plain_tables, fn_plain_tables, fb_plain_ways, fn_plain_ways, fb_plain_rows, fn_plain_rows, fb_plain_rest, fn_plain_rest, fb_plain_kept, fn_plain_kept, fb_plain_reduced, fn_plain_reduced, fb_plain_barrett, fn_plain_barrett, fb_plain_table, fn_plain_table, fb_plain_mont, fn_plain_mont, fb_barrett_modulus, fn_barrett_modulus, fb_barrett_base, fn_barrett_base, fb_barrett_size, fn_barrett_size, fb_barrett_raised, fn_barrett_raised, fb_barrett_great, fn_barrett_great, fb_barrett_has_mont, fn_barrett_has_mont, fb_barrett_tables, fn_barrett_tables, fb_barrett_ways, fn_barrett_ways, fb_barrett_rows, fn_barrett_rows, fb_barrett_rest, fn_barrett_rest, fb_barrett_kept, fn_barrett_kept, fb_barrett_reduced, fn_barrett_reduced, fb_barrett_plain, fn_barrett_plain, fb_barrett_table, fn_barrett_table, fb_barrett_mont, fn_barrett_mont, fb_table_modulus, fn_table_modulus, fb_table_base, fn_table_base, fb_table_size, fn_table_size, fb_table_raised, fn_table_raised, fb_table_great, fn_table_great, fb_table_has_mont, fn_table_has_mont, fb_table_tables, fn_table_tables, fb_table_ways, fn_table_ways, fb_table_rows, fn_table_rows, fb_table_rest, fn_table_rest, fb_table_kept, fn_table_kept, fb_table_reduced, fn_table_reduced, fb_table_plain, fn_table_plain, fb_table_barrett, fn_table_barrett, fb_table_mont, fn_table_mont, fb_mont_modulus, fn_mont_modulus, fb_mont_base, fn_mont_base, fb_mont_size, fn_mont_size, fb_mont_raised, fn_mont_raised, fb_mont_great, fn_mont_great, fb_mont_has_mont, fn_mont_has_mont, fb_mont_tables, fn_mont_tables, fb_mont_ways, fn_mont_ways, fb_mont_rows, fn_mont_rows, fb_mont_rest, fn_mont_rest, fb_mont_kept, fn_mont_kept, fb_mont_reduced, fn_mont_reduced, fb_mont_plain, fn_mont_plain, fb_mont_barrett, fn_mont_barrett, fb_mont_table, fn_mont_table, zattr, zmeth, zmethK, sfld, attrD_obj, attrD_ref, putD_nil, putD_cons, lk_nil, lk_cons, in_one, isObj_obj, mkCK, kwC, defC, zdget, zcallL, zblK, Option.map_some])
/-! ### the mathematics of a context -/
def szF (b n : Int) : Nat := (digs b n).length
def gtF (b n : Int) : Int := b ^ szF b n
theorem digs_lt {b n : Int} (hb : 2 ≤ b) (hn : 0 ≤ n) : n < b ^ szF b n := by
  have h := vals_lt (b := b) (by omega) (xs := digs b n) (digs_mem hb)
  rw [vals_digs hb hn] at h
  exact h
theorem digs_ge {b n : Int} (hb : 2 ≤ b) : 0 < n → 1 ≤ szF b n ∧ b ^ (szF b n - 1) ≤ n := by
  refine digs_ind hb (P := fun n => 0 < n → 1 ≤ szF b n ∧ b ^ (szF b n - 1) ≤ n) (fun n h h' => by omega) (fun n h ih _ => ?_) n
  have e : szF b n = szF b (n / b) + 1 := by
    show (digs b n).length = _
    rw [digs_pos hb h]
    rfl
  refine ⟨by omega, ?_⟩
  rw [e, Nat.add_sub_cancel]
  by_cases hq : 0 < n / b
  · obtain ⟨h1, h2⟩ := ih hq
    have h3 := Int.ediv_mul_le n (show b ≠ 0 by omega)
    have h4 : b ^ szF b (n / b) = b ^ (szF b (n / b) - 1) * b := by
      obtain ⟨k, hk⟩ : ∃ k, szF b (n / b) = k + 1 := ⟨szF b (n / b) - 1, by omega⟩
      rw [hk, Nat.add_sub_cancel, Int.pow_succ]
    rw [h4]
    exact Int.le_trans (Int.mul_le_mul_of_nonneg_right h2 (by omega)) h3
  · have : szF b (n / b) = 0 := by
      show (digs b (n / b)).length = 0
      rw [digs_zero (by omega)]
      rfl
    rw [this, Int.pow_zero]
    omega
/-- a base and a modulus that may be -/
def CtxB (b n : Int) : Prop := 2 ≤ b ∧ b ≤ 1000000 ∧ 2 ≤ n ∧ n ≤ 1000000000000000000000000000000000000000000000000000000000000
theorem CtxB.sz {b n : Int} (h : CtxB b n) : 1 ≤ szF b n ∧ szF b n ≤ 200 := by
  obtain ⟨h1, h2, h3, h4⟩ := h
  refine ⟨(digs_ge h1 (by omega)).1, digs_len h1 200 n ?_⟩
  exact Int.lt_of_le_of_lt h4 (by decide +kernel)
theorem CtxB.pw {b n : Int} (h : CtxB b n) {k : Nat} (hk : k ≤ 800) : (b ^ k).natAbs < 2 ^ 16001 := by
  have := b_pow (by have := h.1; omega) h.2.1 k
  exact abs_more this (by omega)
theorem CtxB.gt {b n : Int} (h : CtxB b n) : n < gtF b n := digs_lt h.1 (by have := h.2.2.1; omega)
theorem pow_pos' {b : Int} (h : 0 < b) (k : Nat) : 0 < b ^ k := Int.pow_pos h
/-- doubled again and again below -/
def dblF : Nat → Int → Int → List Int
  | 0, _, _ => []
  | k + 1, x, g => if x < g then x :: dblF k (x * 2) g else []
theorem dblF_more : ∀ (k j : Nat) (x g : Int), 0 < x → (g - x).toNat ≤ k → (g - x).toNat ≤ j → dblF k x g = dblF j x g
  | 0, 0, _, _, _, _, _ => rfl
  | 0, j + 1, x, g, _, h, _ => by
    show [] = if x < g then _ else _
    rw [if_neg (by omega)]
  | k + 1, 0, x, g, _, _, h => by
    show (if x < g then _ else _) = []
    rw [if_neg (by omega)]
  | k + 1, j + 1, x, g, h0, h1, h2 => by
    show (if x < g then _ else _) = if x < g then _ else _
    by_cases h : x < g
    · rw [if_pos h, if_pos h, dblF_more k j (x * 2) g (by omega) (by omega) (by omega)]
    · rw [if_neg h, if_neg h]
def dbls (x g : Int) : List Int := dblF (g - x).toNat x g
theorem dbls_step {x g : Int} (h0 : 0 < x) (h : x < g) : dbls x g = x :: dbls (x * 2) g := by
  unfold dbls
  obtain ⟨k, hk⟩ : ∃ k, (g - x).toNat = k + 1 := ⟨(g - x).toNat - 1, by omega⟩
  rw [hk]
  show (if x < g then x :: dblF k (x * 2) g else []) = _
  rw [if_pos h, dblF_more k (g - x * 2).toNat (x * 2) g (by omega) (by omega) (by omega)]
theorem dbls_end {x g : Int} (h : g ≤ x) : dbls x g = [] := by
  unfold dbls
  rw [show (g - x).toNat = 0 by omega]
  rfl
theorem dbls_len : ∀ (k : Nat) (x g : Int), 0 < x → g ≤ x * 2 ^ k → (dbls x g).length ≤ k
  | 0, x, g, h0, h => by
    rw [dbls_end (by omega)]
    exact Nat.le_refl _
  | k + 1, x, g, h0, h => by
    by_cases hx : x < g
    · rw [dbls_step h0 hx, List.length_cons]
      refine Nat.succ_le_succ (dbls_len k (x * 2) g (by omega) ?_)
      rw [Int.mul_assoc, ← Int.pow_succ']
      exact h
    · rw [dbls_end (by omega)]
      exact Nat.zero_le _
/-- the number below the base that makes the modulus and 1 come to 0 -/
def smF (b n : Int) : Int := (((List.range b.toNat).find? fun s : Nat => (n * (s : Int) + 1) % b == 0).getD 0 : Nat)
theorem sm_uniq {b n s t : Int} (hb : 0 < b) (s0 : 0 ≤ s) (s1 : s < b) (t0 : 0 ≤ t) (t1 : t < b) (hs : (n * s + 1) % b = 0) (ht : (n * t + 1) % b = 0) : s = t := by
  have d1 := Int.dvd_of_emod_eq_zero hs
  have d2 := Int.dvd_of_emod_eq_zero ht
  -- b divides s (n t + 1) - t (n s + 1) = s - t
  have d3 : b ∣ s - t := by
    have := Int.dvd_sub (Int.dvd_trans d2 (Int.dvd_mul_left s _)) (Int.dvd_trans d1 (Int.dvd_mul_left t _))
    rwa [show s * (n * t + 1) - t * (n * s + 1) = s - t by grind] at this
  have h1 : s - t = 0 ∨ b ≤ (s - t).natAbs := by
    by_cases e : s - t = 0
    · exact .inl e
    · right
      have := Int.natAbs_dvd_natAbs.mpr d3
      have := Nat.le_of_dvd (by omega) this
      omega
  omega
theorem smF_eq {b n s : Int} (hb : 0 < b) (s0 : 0 ≤ s) (s1 : s < b) (hs : (n * s + 1) % b = 0) : smF b n = s := by
  unfold smF
  have hm : s.toNat ∈ List.range b.toNat := List.mem_range.mpr (by omega)
  cases hf : (List.range b.toNat).find? (fun s : Nat => (n * (s : Int) + 1) % b == 0) with
  | none =>
    have := List.find?_eq_none.mp hf _ hm
    rw [show ((s.toNat : Nat) : Int) = s by omega, hs] at this
    exact (this rfl).elim
  | some t =>
    have h1 := List.find?_some hf
    have h2 := List.mem_range.mp (List.mem_of_find?_eq_some hf)
    show ((t : Nat) : Int) = s
    exact sm_uniq hb (Int.natCast_nonneg t) (by omega) s0 s1 (by simpa using h1) hs
theorem gcd_mod (n M : Int) : Int.gcd (n % M) M = Int.gcd n M := by
  have e := Int.mul_ediv_add_emod n M
  have e2 : n % M = n + -(n / M) * M := by rw [Int.neg_mul, Int.mul_comm (n / M) M]; omega
  rw [Int.gcd_comm, e2, Int.gcd_add_mul_right_right, Int.gcd_comm]
/-- what is kept -/
def pwl (b : Int) (k : Nat) : List Int := (List.range k).map fun i => b ^ i
def rst (b n : Int) : List Int := (List.range (szF b n)).map fun i => b ^ (szF b n + i) % n
def tabF (b n : Int) : List D := [.int (gtF b n * gtF b n / n), .tup ((rst b n).map .int), .tup ((dbls n (gtF b n)).map .int)] ++ (if Int.gcd n b = 1 then [.int (smF b n), .int (gtF b n * gtF b n % n)] else [.non, .non])
def ctxF (b n : Int) : List (Str × D) := [("modulus", .int n), ("base", .int b), ("size", .int (szF b n)), ("raised", .tup ((pwl b (2 * szF b n + 1)).map .int)), ("great", .int (gtF b n)), ("has_mont", .bl (decide (Int.gcd n b = 1))), ("tables", .tup (tabF b n))]
def ctxD (cl : Str → Addr) (b n : Int) : D := .obj (cl "Context") (ctxF b n)
/-! ### contexts.py -/
def b_check_modulus : ZTS :=
  (sif (tor (tnot (tvl (zcall c_is_whole (acons (zv 0) anil)))) (tnot (tvl (zchn oLe oLe (zc (.int 2)) (zv 0) (zc (.int 1000000000000000000000000000000000000000000000000000000000000)))))) snever snil)
def c_check_modulus : ZSp := fun ds m Q _ => ∃ n : Int, ds = [.int n] ∧ 2 ≤ n ∧ n ≤ 1000000000000000000000000000000000000000000000000000000000000 ∧ Q .non m
theorem w_check_modulus (ds : List D) (m : Mu) (Q : QE) (E : QX) (h : c_check_modulus ds m Q E) : ds.length = 1 ∧ b_check_modulus ⟨fun _ m => Q .non m, Q, fun x _ m => E x m⟩ (ds.map some ++ List.replicate (1 - ds.length) none) m := by
  obtain ⟨n, rfl, h0, h1, h⟩ := h
  refine ⟨rfl, ?_⟩
  unfold b_check_modulus
  walk_at "zs"
  simp only [h0, h1, if_true, decide_true, Bool.not_true, Bool.false_eq_true, if_false]
  exact h
theorem pwl_snoc {b : Int} {k : Nat} : pwl b (k + 1) = pwl b k ++ [b ^ k] := by unfold pwl; rw [List.range_succ, List.map_append]; rfl
theorem pwl_len {b : Int} {k : Nat} : (pwl b k).length = k := by unfold pwl; simp
theorem pwl_last {b : Int} {k : Nat} : (pwl b (k + 1)).getLast? = some (b ^ k) := by rw [pwl_snoc]; simp
theorem pwl_get {b : Int} {k i : Nat} (h : i < k) : (pwl b k).getD i 0 = b ^ i := by unfold pwl; simp [List.getD_eq_getElem?_getD, h]
def b_powers_to : ZTS :=
  (sseq (sset (zlst (acons (zc (.int 1)) anil)) 2)
    (sseq (swhile (tvl (zop oLe (zbl (acons (zv 2) anil) cLen) (zv 1))) (sexp (zapp (zv 2) (acons (zop oMul (zop oIx (zv 2) (zun oNeg (zc (.int 1)))) (zv 0)) anil))))
    (sret (zbl (acons (zv 2) anil) cTuple))))
def c_powers_to : ZSp := fun ds m Q _ => ∃ (b : Int) (k : Nat), ds = [.int b, .int (k : Int)] ∧ 2 ≤ b ∧ b ≤ 1000000 ∧ k ≤ 500 ∧ ∀ m', Ext m m' → Q (.tup ((pwl b (k + 1)).map .int)) m'
theorem w_powers_to (ds : List D) (m : Mu) (Q : QE) (E : QX) (h : c_powers_to ds m Q E) : ds.length = 2 ∧ b_powers_to ⟨fun _ m => Q .non m, Q, fun x _ m => E x m⟩ (ds.map some ++ List.replicate (3 - ds.length) none) m := by
  obtain ⟨b, k, rfl, b0, b1, hk, h⟩ := h
  refine ⟨rfl, ?_⟩
  unfold b_powers_to
  walk_at "zs"
  intro p np
  refine while_i (fun j ρ m' => ∃ i, j = k - i ∧ i ≤ k ∧ ρ = [some (.int b), some (.int (k : Int)), some (.ref p)] ∧ m' = updM m p (.lst ((pwl b (i + 1)).map .int))) k ⟨0, rfl, Nat.zero_le _, rfl, by unfold pwl; simp⟩ ?_
  rintro j ρ m' ⟨i, rfl, hi, rfl, rfl⟩
  have pw := b_pow (show (0 : Int) ≤ b by omega) b1 i
  walk_at "zs"
  rw [List.length_map, pwl_len]
  by_cases hlt : i + 1 ≤ k
  · rw [if_pos (by omega), atI_last_int pwl_last]
    walk_at "zs"
    refine ⟨⟨_, rfl⟩, mul_ok (a := 20001) (b := 30) (abs_more pw (by omega)) (by omega) (by decide), by rw [List.length_map, pwl_len, sizeLine_eq]; omega, k - (i + 1), by omega, i + 1, rfl, hlt, ?_⟩
    rw [pwl_snoc (k := i + 1), List.map_append, Int.pow_succ]
    rfl
  · rw [if_neg (by omega)]
    have : i = k := by omega
    subst this
    exact h _ (Ext.upd np _)
def b_doubled_below : ZTS :=
  (sseq (spar 2 3 (acons (zlst anil) (acons (zv 0) anil)))
    (sseq (swhile (tvl (zop oLt (zv 3) (zv 1))) (sseq (sexp (zapp (zv 2) (acons (zv 3) anil)))
    (saug 3 (zc (.int 2)) oMul)))
    (sret (zbl (acons (zv 2) anil) cTuple))))
def c_doubled_below : ZSp := fun ds m Q _ => ∃ (n g : Int), ds = [.int n, .int g] ∧ 0 < n ∧ g < 2 ^ 20000 ∧ ∀ m', Ext m m' → Q (.tup ((dbls n g).map .int)) m'
theorem w_doubled_below (ds : List D) (m : Mu) (Q : QE) (E : QX) (h : c_doubled_below ds m Q E) : ds.length = 2 ∧ b_doubled_below ⟨fun _ m => Q .non m, Q, fun x _ m => E x m⟩ (ds.map some ++ List.replicate (4 - ds.length) none) m := by
  obtain ⟨n, g, rfl, n0, g1, h⟩ := h
  refine ⟨rfl, ?_⟩
  unfold b_doubled_below
  walk_at "zs"
  intro p np
  have dl : (dbls n g).length ≤ 20000 := dbls_len 20000 n g n0 (by
    have h2 : (0 : Int) < 2 ^ 20000 := Int.pow_pos (by decide)
    have := Int.mul_le_mul_of_nonneg_right (show (1 : Int) ≤ n by omega) (show (0 : Int) ≤ 2 ^ 20000 by omega)
    omega)
  refine while_i (fun j ρ m' => ∃ (x : Int) (acc : List Int), j = (g - x).toNat ∧ 0 < x ∧ acc ++ dbls x g = dbls n g ∧ ρ = [some (.int n), some (.int g), some (.ref p), some (.int x)] ∧ m' = updM m p (.lst (acc.map .int))) (g - n).toNat ⟨n, [], rfl, n0, rfl, rfl, rfl⟩ ?_
  rintro j ρ m' ⟨x, acc, rfl, x0, ha, rfl, rfl⟩
  walk_at "zs"
  by_cases hlt : x < g
  · rw [if_pos hlt]
    rw [dbls_step x0 hlt] at ha
    have la := congrArg List.length ha
    rw [List.length_append, List.length_cons] at la
    have xs : x.natAbs < 2 ^ 20000 := abs_lt (by omega) (by omega)
    refine ⟨⟨_, rfl⟩, by rw [List.length_map, sizeLine_eq]; omega, mul_ok (a := 20000) (b := 10) xs (by decide) (by decide), (g - x * 2).toNat, by omega, x * 2, acc ++ [x], rfl, by omega, by rw [List.append_assoc]; exact ha, rfl, by rw [List.map_append]; rfl⟩
  · rw [if_neg hlt]
    rw [dbls_end (by omega), List.append_nil] at ha
    rw [ha]
    exact h _ (Ext.upd np _)
def b_small_of : ZTS :=
  (sseq (sasg (zop oIx (zlc (iseq (zcall c_rows_of (acons (zop oMod (zv 0) (zv 1)) (acons (zv 1) anil)))) (gn 5) (tvl (zop oGt (zop oIx (zv 5) (zc (.int 0))) (zc (.int 0)))) (zv 5) [5]) (zun oNeg (zc (.int 1)))) (gtup 3 (gcons (gn 2) (gcons (gn 3) (gcons (gn 4) gnil)))))
    (sret (zop oMod (zun oNeg (zv 3)) (zv 1))))
def c_small_of : ZSp := fun ds m Q _ => ∃ (b n : Int), ds = [.int n, .int b] ∧ CtxB b n ∧ Int.gcd n b = 1 ∧ Q (.int (smF b n)) m
theorem w_small_of (ds : List D) (m : Mu) (Q : QE) (E : QX) (h : c_small_of ds m Q E) : ds.length = 2 ∧ b_small_of ⟨fun _ m => Q .non m, Q, fun x _ m => E x m⟩ (ds.map some ++ List.replicate (6 - ds.length) none) m := by
  obtain ⟨b, n, rfl, hc, hg, h⟩ := h
  refine ⟨rfl, ?_⟩
  obtain ⟨h1, h2, h3, h4⟩ := id hc
  have b7 : b < 2 ^ 7000 := small_lt h2
  have r0 := Int.emod_nonneg n (show b ≠ 0 by omega)
  have r1 := Int.emod_lt_of_pos n (show 0 < b by omega)
  unfold b_small_of
  walk_at "zs"
  rw [comp_e]
  walk_at "zs"
  refine ⟨by omega, n % b, b, rfl, r0, by omega, by omega, b7, .inr (by omega), fun rows hr => ?_⟩
  obtain ⟨pre, l, e, hrw, l0, e0, lg, lc, ls, hl⟩ := hr
  walk_at "zs"
  have el : rows.length = pre.length + 2 := by rw [hrw]; simp
  refine comp_filterE (fun i => tri (rows.getD i (0, 0, 0))) (fun i => decide (0 < (rows.getD i (0, 0, 0)).1)) ((pre.filter fun r => decide (0 < r.1)).map tri ++ [tri l]) (by show (rows.map tri).length ≤ _; rw [List.length_map, sizeLine_eq]; omega) trivial (fun i hi K1 K2 k1 k2 => ?_) ?_ ?_
  · have hi' : i < rows.length := by
      have h3 : i < (rows.map tri).length := hi
      rwa [List.length_map] at h3
    show gn 5 ((rows.map tri).getD i .non) _ _ _ _
    rw [getD_tri hi']
    walk_at "zs"
    by_cases hp : 0 < (rows.getD i (0, 0, 0)).1
    · rw [if_pos hp]
      exact k1 (decide_eq_true hp)
    · rw [if_neg hp]
      exact k2 (decide_eq_false hp)
  · have key : ∀ (xs : List Tri), ((List.range xs.length).filter fun i => decide (0 < (xs.getD i (0, 0, 0)).1)).map (fun i => tri (xs.getD i (0, 0, 0))) = (xs.filter fun r => decide (0 < r.1)).map tri := by
      intro xs
      have e1 : (List.range xs.length).map (fun i => xs.getD i (0, 0, 0)) = xs := by
        have := range_getD xs (0, 0, 0) (fun y => y)
        rwa [List.map_id'] at this
      calc _ = (((List.range xs.length).filter fun i => decide (0 < (xs.getD i (0, 0, 0)).1)).map (fun i => xs.getD i (0, 0, 0))).map tri := by rw [List.map_map]; rfl
        _ = (((List.range xs.length).map (fun i => xs.getD i (0, 0, 0))).filter fun r => decide (0 < r.1)).map tri := by rw [List.filter_map]; rfl
        _ = _ := by rw [e1]
    show ((List.range (rows.map tri).length).filter _).map _ = _
    rw [List.length_map, key, hrw, List.filter_append, List.filter_append, List.filter_cons_of_pos (by simpa using l0), List.filter_cons_of_neg (by rw [e0]; decide)]
    simp
  · walk_at "zs"
    rw [atI_last]
    unfold tri
    walk_at "zs"
    refine ⟨by omega, ?_⟩
    have hg2 : Int.gcd (n % b) b = 1 := by rw [gcd_mod]; exact hg
    have hs : (n * (-l.2.1 % b) + 1) % b = 0 := by
      rw [lg, hg2] at lc
      have e2 := Int.emod_add_mul_ediv n b
      have e3 := Int.emod_add_mul_ediv (-l.2.1) b
      refine Int.emod_eq_zero_of_dvd ⟨l.2.2 - n / b * l.2.1 - n * (-l.2.1 / b), ?_⟩
      have e4 : -l.2.1 % b = -l.2.1 - b * (-l.2.1 / b) := by omega
      have e5 : n % b = n - b * (n / b) := by omega
      rw [e4]
      rw [e5] at lc
      have lc' : (1 : Int) = l.2.1 * (n - b * (n / b)) + l.2.2 * b := by exact_mod_cast lc
      grind
    rw [← smF_eq (b := b) (n := n) (by omega) (Int.emod_nonneg _ (by omega)) (Int.emod_lt_of_pos _ (by omega)) hs]
    exact h
abbrev ck_limbs_of : List D → ZSp := kwC c_limbs_of0 1 1
abbrev c_limbs_of : ZSp := defC c_limbs_of0 [.int 10]
theorem cut_mid {xs : List D} {i j : Nat} (h : i ≤ j) (hj : j ≤ xs.length) : cutG xs (some (i : Int)) (some (j : Int)) = (xs.drop i).take (j - i) := by
  unfold cutG
  rw [HT.sIx_nat, HT.sIx_nat, Nat.min_eq_left (by omega), Nat.min_eq_left (by omega)]
def uppr (b : Int) (s : Nat) : List Int := (List.range s).map fun i => b ^ (s + i)
theorem cut_pwl {b : Int} {s : Nat} : cutG ((pwl b (2 * s + 1)).map D.int) (some ((s : Nat) : Int)) (some ((2 * s : Nat) : Int)) = (uppr b s).map .int := by
  rw [cut_mid (by omega) (by rw [List.length_map, pwl_len]; omega), ← List.map_drop, ← List.map_take]
  congr 1
  unfold pwl uppr
  apply List.ext_getElem
  · simp
    omega
  · intro i h1 h2
    simp
/-- all but one cell stands -/
def ExtB (p : Addr) (m m' : Mu) : Prop := ∀ b, b ≠ p → m b ≠ none → m' b = m b
def b_ctx_init (cl : Str → Addr) : ZTS :=
  (sseq (sexp (zcall c_check_modulus (acons (zv 1) anil)))
    (sseq (sexp (zcall c_check_base (acons (zv 2) anil)))
    (sseq (sfld [cl "Context"] (zv 0) (zv 1) "modulus")
    (sseq (sfld [cl "Context"] (zv 0) (zv 2) "base")
    (sseq (sfld [cl "Context"] (zv 0) (zbl (acons (zcallK ck_limbs_of (acons (zv 1) anil) (acons (zv 2) anil)) anil) cLen) "size")
    (sseq (sfld [cl "Context"] (zv 0) (zcall c_powers_to (acons (zv 2) (acons (zop oMul (zc (.int 2)) (zattr [cl "Context"] "size" (zv 0))) anil))) "raised")
    (sseq (sfld [cl "Context"] (zv 0) (zop oIx (zattr [cl "Context"] "raised" (zv 0)) (zattr [cl "Context"] "size" (zv 0))) "great")
    (sseq (sfld [cl "Context"] (zv 0) (zop oEq (zcall c_gcd_of (acons (zv 1) (acons (zv 2) anil))) (zc (.int 1))) "has_mont")
    (sseq (sset (zop oMul (zattr [cl "Context"] "great" (zv 0)) (zattr [cl "Context"] "great" (zv 0))) 3)
    (sseq (sset (zbl (acons (zlc (iseq (zsl (zattr [cl "Context"] "raised" (zv 0)) (osome (zattr [cl "Context"] "size" (zv 0))) (osome (zop oMul (zc (.int 2)) (zattr [cl "Context"] "size" (zv 0)))))) (gn 5) tyes (zop oMod (zv 5) (zv 1)) [5]) anil) cTuple) 4)
    (sseq (sset (zif (ttr (zattr [cl "Context"] "has_mont" (zv 0))) (ztup (acons (zcall c_small_of (acons (zv 1) (acons (zv 2) anil))) (acons (zop oMod (zv 3) (zv 1)) anil))) (ztup (acons (zc .non) (acons (zc .non) anil)))) 6)
    (sfld [cl "Context"] (zv 0) (zop oAdd (ztup (acons (zop oFdv (zv 3) (zv 1)) (acons (zv 4) (acons (zcall c_doubled_below (acons (zv 1) (acons (zattr [cl "Context"] "great" (zv 0)) anil))) anil)))) (zv 6)) "tables"))))))))))))
def c_ctx_init (cl : Str → Addr) : ZSp := fun ds m Q _ => ∃ (p : Addr) (b n : Int), ds = [.ref p, .int n, .int b] ∧ CtxB b n ∧ m p = some (.ins (cl "Context") []) ∧ ∀ m', ExtB p m m' → m' p = some (.ins (cl "Context") (ctxF b n)) → Q .non m'
theorem w_ctx_init (cl : Str → Addr) (ds : List D) (m : Mu) (Q : QE) (E : QX) (h : c_ctx_init cl ds m Q E) : ds.length = 3 ∧ b_ctx_init cl ⟨fun _ m => Q .non m, Q, fun x _ m => E x m⟩ (ds.map some ++ List.replicate (7 - ds.length) none) m := by
  obtain ⟨p, b, n, rfl, hc, hp, h⟩ := h
  refine ⟨rfl, ?_⟩
  obtain ⟨h1, h2, h3, h4⟩ := id hc
  obtain ⟨z1, z2⟩ := hc.sz
  unfold b_ctx_init
  walk_at "zs"
  refine ⟨n, rfl, h3, h4, ?_⟩
  walk_at "zs"
  refine ⟨b, rfl, h1, h2, ?_⟩
  walk_at "zs"
  rw [hp]
  walk_at "zs"
  refine ⟨by decide, by decide, n, b, rfl, by omega, Int.lt_of_le_of_lt h4 (by decide +kernel), h1, h2, ?_⟩
  walk_at "zs"
  refine ⟨by decide, mul_ok (a := 5) (b := 20) (by decide) (by rw [List.length_map]; show (((digs b n).length : Nat) : Int).natAbs < _; have : (digs b n).length ≤ 200 := z2; omega) (by decide), ?_⟩
  rw [List.length_map, show (2 : Int) * (((digs b n).length : Nat) : Int) = ((2 * szF b n : Nat) : Int) by unfold szF; omega]
  refine ⟨b, 2 * szF b n, rfl, h1, h2, by omega, fun m1 x1 => ?_⟩
  walk_at "zs"
  rw [x1.at (p := p) (o := _) updM_same]
  walk_at "zs"
  have hat : atI ((pwl b (2 * szF b n + 1)).map D.int) (((digs b n).length : Nat) : Int) = some (.int (gtF b n)) := by
    rw [at_ints_getD (k := (digs b n).length) (by rw [pwl_len]; unfold szF; omega), pwl_get (by unfold szF; omega)]
    rfl
  rw [hat]
  walk_at "zs"
  refine ⟨by decide, by decide, n, b, rfl, by omega, Int.lt_of_le_of_lt h4 (by decide +kernel), by omega, small_lt h2, .inr (by omega), ?_⟩
  walk_at "zs"
  have gs : (gtF b n).natAbs < 2 ^ 16001 := hc.pw (by omega)
  refine ⟨by decide, mul_ok gs gs (by decide), ?_⟩
  rw [comp_e]
  walk_at "zs"
  have e5 : ∀ x : Int, decide ((Int.gcd n b : Int) = 1) = decide (Int.gcd n b = 1) := fun _ => decide_eq_decide.mpr (by omega)
  rw [e5 0]
  refine ⟨mul_ok (a := 5) (b := 20) (by decide) (by have : (digs b n).length ≤ 200 := z2; omega) (by decide), ?_⟩
  have ec : cutG ((pwl b (2 * szF b n + 1)).map D.int) (some (((digs b n).length : Nat) : Int)) (some (2 * (((digs b n).length : Nat) : Int))) = (uppr b (szF b n)).map .int := by
    rw [show (2 : Int) * (((digs b n).length : Nat) : Int) = ((2 * szF b n : Nat) : Int) by unfold szF; omega]
    exact cut_pwl
  rw [ec]
  have ul : (uppr b (szF b n)).length = szF b n := by unfold uppr; simp
  refine comp_mapE (fun i => .int ((uppr b (szF b n)).getD i 0 % n)) ((rst b n).map .int) (by show ((uppr b (szF b n)).map D.int).length ≤ _; rw [List.length_map, ul, sizeLine_eq]; omega) trivial (fun i hi K1 K2 hK => ?_) ?_ ?_
  · have hi' := lt_len hi
    show gn 5 (((uppr b (szF b n)).map D.int).getD i .non) _ _ _ _
    rw [getD_ints, if_pos hi']
    walk_at "zs"
    exact ⟨by omega, hK⟩
  · show (List.range ((uppr b (szF b n)).map D.int).length).map _ = _
    rw [List.length_map, range_getD (uppr b (szF b n)) 0 (fun y => D.int (y % n))]
    unfold uppr rst
    rw [List.map_map, List.map_map]
    rfl
  · walk_at "zs"
    have std : ∀ {o2 o3 : MO} {m2 : Mu}, Ext (updM m1 p o2) m2 → ∀ c, c ≠ p → m c ≠ none → updM m2 p o3 c = m c := fun {o2 o3 m2} x2 c hcp hcm => by
      have e1 : m1 c = m c := by rw [x1 c (by rw [updM_ne hcp]; exact hcm), updM_ne hcp]
      rw [updM_ne hcp, x2 c (by rw [updM_ne hcp, e1]; exact hcm), updM_ne hcp, e1]
    have fin : ∀ m1 : Mu, (∀ b, b ≠ p → m b ≠ none → m1 b = m b) → m1 p = some (.ins (cl "Context") (ctxF b n)) → Q .non m1 := fun m1 a b => h m1 a b
    by_cases hg : Int.gcd n b = 1
    · rw [if_pos hg]
      refine ⟨b, n, rfl, hc, hg, ?_⟩
      walk_at "zs"
      refine ⟨by omega, small_fdv (by omega) (Int.lt_of_le_of_lt h4 (by decide +kernel)), n, gtF b n, rfl, by omega, lt_abs (abs_more gs (by decide)), fun m2 x2 => ?_⟩
      walk_at "zs"
      rw [x2.at (p := p) (o := _) updM_same]
      walk_at "zs"
      refine ⟨by decide, fin _ (fun c hcp hcm => ?_) ?_⟩
      · exact std x2 c hcp hcm
      · rw [updM_same]
        unfold ctxF tabF
        rw [if_pos hg]
        rfl
    · rw [if_neg hg]
      refine ⟨small_fdv (by omega) (Int.lt_of_le_of_lt h4 (by decide +kernel)), n, gtF b n, rfl, by omega, lt_abs (abs_more gs (by decide)), fun m2 x2 => ?_⟩
      walk_at "zs"
      rw [x2.at (p := p) (o := _) updM_same]
      walk_at "zs"
      refine ⟨by decide, fin _ (fun c hcp hcm => ?_) ?_⟩
      · exact std x2 c hcp hcm
      · rw [updM_same]
        unfold ctxF tabF
        rw [if_neg hg]
        rfl
def b_ctx_ways (cl : Str → Addr) : ZTS :=
  (sseq (sif (ttr (zattr [cl "Context"] "has_mont" (zv 0))) (sret (ztup (acons (zc (.str "plain")) (acons (zc (.str "barrett")) (acons (zc (.str "table")) (acons (zc (.str "mont")) anil)))))) snil)
    (sret (ztup (acons (zc (.str "plain")) (acons (zc (.str "barrett")) (acons (zc (.str "table")) anil))))))
def waysF (b n : Int) : List D := if Int.gcd n b = 1 then [.str "plain", .str "barrett", .str "table", .str "mont"] else [.str "plain", .str "barrett", .str "table"]
def c_ctx_ways (cl : Str → Addr) : ZSp := fun ds m Q _ => ∃ (b n : Int), ds = [ctxD cl b n] ∧ Q (.tup (waysF b n)) m
theorem w_ctx_ways (cl : Str → Addr) (ds : List D) (m : Mu) (Q : QE) (E : QX) (h : c_ctx_ways cl ds m Q E) : ds.length = 1 ∧ b_ctx_ways cl ⟨fun _ m => Q .non m, Q, fun x _ m => E x m⟩ (ds.map some ++ List.replicate (1 - ds.length) none) m := by
  obtain ⟨b, n, rfl, h⟩ := h
  refine ⟨rfl, ?_⟩
  unfold b_ctx_ways ctxD ctxF
  walk_at "zs"
  unfold waysF at h
  by_cases hg : Int.gcd n b = 1
  · rw [if_pos hg] at h ⊢
    exact h
  · rw [if_neg hg] at h ⊢
    exact h
def tab_WALKS (cl : Str → Addr) : List (Str × D) := [("plain", .ref (cl "plain_rows")), ("barrett", .ref (cl "barrett_rows")), ("table", .ref (cl "table_rows")), ("mont", .ref (cl "mont_rows"))]
def b_ctx_rows (cl : Str → Addr) (ws : List (Addr × ZSp)) : ZTS :=
  (sseq (sif (tor (tnot (tvl (zcall c_is_whole (acons (zv 1) anil)))) (tnot (tvl (zchn oLe oLt (zc (.int 0)) (zv 1) (zop oMul (zattr [cl "Context"] "great" (zv 0)) (zattr [cl "Context"] "great" (zv 0))))))) snever snil)
    (sseq (sif (tor (tnot (tvl (zisi .str (zv 2)))) (tvl (zop (oIn true) (zv 2) (zmeth (cl "Context") "ways" (c_ctx_ways cl) (zv 0) anil)))) snever snil)
    (sseq (sset (zdget (tab_WALKS cl) (zv 2)) 3)
    (sret (zbl (acons (zcallL 3 ws (acons (zv 0) (acons (zv 1) anil))) anil) cTuple)))))
/-- a way that the context has, and the def that walks it -/
def WayF (cl : Str → Addr) (b n : Int) (w : Str) (f : Addr) : Prop := inD (.str w) (waysF b n) = true ∧ (tab_WALKS cl).lookup w = some (.ref f)
def c_ctx_rows (cl : Str → Addr) (ws : List (Addr × ZSp)) : ZSp := fun ds m Q E => ∃ (b n k : Int) (w : Str) (f : Addr) (c : ZSp), ds = [ctxD cl b n, .int k, .str w] ∧ CtxB b n ∧ 0 ≤ k ∧ k < gtF b n * gtF b n ∧ WayF cl b n w f ∧ (f, c) ∈ ws ∧ c [ctxD cl b n, .int k] m (fun d m1 => cTuple [d] m1 Q) E
theorem waysF_flat (b n : Int) : (waysF b n).all flatD = true := by unfold waysF; split <;> rfl
theorem w_ctx_rows (cl : Str → Addr) (ws : List (Addr × ZSp)) (ds : List D) (m : Mu) (Q : QE) (E : QX) (h : c_ctx_rows cl ws ds m Q E) : ds.length = 3 ∧ b_ctx_rows cl ws ⟨fun _ m => Q .non m, Q, fun x _ m => E x m⟩ (ds.map some ++ List.replicate (4 - ds.length) none) m := by
  obtain ⟨b, n, k, w, f, c, rfl, hc, k0, k1, ⟨w0, w1⟩, hm, h⟩ := h
  refine ⟨rfl, ?_⟩
  have gs : (gtF b n).natAbs < 2 ^ 16001 := hc.pw (by have := hc.sz; omega)
  unfold b_ctx_rows
  walk_at "zs"
  have a1 : ∀ m, attrD m "great" (ctxD cl b n) = some (cl "Context", .int (gtF b n)) := fun m => by
    unfold ctxD ctxF
    walk_at "zs"
  rw [if_pos k0, a1]
  walk_at "zs"
  refine ⟨mul_ok gs gs (by decide), ?_⟩
  rw [decide_eq_true k1]
  walk_at "zs"
  have io : isObj (cl "Context") "ways" m (ctxD cl b n) := by
    unfold ctxD ctxF
    walk_at "zs"
  refine ⟨io, b, n, rfl, ?_⟩
  unfold oIn seqA
  refine ⟨rfl, waysF_flat b n, ?_⟩
  rw [w0]
  walk_at "zs"
  rw [w1]
  walk_at "zs"
  exact ⟨c, hm, h⟩
def b_ctx_rest (cl : Str → Addr) (ws : List (Addr × ZSp)) : ZTS :=
  (sret (zop oIx (zmethK (cl "Context") "rows" (kwC (c_ctx_rows cl ws) 2 1) (zv 0) (acons (zv 1) anil) (acons (zv 2) anil)) (zun oNeg (zc (.int 1)))))
def c_ctx_rest (cl : Str → Addr) (ws : List (Addr × ZSp)) : ZSp := fun ds m Q E => ∃ (b n k : Int) (w : Str) (f : Addr) (c : ZSp), ds = [ctxD cl b n, .int k, .str w] ∧ CtxB b n ∧ 0 ≤ k ∧ k < gtF b n * gtF b n ∧ WayF cl b n w f ∧ (f, c) ∈ ws ∧ c [ctxD cl b n, .int k] m (fun d m1 => cTuple [d] m1 fun y m2 => oIx y (.int (-1)) m2 Q) E
theorem w_ctx_rest (cl : Str → Addr) (ws : List (Addr × ZSp)) (ds : List D) (m : Mu) (Q : QE) (E : QX) (h : c_ctx_rest cl ws ds m Q E) : ds.length = 3 ∧ b_ctx_rest cl ws ⟨fun _ m => Q .non m, Q, fun x _ m => E x m⟩ (ds.map some ++ List.replicate (3 - ds.length) none) m := by
  obtain ⟨b, n, k, w, f, c, rfl, hc, k0, k1, hw, hm, h⟩ := h
  refine ⟨rfl, ?_⟩
  unfold b_ctx_rest
  walk_at "zs"
  have io : isObj (cl "Context") "rows" m (ctxD cl b n) := by
    unfold ctxD ctxF
    walk_at "zs"
  exact ⟨io, b, n, k, w, f, c, rfl, hc, k0, k1, hw, hm, h⟩
/-- the rests of one limb after the other -/
def rests (b n k : Int) : List Int := (dvs b n 0 (digs b k).reverse).map (·.2)
theorem CtxB.sq {b n : Int} (h : CtxB b n) : gtF b n * gtF b n = b ^ (2 * szF b n) := by
  unfold gtF
  rw [← Int.pow_add]
  congr 1
  omega
theorem CtxB.pos {b n : Int} (h : CtxB b n) : 0 < gtF b n := Int.pow_pos (by have := h.1; omega)
theorem digs_len_pow {b k : Int} {j : Nat} (hb : 2 ≤ b) (hk : k < b ^ j) : (digs b k).length ≤ j := by
  by_cases h0 : 0 < k
  · obtain ⟨h1, h2⟩ := digs_ge hb h0
    refine Nat.le_of_not_lt fun h => ?_
    have h3 : b ^ j ≤ b ^ (szF b k - 1) := by
      by_cases e : j = szF b k - 1
      · rw [e]; exact Int.le_refl _
      · exact Int.le_of_lt (Int.pow_lt_pow_of_lt (by omega) (by unfold szF at *; omega))
    omega
  · rw [digs_zero (by omega)]
    exact Nat.zero_le _
theorem CtxB.num {b n k : Int} (h : CtxB b n) (hk : k < gtF b n * gtF b n) : k < 2 ^ 9000 := by
  rw [h.sq] at hk
  have hb : 0 < b := by have := h.1; omega
  have h1 := b_pow (show 0 ≤ b by omega) h.2.1 (2 * szF b n)
  have h2 : 0 < b ^ (2 * szF b n) := Int.pow_pos hb
  have e : k < ((2 ^ (20 * (2 * szF b n) + 1) : Nat) : Int) := by
    generalize b ^ (2 * szF b n) = z at *
    generalize 2 ^ (20 * (2 * szF b n) + 1) = y at *
    omega
  rw [Int.natCast_pow] at e
  exact lt_two (Int.le_of_lt e) (by have := h.sz; omega)
theorem CtxB.dl {b n k : Int} (h : CtxB b n) (hk : k < gtF b n * gtF b n) : (digs b k).length ≤ 400 := by
  rw [h.sq] at hk
  exact Nat.le_trans (digs_len_pow h.1 hk) (by have := h.sz; omega)
def PT : Int → Int → Prop := fun _ _ => True
def PG : Int → Int → Prop := fun b n => Int.gcd n b = 1
/-- a way: a context and a number to the steps of it -/
def c_way (cl : Str → Addr) (P : Int → Int → Prop) (F : Int → Int → Int → List Int) : ZSp := fun ds m Q _ => ∃ (b n k : Int), ds = [ctxD cl b n, .int k] ∧ CtxB b n ∧ P b n ∧ 0 ≤ k ∧ k < gtF b n * gtF b n ∧ ∀ m', Ext m m' → Q (.fl ((F b n k).map .int)) m'
def F06 (b n k : Int) : List Int := 0 :: rests b n k
def b_plain_rows (cl : Str → Addr) : ZTS :=
  (sret (zop oAddL (zfl (acons (zc (.int 0)) anil)) (zlc (iseq (zcallK ck_division (acons (zv 1) (acons (zattr [cl "Context"] "modulus" (zv 0)) anil)) (acons (zattr [cl "Context"] "base" (zv 0)) anil))) (gtup 2 (gcons (gn 2) (gcons (gn 3) gnil))) tyes (zv 3) [2, 3])))
theorem w_plain_rows (cl : Str → Addr) (ds : List D) (m : Mu) (Q : QE) (E : QX) (h : c_way cl PT F06 ds m Q E) : ds.length = 2 ∧ b_plain_rows cl ⟨fun _ m => Q .non m, Q, fun x _ m => E x m⟩ (ds.map some ++ List.replicate (4 - ds.length) none) m := by
  obtain ⟨b, n, k, rfl, hc, -, k0, k1, h⟩ := h
  refine ⟨rfl, ?_⟩
  obtain ⟨h1, h2, h3, h4⟩ := id hc
  have k9 := hc.num k1
  unfold b_plain_rows
  walk_at "zs"
  rw [comp_e]
  walk_at "zs"
  unfold ctxD ctxF at *
  walk_at "zs"
  refine ⟨k, n, b, rfl, k0, Int.lt_trans k9 (by decide +kernel), by omega, Int.lt_of_le_of_lt h4 (by decide +kernel), h1, h2, fun m2 x2 => ?_⟩
  have hl : (dvs b n 0 (digs b k).reverse).length ≤ 400 := by rw [dvs_len, List.length_reverse]; exact hc.dl k1
  walk_at "zs"
  unfold F06 rests at h
  generalize dvs b n 0 (digs b k).reverse = ps at *
  refine comp_mapE (fun i => .int (ps.getD i (0, 0)).2) ((ps.map (·.2)).map .int) (by show (ps.map pr).length ≤ _; rw [List.length_map, sizeLine_eq]; omega) trivial (fun i hi K1 K2 hK => ?_) ?_ ?_
  · have hi' := lt_len hi
    show gtup 2 _ ((ps.map pr).getD i .non) _ _ _ _
    rw [getD_prs hi']
    walk_at "zs"
    exact hK
  · show (List.range (ps.map pr).length).map _ = _
    rw [List.length_map, range_getD ps (0, 0) (fun y => D.int y.2), List.map_map]
    rfl
  · walk_at "zs"
    refine ⟨by rw [List.length_map, List.length_map, sizeLine_eq]; show 1 + _ ≤ _; omega, ?_⟩
    exact h _ x2
end Zed
end
section
set_option maxHeartbeats 4000000
/-! ZCtxL: what the laws of the contexts share. -/
namespace Zed
open PySem PySem.Spec PyProof.Rows L2
local macro_rules | `(tactic| walk_at "zs") => `(tactic| simp only [zv, zc, zop, zun, anil, acons, ztup, zfl, zlst, zbl, zcall, zcallK, tvl, ttr, tand, tor, tnot, zand, zor, zorT, znot, zif, zchn, zsl, onone, osome, zrev, zrevA, zisi, gn, gnil, gcons, gtup, gsub, snil, sseq, sexp, sret, sretN, sif, sasg, sset, spar, spar3, saug, wkL, zapp, zpop, zseal, xat, snever, tyes, ilist, itup, istr, irng1, irng2, irng3, ienum, ienumT, izip, irev, wipeZ, zev, oAddL, isNon, at2_if, iseq, ienumT, gstar, gtupA, saugS, oGetL, izipS, sl_0, sl_1, sl_2, sl_3, sl_4, sl_5, sl_6, sl_7, sl_8, at1_0, at2_0, at2_1, at3_0, at3_1, at3_2, at4_0, at4_1, at4_2, at4_3, at5_0, at5_1, at5_2, at5_3, at5_4, at6_0, at6_1, at6_2, at6_3, at6_4, at6_5, at7_0, at7_1, at7_2, at7_3, at7_4, at7_5, at7_6, at8_0, at8_1, at8_2, at8_3, at8_4, at8_5, at8_6, at8_7, ixn2_0, ixn2_1, ixn3_0, ixn3_1, ixn3_2, cp_2, vp_2, cp_3, vp_3, cp_6, vp_6, cp_7, vp_7, cp_18, vp_18, cp_60, vp_60, q_truD_1, q_truD_2, q_truD_3, q_truD_4, q_truD_5, q_truD_6, q_oAdd_1, q_oAdd_2, q_oAdd_3, q_oAdd_4, q_oInt_1, q_oSub_1, q_oLt_1, q_oEq_1, q_oNe_1, q_oNe_2, q_oEq_2, q_oIs_1, q_oIs_2, q_oIsNot_1, q_oIsNot_2, q_oNeg_1, q_cAbs_1, q_cMax_1, q_cMin_1, q_cInt_1, q_cInt_2, q_cDivmod_1, q_lenD_1, q_lenD_2, q_lenD_3, q_cLen_1, q_cTuple_1, q_cTuple_2, q_cTuple_3, q_cListF_1, q_cListF_2, q_cListF_3, q_cList_1, q_cList_2, q_seqD_1, q_seqD_2, q_lenD_4, q_oIx_1, q_oIx_2, q_oIx_4, q_oSl_1, q_oSl_2, q_oSl_3, q_oSl_4, q_tyD_1, q_tyD_2, q_tyD_3, q_tyD_4, q_tyD_5, q_tyD_6, q_cIsi_1, q_oSet_1, q_oIAdd_1, q_oIAdd_2, List.getD_cons_zero, List.getD_cons_succ, List.take_zero, List.drop_zero, updM_same, updM_upd, dropM_updM, isi_ii, isi_bi, isi_ib, isi_bb, isi_tt, List.map_cons, List.map_nil, List.replicate_succ, List.replicate_zero, List.cons_append, List.nil_append, List.append_nil, List.set_cons_zero, List.set_cons_succ, List.getElem?_cons_zero, List.getElem?_cons_succ, List.length_cons, List.length_nil, Bool.false_eq_true, if_true, if_false, Bool.not_true, Bool.not_false, Bool.not_eq_true, Bool.not_eq_false', decide_eq_true_eq, true_and, and_true, exists_eq_left', Nat.reduceAdd, Nat.reduceSub, reduceCtorEq, decide_true, decide_false, Bool.true_eq_false, ite_true, ite_false, isw_int, wh_int, fe_modulus, fe_base, fe_size, fe_raised, fe_great, fe_has_mont, fe_tables, fe_ways, fe_rows, fe_rest, fe_kept, fe_reduced, fe_plain, fe_barrett, fe_table, fe_mont, fb_modulus_base, fn_modulus_base, fb_modulus_size, fn_modulus_size, fb_modulus_raised, fn_modulus_raised, fb_modulus_great, fn_modulus_great, fb_modulus_has_mont, fn_modulus_has_mont, fb_modulus_tables, fn_modulus_tables, fb_modulus_ways, fn_modulus_ways, fb_modulus_rows, fn_modulus_rows, fb_modulus_rest, fn_modulus_rest, fb_modulus_kept, fn_modulus_kept, fb_modulus_reduced, fn_modulus_reduced, fb_modulus_plain, fn_modulus_plain, fb_modulus_barrett, fn_modulus_barrett, fb_modulus_table, fn_modulus_table, fb_modulus_mont, fn_modulus_mont, fb_base_modulus, fn_base_modulus, fb_base_size, fn_base_size, fb_base_raised, fn_base_raised, fb_base_great, fn_base_great, fb_base_has_mont, fn_base_has_mont, fb_base_tables, fn_base_tables, fb_base_ways, fn_base_ways, fb_base_rows, fn_base_rows, fb_base_rest, fn_base_rest, fb_base_kept, fn_base_kept, fb_base_reduced, fn_base_reduced, fb_base_plain, fn_base_plain, fb_base_barrett, fn_base_barrett, fb_base_table, fn_base_table, fb_base_mont, fn_base_mont, fb_size_modulus, fn_size_modulus, fb_size_base, fn_size_base, fb_size_raised, fn_size_raised, fb_size_great, fn_size_great, fb_size_has_mont, fn_size_has_mont, fb_size_tables, fn_size_tables, fb_size_ways, fn_size_ways, fb_size_rows, fn_size_rows, fb_size_rest, fn_size_rest, fb_size_kept, fn_size_kept, fb_size_reduced, fn_size_reduced, fb_size_plain, fn_size_plain, fb_size_barrett, fn_size_barrett, fb_size_table, fn_size_table, fb_size_mont, fn_size_mont, fb_raised_modulus, fn_raised_modulus, fb_raised_base, fn_raised_base, fb_raised_size, fn_raised_size, fb_raised_great, fn_raised_great, fb_raised_has_mont, fn_raised_has_mont, fb_raised_tables, fn_raised_tables, fb_raised_ways, fn_raised_ways, fb_raised_rows, fn_raised_rows, fb_raised_rest, fn_raised_rest, fb_raised_kept, fn_raised_kept, fb_raised_reduced, fn_raised_reduced, fb_raised_plain, fn_raised_plain, fb_raised_barrett, fn_raised_barrett, fb_raised_table, fn_raised_table, fb_raised_mont, fn_raised_mont, fb_great_modulus, fn_great_modulus, fb_great_base, fn_great_base, fb_great_size, fn_great_size, fb_great_raised, fn_great_raised, fb_great_has_mont, fn_great_has_mont, fb_great_tables, fn_great_tables, fb_great_ways, fn_great_ways, fb_great_rows, fn_great_rows, fb_great_rest, fn_great_rest, fb_great_kept, fn_great_kept, fb_great_reduced, fn_great_reduced, fb_great_plain, fn_great_plain, fb_great_barrett, fn_great_barrett, fb_great_table, fn_great_table, fb_great_mont, fn_great_mont, fb_has_mont_modulus, fn_has_mont_modulus, fb_has_mont_base, fn_has_mont_base, fb_has_mont_size, fn_has_mont_size, fb_has_mont_raised, fn_has_mont_raised, fb_has_mont_great, fn_has_mont_great, fb_has_mont_tables, fn_has_mont_tables, fb_has_mont_ways, fn_has_mont_ways, fb_has_mont_rows, fn_has_mont_rows, fb_has_mont_rest, fn_has_mont_rest, fb_has_mont_kept, fn_has_mont_kept, fb_has_mont_reduced, fn_has_mont_reduced, fb_has_mont_plain, fn_has_mont_plain, fb_has_mont_barrett, fn_has_mont_barrett, fb_has_mont_table, fn_has_mont_table, fb_has_mont_mont, fn_has_mont_mont, fb_tables_modulus, fn_tables_modulus, fb_tables_base, fn_tables_base, fb_tables_size, fn_tables_size, fb_tables_raised, fn_tables_raised, fb_tables_great, fn_tables_great, fb_tables_has_mont, fn_tables_has_mont, fb_tables_ways, fn_tables_ways, fb_tables_rows, fn_tables_rows, fb_tables_rest, fn_tables_rest, fb_tables_kept, fn_tables_kept, fb_tables_reduced, fn_tables_reduced, fb_tables_plain, fn_tables_plain, fb_tables_barrett, fn_tables_barrett, fb_tables_table, fn_tables_table, fb_tables_mont, fn_tables_mont, fb_ways_modulus, fn_ways_modulus, fb_ways_base, fn_ways_base, fb_ways_size, fn_ways_size, fb_ways_raised, fn_ways_raised, fb_ways_great, fn_ways_great, fb_ways_has_mont, fn_ways_has_mont, fb_ways_tables, fn_ways_tables, fb_ways_rows, fn_ways_rows, fb_ways_rest, fn_ways_rest, fb_ways_kept, fn_ways_kept, fb_ways_reduced, fn_ways_reduced, fb_ways_plain, fn_ways_plain, fb_ways_barrett, fn_ways_barrett, fb_ways_table, fn_ways_table, fb_ways_mont, fn_ways_mont, fb_rows_modulus, fn_rows_modulus, fb_rows_base, fn_rows_base, fb_rows_size, fn_rows_size, fb_rows_raised, fn_rows_raised, fb_rows_great, fn_rows_great, fb_rows_has_mont, fn_rows_has_mont, fb_rows_tables, fn_rows_tables, fb_rows_ways, fn_rows_ways, fb_rows_rest, fn_rows_rest, fb_rows_kept, fn_rows_kept, fb_rows_reduced, fn_rows_reduced, fb_rows_plain, fn_rows_plain, fb_rows_barrett, fn_rows_barrett, fb_rows_table, fn_rows_table, fb_rows_mont, fn_rows_mont, fb_rest_modulus, fn_rest_modulus, fb_rest_base, fn_rest_base, fb_rest_size, fn_rest_size, fb_rest_raised, fn_rest_raised, fb_rest_great, fn_rest_great, fb_rest_has_mont, fn_rest_has_mont, fb_rest_tables, fn_rest_tables, fb_rest_ways, fn_rest_ways, fb_rest_rows, fn_rest_rows, fb_rest_kept, fn_rest_kept, fb_rest_reduced, fn_rest_reduced, fb_rest_plain, fn_rest_plain, fb_rest_barrett, fn_rest_barrett, fb_rest_table, fn_rest_table, fb_rest_mont, fn_rest_mont, fb_kept_modulus, fn_kept_modulus, fb_kept_base, fn_kept_base, fb_kept_size, fn_kept_size, fb_kept_raised, fn_kept_raised, fb_kept_great, fn_kept_great, fb_kept_has_mont, fn_kept_has_mont, fb_kept_tables, fn_kept_tables, fb_kept_ways, fn_kept_ways, fb_kept_rows, fn_kept_rows, fb_kept_rest, fn_kept_rest, fb_kept_reduced, fn_kept_reduced, fb_kept_plain, fn_kept_plain, fb_kept_barrett, fn_kept_barrett, fb_kept_table, fn_kept_table, fb_kept_mont, fn_kept_mont, fb_reduced_modulus, fn_reduced_modulus, fb_reduced_base, fn_reduced_base, fb_reduced_size, fn_reduced_size, fb_reduced_raised, fn_reduced_raised, fb_reduced_great, fn_reduced_great, fb_reduced_has_mont, fn_reduced_has_mont, fb_reduced_tables, fn_reduced_tables, fb_reduced_ways, fn_reduced_ways, fb_reduced_rows, fn_reduced_rows, fb_reduced_rest, fn_reduced_rest, fb_reduced_kept, fn_reduced_kept, fb_reduced_plain, fn_reduced_plain, fb_reduced_barrett, fn_reduced_barrett, fb_reduced_table, fn_reduced_table, fb_reduced_mont, fn_reduced_mont, fb_plain_modulus, fn_plain_modulus, fb_plain_base, fn_plain_base, fb_plain_size, fn_plain_size, fb_plain_raised, fn_plain_raised, fb_plain_great, fn_plain_great, fb_plain_has_mont, fn_plain_has_mont, fb_plain_tables, fn_plain_tables, fb_plain_ways, fn_plain_ways, fb_plain_rows, fn_plain_rows, fb_plain_rest, fn_plain_rest, fb_plain_kept, fn_plain_kept, fb_plain_reduced, fn_plain_reduced, fb_plain_barrett, fn_plain_barrett, fb_plain_table, fn_plain_table, fb_plain_mont, fn_plain_mont, fb_barrett_modulus, fn_barrett_modulus, fb_barrett_base, fn_barrett_base, fb_barrett_size, fn_barrett_size, fb_barrett_raised, fn_barrett_raised, fb_barrett_great, fn_barrett_great, fb_barrett_has_mont, fn_barrett_has_mont, fb_barrett_tables, fn_barrett_tables, fb_barrett_ways, fn_barrett_ways, fb_barrett_rows, fn_barrett_rows, fb_barrett_rest, fn_barrett_rest, fb_barrett_kept, fn_barrett_kept, fb_barrett_reduced, fn_barrett_reduced, fb_barrett_plain, fn_barrett_plain, fb_barrett_table, fn_barrett_table, fb_barrett_mont, fn_barrett_mont, fb_table_modulus, fn_table_modulus, fb_table_base, fn_table_base, fb_table_size, fn_table_size, fb_table_raised, fn_table_raised, fb_table_great, fn_table_great, fb_table_has_mont, fn_table_has_mont, fb_table_tables, fn_table_tables, fb_table_ways, fn_table_ways, fb_table_rows, fn_table_rows, fb_table_rest, fn_table_rest, fb_table_kept, fn_table_kept, fb_table_reduced, fn_table_reduced, fb_table_plain, fn_table_plain, fb_table_barrett, fn_table_barrett, fb_table_mont, fn_table_mont, fb_mont_modulus, fn_mont_modulus, fb_mont_base, fn_mont_base, fb_mont_size, fn_mont_size, fb_mont_raised, fn_mont_raised, fb_mont_great, fn_mont_great, fb_mont_has_mont, fn_mont_has_mont, fb_mont_tables, fn_mont_tables, fb_mont_ways, fn_mont_ways, fb_mont_rows, fn_mont_rows, fb_mont_rest, fn_mont_rest, fb_mont_kept, fn_mont_kept, fb_mont_reduced, fn_mont_reduced, fb_mont_plain, fn_mont_plain, fb_mont_barrett, fn_mont_barrett, fb_mont_table, fn_mont_table, zattr, zmeth, zmethK, sfld, attrD_obj, attrD_ref, putD_nil, putD_cons, lk_nil, lk_cons, in_one, isObj_obj, mkCK, kwC, defC, zdget, zcallL, zblK, Option.map_some])
def b_take2 : ZTS :=
  (sseq (sasg (zop oAdd (zop oIx (zv 0) (zc (.int 2))) (zc (.int 1))) (gsub (zv 0) (zc (.int 2))))
    (sseq (sif (tvl (zop oGt (zop oIx (zv 0) (zc (.int 1))) (zc (.int 0)))) (sseq (sasg (zbl (acons (zop oIx (zv 0) (zc (.int 1))) (acons (zv 1) anil)) cDivmod) (gtup 2 (gcons (gsub (zv 0) (zc (.int 1))) (gcons (gn 2) gnil))))
    (sret (zv 2))) snil)
    (sseq (sasg (ztup (acons (zc (.int 0)) (acons (zc (.int 1)) anil))) (gtup 2 (gcons (gn 3) (gcons (gn 4) gnil))))
    (sseq (swhile (tvl (zop oLt (zv 4) (zop oMul (zv 1) (zc (.int 1000))))) (sseq (sset (zop oIx (zv 0) (zc (.int 0))) 5)
    (sseq (sset (zop oAdd (zop oMul (zc (.int 70001)) (zop oIx (zv 0) (zc (.int 2)))) (zop oMod (zv 4) (zc (.int 1009)))) 6)
    (sseq (sasg (zop oMod (zop oAdd (zop oMul (zv 5) (zop oAdd (zop oMod (zv 5) (zc (.int 43003))) (zc (.int 35023)))) (zv 6)) (zc (.int 2147483563))) (gsub (zv 0) (zc (.int 0))))
    (spar 3 4 (acons (zop oAdd (zop oMul (zv 3) (zop oPow (zc (.int 10)) (zc (.int 7)))) (zop oMod (zop oFdv (zop oIx (zv 0) (zc (.int 0))) (zc (.int 64))) (zop oPow (zc (.int 10)) (zc (.int 7))))) (acons (zop oMul (zv 4) (zop oPow (zc (.int 10)) (zc (.int 7)))) anil)))))))
    (sret (zop oMod (zv 3) (zv 1)))))))
theorem w_take2 (ds : List D) (m : Mu) (Q : QE) (E : QX) (h : c_take ds m Q E) : ds.length = 2 ∧ b_take2 ⟨fun _ m => Q .non m, Q, fun x _ m => E x m⟩ (ds.map some ++ List.replicate (7 - ds.length) none) m := by
  obtain ⟨p, many, K, rfl, ⟨s, d, k, hp, s0, s1, d0, hk⟩, hK, m0, m1, h⟩ := h
  refine ⟨rfl, ?_⟩
  have m8 : many < 2 ^ 8000 := lt_two (Int.le_of_lt m1) (by decide)
  unfold b_take2
  walk_at "zs"
  iterate 4 ((try simp only [hp]); (try walk_at "zs"))
  by_cases hd : 0 < d
  · simp only [hd, decide_true, if_true]
    refine ⟨small_div m0 m8, ?_⟩
    exact h _ _ (Int.emod_nonneg _ (by omega)) (Int.emod_lt_of_pos _ m0) ⟨s, d / many, k + 1, rfl, s0, s1, Int.ediv_nonneg (by omega) (by omega), by omega⟩
  · simp only [hd, decide_false, Bool.false_eq_true, if_false]
    have dz : d = 0 := by omega
    subst dz
    have hkk : (k : Int) + 1 ≤ 1000000001 := by omega
    obtain ⟨I, hI⟩ : ∃ I : Nat → ZEnv → Mu → Prop, I = fun j ρ m' => ∃ (f z t : Int) (y5 y6 : Option D), j = (many * 1000 - z).toNat ∧ 1 ≤ z ∧ z < many * 10000000000 ∧ 0 ≤ f ∧ f < z ∧ 0 ≤ t ∧ t < 2147483563 ∧
      ρ = [some (.ref p), some (.int many), none, some (.int f), some (.int z), y5, y6] ∧ m' = updM m p (.lst [.int t, .int 0, .int ((k : Int) + 1)]) := ⟨_, rfl⟩
    refine while_i I (many * 1000 - 1).toNat (by rw [hI]; exact ⟨0, 1, s, none, none, rfl, by omega, by omega, by omega, by omega, s0, s1, rfl, rfl⟩) fun j ρ m' hi => ?_
    rw [hI] at hi
    obtain ⟨f, z, t, y5, y6, rfl, z0, z1, f0, f1, t0, t1, rfl, rfl⟩ := hi
    have hmany : many.natAbs < 2 ^ 8000 := abs_lt (by omega) m8
    walk_at "zs"
    refine ⟨mul_ok (a := 8000) (b := 10) hmany (by decide) (by decide), ?_⟩
    by_cases hz : z < many * 1000
    · simp only [hz, decide_true, if_true]
      iterate 3 (try walk_at "zs")
      have e1 := Int.emod_nonneg t (show (43003 : Int) ≠ 0 by decide)
      have e2 := Int.emod_lt_of_pos t (show (0 : Int) < 43003 by decide)
      have zs : z.natAbs < 2 ^ 9000 := by
        have h1 : (many * 10000000000).natAbs < 2 ^ (8000 + 40) := abs_mul hmany (by decide)
        have h2 : (2 : Nat) ^ (8000 + 40) ≤ 2 ^ 9000 := Nat.pow_le_pow_right (by decide) (by decide)
        omega
      have fs : f.natAbs < 2 ^ 9000 := by omega
      have g1 : ∀ x : Int, 0 ≤ x % 2147483563 ∧ x % 2147483563 < 2147483563 := fun x => ⟨Int.emod_nonneg x (by decide), Int.emod_lt_of_pos x (by decide)⟩
      refine ⟨mul_ok (a := 20) (b := 40) (by decide) (by omega) (by decide), by decide, by decide, mul_ok (a := 40) (b := 40) (by omega) (by omega) (by decide), by decide, mul_ok (a := 9000) (b := 30) fs (by decide) (by decide), small_fdv (by decide) (million_le (by decide)), by decide, mul_ok (a := 9000) (b := 30) zs (by decide) (by decide), ?_⟩
      rw [hI]
      generalize hT : (t * (t % 43003 + 35023) + (70001 * ((k : Int) + 1) + z % 1009)) % 2147483563 = T
      have gT := g1 (t * (t % 43003 + 35023) + (70001 * ((k : Int) + 1) + z % 1009))
      rw [hT] at gT
      have e3 := Int.emod_nonneg (T / 64) (show (10000000 : Int) ≠ 0 by decide)
      have e4 := Int.emod_lt_of_pos (T / 64) (show (0 : Int) < 10000000 by decide)
      refine ⟨_, ?_, f * 10000000 + T / 64 % 10000000, z * 10000000, T, _, _, rfl, by omega, by omega, by omega, by omega, gT.1, gT.2, rfl, rfl⟩
      omega
    · simp only [hz, decide_false, Bool.false_eq_true, if_false]
      exact ⟨m0, h _ _ (Int.emod_nonneg _ (by omega)) (Int.emod_lt_of_pos _ m0) ⟨t, 0, k + 1, rfl, t0, t1, Int.le_refl 0, by omega⟩⟩
def b_lpow : ZTS :=
  (sseq (sset (zc (.int 1)) 2)
    (sseq (sfor (irng1 (acons (zv 1) anil)) (gn 3) (sset (zop oMul (zv 2) (zv 0)) 2))
    (sret (zv 2))))
def c_lpow : ZSp := fun ds m Q _ => ∃ (b : Int) (k : Nat), ds = [.int b, .int (k : Int)] ∧ 2 ≤ b ∧ b ≤ 1000000 ∧ k ≤ 500 ∧ Q (.int (b ^ k)) m
theorem w_lpow (ds : List D) (m : Mu) (Q : QE) (E : QX) (h : c_lpow ds m Q E) : ds.length = 2 ∧ b_lpow ⟨fun _ m => Q .non m, Q, fun x _ m => E x m⟩ (ds.map some ++ List.replicate (4 - ds.length) none) m := by
  obtain ⟨b, k, rfl, b0, b1, hk, h⟩ := h
  refine ⟨rfl, ?_⟩
  unfold b_lpow
  walk_at "zs"
  refine for_i ?_
  walk_at "zs"
  obtain ⟨I, hI⟩ : ∃ I : Nat → ZEnv → Mu → Prop, I = fun i ρ m' => ∃ (y : Option D), i ≤ k ∧ ρ = [some (.int b), some (.int (k : Int)), some (.int (b ^ i)), y] ∧ m' = m := ⟨_, rfl⟩
  refine ⟨⟨by omega, by omega⟩, loop_i I (by rw [hI]; exact ⟨none, Nat.zero_le _, by rw [Int.pow_zero], rfl⟩) fun i ρ m' hi => ?_⟩
  rw [hI] at hi
  obtain ⟨y, il, rfl, rfl⟩ := hi
  refine ⟨trivial, fun hlt => ?_, fun e => ?_⟩
  · have hlt' : i < k := by
      have h3 : i < ((k : Nat) : Int).toNat := hlt
      omega
    walk_at "zs"
    rw [hI]
    have := b_pow (show 0 ≤ b by omega) b1 i
    exact ⟨mul_ok (a := 20001) (b := 30) (abs_more this (by omega)) (by omega) (by decide), _, hlt', by rw [Int.pow_succ], rfl⟩
  · have e' : i = k := by
      have h3 : i = ((k : Nat) : Int).toNat := e
      omega
    walk_at "zs"
    rw [e']
    exact h
def b_are_whole : ZTS :=
  (sret (zand (zisi .tuple (zv 0)) (zbl (acons (zlc (iseq (zv 0)) (gn 1) tyes (zcall c_whole (acons (zv 1) anil)) [1]) anil) cAll)))
def c_are_whole : ZSp := fun ds m Q _ => ∃ xs : List Int, ds = [.tup (xs.map .int)] ∧ xs.length ≤ 100000 ∧ Q (.bl true) m
theorem w_are_whole (ds : List D) (m : Mu) (Q : QE) (E : QX) (h : c_are_whole ds m Q E) : ds.length = 1 ∧ b_are_whole ⟨fun _ m => Q .non m, Q, fun x _ m => E x m⟩ (ds.map some ++ List.replicate (2 - ds.length) none) m := by
  obtain ⟨xs, rfl, hl, h⟩ := h
  refine ⟨rfl, ?_⟩
  unfold b_are_whole
  walk_at "zs"
  rw [comp_e]
  walk_at "zs"
  refine comp_map (fun _ => .bl true) (by show (xs.map D.int).length ≤ _; rw [List.length_map, sizeLine_eq]; omega) trivial (fun i hi K1 K2 hK => ?_) ?_
  · have hi' := lt_len hi
    show gn 1 ((xs.map D.int).getD i .non) _ _ _ _
    rw [getD_ints, if_pos hi']
    walk_at "zs"
    exact hK
  · rw [rng_bl]
    refine cAll_bls ?_
    rw [all_rep]
    exact h
def b_llimbs : ZTS :=
  (sseq (sset (zlst anil) 2)
    (sseq (swhile (tvl (zop oGt (zv 0) (zc (.int 0)))) (sseq (sasg (zbl (acons (zv 0) (acons (zv 1) anil)) cDivmod) (gtup 2 (gcons (gn 0) (gcons (gn 3) gnil))))
    (sexp (zapp (zv 2) (acons (zv 3) anil)))))
    (sret (zseal (zv 2)))))
def c_llimbs : ZSp := fun ds m Q _ => ∃ n b : Int, ds = [.int n, .int b] ∧ 0 ≤ n ∧ n < 2 ^ 100000 ∧ 2 ≤ b ∧ b < 2 ^ 8000 ∧ Q (.fl ((digs b n).map .int)) m
theorem w_llimbs (ds : List D) (m : Mu) (Q : QE) (E : QX) (h : c_llimbs ds m Q E) : ds.length = 2 ∧ b_llimbs ⟨fun _ m => Q .non m, Q, fun x _ m => E x m⟩ (ds.map some ++ List.replicate (4 - ds.length) none) m := by
  obtain ⟨n, b, rfl, h0, h1, h2, h3, h⟩ := h
  refine ⟨rfl, ?_⟩
  unfold b_llimbs
  walk_at "zs"
  refine fun p np => ?_
  have hlen := digs_len h2 _ n h1
  refine while_i (fun k ρ m' => ∃ (r : Int) (acc : List Int) (y : Option D), k = r.toNat ∧ 0 ≤ r ∧ acc ++ digs b r = digs b n ∧ ρ = [some (.int r), some (.int b), some (.ref p), y] ∧ m' = updM m p (.lst (acc.map .int))) n.toNat ⟨n, [], none, rfl, h0, rfl, rfl, rfl⟩ ?_
  rintro k ρ m' ⟨r, acc, y, rfl, hr, ha, rfl, rfl⟩
  walk_at "zs"
  by_cases hp : 0 < r
  · simp only [hp, decide_true, if_true]
    have ha' := ha
    rw [digs_pos h2 hp] at ha'
    have hl : acc.length < sizeLine := by
      have := congrArg List.length ha'
      rw [List.length_append, List.length_cons] at this
      rw [sizeLine_eq]
      omega
    have d1 := small_div (i := r) (by omega : 0 < b) h3
    refine ⟨d1, ⟨_, rfl⟩, by rw [List.length_map]; exact hl, (r / b).toNat, ?_, r / b, acc ++ [r % b], _, rfl, Int.ediv_nonneg (by omega) (by omega), by rw [List.append_assoc]; exact ha', rfl, by rw [List.map_append]; rfl⟩
    have := div_lt h2 hp
    have h5 : 0 ≤ r / b := Int.ediv_nonneg (by omega) (by omega)
    omega
  · simp only [hp, decide_false, Bool.false_eq_true, if_false]
    rw [digs_zero (by omega), List.append_nil] at ha
    rw [ha, dropM_updM np]
    exact h
def b_lfoot : ZTS :=
  (sseq (sset (zfl (acons (zc (.int 2)) (acons (zc (.int 3)) (acons (zc (.int 10)) (acons (zc (.int 10)) (acons (zc (.int 16)) (acons (zc (.int 255)) (acons (zc (.int 1000)) (acons (zop oPow (zc (.int 10)) (zc (.int 6))) (acons (zop oAdd (zc (.int 2)) (zcall c_take (acons (zv 0) (acons (zc (.int 998)) anil)))) (acons (zop oAdd (zc (.int 2)) (zcall c_take (acons (zv 0) (acons (zc (.int 999999)) anil)))) anil))))))))))) 1)
    (sret (zop oIx (zv 1) (zcall c_take (acons (zv 0) (acons (zc (.int 10)) anil))))))
def c_lfoot : ZSp := fun ds m Q _ => ∃ (p : Addr) (K : Nat), ds = [.ref p] ∧ Pool m p K ∧ K ≤ 10000000 ∧ ∀ b m', 2 ≤ b → b ≤ 1000000 → PM m p (K + 3) m' → Q (.int b) m'
theorem w_lfoot (ds : List D) (m : Mu) (Q : QE) (E : QX) (h : c_lfoot ds m Q E) : ds.length = 1 ∧ b_lfoot ⟨fun _ m => Q .non m, Q, fun x _ m => E x m⟩ (ds.map some ++ List.replicate (2 - ds.length) none) m := by
  obtain ⟨p, K, rfl, hp, hK, h⟩ := h
  refine ⟨rfl, ?_⟩
  unfold b_lfoot
  walk_at "zs"
  refine ⟨p, 998, K, rfl, hp, by omega, by decide, small_lt (by decide), fun r m1 r0 r1 hm1 => ?_⟩
  walk_at "zs"
  refine ⟨p, 999999, K + 1, rfl, hm1.pool, by omega, by decide, small_lt (by decide), fun s m2 s0 s1 hm2 => ?_⟩
  walk_at "zs"
  refine ⟨by decide, p, 10, K + 2, rfl, hm2.pool, by omega, by decide, small_lt (by decide), fun w m3 w0 w1 hm3 => ?_⟩
  obtain ⟨x, hx, e⟩ := at_ints (xs := [2, 3, 10, 10, 16, 255, 1000, 1000000, 2 + r, 2 + s]) w0 w1
  simp only [List.map] at e
  walk_at "zs"
  rw [e]
  walk_at "zs"
  refine h x m3 ?_ ?_ ((hm1.trans hm2).trans hm3)
  all_goals
    simp only [List.mem_cons, List.mem_nil_iff, or_false] at hx
    omega
theorem two_pow_le {b : Int} (h : 2 ≤ b) : ∀ k : Nat, (2 : Int) ^ k ≤ b ^ k
  | 0 => by rw [Int.pow_zero, Int.pow_zero]; exact Int.le_refl _
  | k + 1 => by
    rw [Int.pow_succ, Int.pow_succ]
    exact Int.mul_le_mul (two_pow_le h k) h (by decide) (Int.le_of_lt (Int.pow_pos (by omega)))
theorem pow_few {b : Int} (h : 2 ≤ b) {k : Nat} (hk : b ^ k ≤ 1000000000000000000000000000000000000000000000000000000000000) : k < 200 := by
  refine Nat.lt_of_not_le fun h2 => ?_
  have h3 := two_pow_le h k
  have h4 := two_le h2
  have h5 : (1000000000000000000000000000000000000000000000000000000000000 : Int) < 2 ^ 200 := by decide
  omega
def t_lmodulus2 : ZTS :=
  (sseq (sset (zcall c_lpow (acons (zv 1) (acons (zop oSub (zv 3) (zc (.int 1))) anil))) 4)
    (sseq (sset (zop oMul (zv 4) (zv 1)) 5)
    (sseq (sset (zfl (acons (zv 4) (acons (zop oAdd (zv 4) (zc (.int 1))) (acons (zop oSub (zv 5) (zc (.int 1))) (acons (zv 5) (acons (zop oAdd (zv 4) (zcall c_take (acons (zv 0) (acons (zop oSub (zv 5) (zv 4)) anil)))) (acons (zop oAdd (zv 4) (zcall c_take (acons (zv 0) (acons (zop oSub (zv 5) (zv 4)) anil)))) (acons (zc (.int 2)) (acons (zc (.int 3)) anil))))))))) 6)
    (sret (zbl (acons (zc (.int 2)) (acons (zbl (acons (zop oPow (zc (.int 10)) (zc (.int 60))) (acons (zop oIx (zv 6) (zcall c_take (acons (zv 0) (acons (zc (.int 8)) anil)))) anil)) cMin) anil)) cMax)))))
def b_lmodulus : ZTS :=
  (sseq (sset (zc (.int 1)) 2)
    (sseq (swhile (tvl (zop oLe (zcall c_lpow (acons (zv 1) (acons (zop oAdd (zv 2) (zc (.int 1))) anil))) (zop oPow (zc (.int 10)) (zc (.int 60))))) (sset (zop oAdd (zv 2) (zc (.int 1))) 2))
    (sseq (sset (zop oAdd (zc (.int 1)) (zcall c_take (acons (zv 0) (acons (zbl (acons (zv 2) (acons (zop oIx (zfl (acons (zc (.int 4)) (acons (zc (.int 4)) (acons (zc (.int 8)) (acons (zc (.int 24)) anil))))) (zcall c_take (acons (zv 0) (acons (zc (.int 4)) anil)))) anil)) cMin) anil)))) 3)
    (sseq (sif (tvl (zop oEq (zcall c_take (acons (zv 0) (acons (zc (.int 16)) anil))) (zc (.int 9)))) (sset (zv 2) 3) snil)
    t_lmodulus2))))
def c_lmodulus : ZSp := fun ds m Q _ => ∃ (p : Addr) (b : Int) (K : Nat), ds = [.ref p, .int b] ∧ Pool m p K ∧ K ≤ 10000000 ∧ 2 ≤ b ∧ b ≤ 1000000 ∧ ∀ n m', CtxB b n → PM m p (K + 10) m' → Q (.int n) m'
theorem CtxB.of {b x : Int} (h0 : 2 ≤ b) (h1 : b ≤ 1000000) : CtxB b (if (if x < 1000000000000000000000000000000000000000000000000000000000000 then x else 1000000000000000000000000000000000000000000000000000000000000) > 2 then (if x < 1000000000000000000000000000000000000000000000000000000000000 then x else 1000000000000000000000000000000000000000000000000000000000000) else 2) := ⟨h0, h1, by split <;> omega, by split <;> split <;> omega⟩
theorem tail_lmodulus2 {m : Mu} {p : Addr} {K : Nat} {b y : Int} {Q : QE} {E : QX} (b0 : 2 ≤ b) (b1 : b ≤ 1000000) (y0 : 1 ≤ y) (y1 : y ≤ 300) (hp : Pool m p K) (hK : K ≤ 100000000) (h : ∀ n m', CtxB b n → PM m p (K + 3) m' → Q (.int n) m') {c : Option D} :
    t_lmodulus2 ⟨fun _ m => Q .non m, Q, fun x _ m => E x m⟩ [some (.ref p), some (.int b), c, some (.int y), none, none, none] m := by
  obtain ⟨k, rfl⟩ : ∃ k : Nat, y = (k : Int) + 1 := ⟨(y - 1).toNat, by omega⟩
  unfold t_lmodulus2
  walk_at "zs"
  refine ⟨b, k, by rw [show (k : Int) + 1 - 1 = k by omega], b0, b1, by omega, ?_⟩
  walk_at "zs"
  have s1 := b_pow (show 0 ≤ b by omega) b1 k
  have P1 : 0 < b ^ k := Int.pow_pos (by omega)
  generalize b ^ k = x at *
  have s2 : x.natAbs < 2 ^ 6001 := abs_more s1 (by omega)
  refine ⟨mul_ok s2 (show b.natAbs < 2 ^ 30 by omega) (by decide), ?_⟩
  have s3 : (x * b).natAbs < 2 ^ (6001 + 30) := abs_mul s2 (show b.natAbs < 2 ^ 30 by omega)
  have s4 : x < x * b := by
    have := Int.mul_le_mul_of_nonneg_left b0 (show 0 ≤ x by omega)
    omega
  generalize x * b = z at *
  have s5 : z - x < 2 ^ 7000 := lt_two (Int.le_of_lt (show z - x < 2 ^ 6031 from Int.lt_of_le_of_lt (by omega) (lt_abs s3))) (by decide)
  refine ⟨p, z - x, K, rfl, hp, by omega, by omega, s5, fun r m1 r0 r1 hm1 => ?_⟩
  walk_at "zs"
  refine ⟨p, z - x, K + 1, rfl, hm1.pool, by omega, by omega, s5, fun s m2 s0 s1 hm2 => ?_⟩
  walk_at "zs"
  refine ⟨p, 8, K + 2, rfl, hm2.pool, by omega, by decide, small_lt (by decide), fun w m3 w0 w1 hm3 => ?_⟩
  obtain ⟨v, hv, e⟩ := at_ints (xs := [x, x + 1, z - 1, z, x + r, x + s, 2, 3]) w0 w1
  simp only [List.map] at e
  walk_at "zs"
  rw [e]
  walk_at "zs"
  exact h _ _ (CtxB.of b0 b1) ((hm1.trans hm2).trans hm3)
theorem w_lmodulus (ds : List D) (m : Mu) (Q : QE) (E : QX) (h : c_lmodulus ds m Q E) : ds.length = 2 ∧ b_lmodulus ⟨fun _ m => Q .non m, Q, fun x _ m => E x m⟩ (ds.map some ++ List.replicate (7 - ds.length) none) m := by
  obtain ⟨p, b, K, rfl, hp, hK, b0, b1, h⟩ := h
  refine ⟨rfl, ?_⟩
  unfold b_lmodulus
  walk_at "zs"
  refine while_i (fun j ρ m' => ∃ t : Nat, j = 300 - t ∧ 1 ≤ t ∧ b ^ t ≤ 1000000000000000000000000000000000000000000000000000000000000 ∧ ρ = [some (.ref p), some (.int b), some (.int (t : Int)), none, none, none, none] ∧ m' = m) 299 ⟨1, rfl, by omega, by rw [Int.pow_one]; omega, rfl, rfl⟩ ?_
  rintro j ρ m' ⟨t, rfl, t0, t1, rfl, rfl⟩
  have t2 := pow_few b0 t1
  walk_at "zs"
  refine ⟨b, t + 1, rfl, b0, b1, by omega, ?_⟩
  walk_at "zs"
  by_cases hlt : b ^ (t + 1) ≤ 1000000000000000000000000000000000000000000000000000000000000
  · rw [if_pos hlt]
    exact ⟨300 - (t + 1), by omega, t + 1, rfl, by omega, hlt, rfl⟩
  · rw [if_neg hlt]
    refine ⟨p, 4, K, rfl, hp, by omega, by decide, small_lt (by decide), fun r m1 r0 r1 hm1 => ?_⟩
    obtain ⟨x, hx, e⟩ := at_ints (xs := [4, 4, 8, 24]) r0 r1
    simp only [List.map] at e
    walk_at "zs"
    rw [e]
    walk_at "zs"
    simp only [List.mem_cons, List.mem_nil_iff, or_false] at hx
    obtain ⟨u, hu, u0, u1⟩ : ∃ u : Int, u = (if x < (t : Int) then x else (t : Int)) ∧ 1 ≤ u ∧ u ≤ t := ⟨_, rfl, by split <;> omega, by split <;> omega⟩
    rw [← hu]
    refine ⟨p, u, K + 1, rfl, hm1.pool, by omega, by omega, small_lt (by omega), fun s m2 s0 s1 hm2 => ?_⟩
    walk_at "zs"
    refine ⟨p, 16, K + 2, rfl, hm2.pool, by omega, by decide, small_lt (by decide), fun w m3 w0 w1 hm3 => ?_⟩
    walk_at "zs"
    have tail := fun (y : Int) (hy0 : 1 ≤ y) (hy1 : y ≤ (t : Int)) => @tail_lmodulus2 m3 p (K + 3) b y Q E b0 b1 hy0 (by omega) hm3.pool (by omega) (fun n m4 hc hm4 => h n m4 hc ((((hm1.trans hm2).trans hm3).trans hm4).more (by omega)))
    by_cases hw : w = 9
    · rw [if_pos hw]
      exact tail t (by omega) (by omega)
    · rw [if_neg hw]
      exact tail (1 + s) (by omega) (by omega)
/-- some draws, and lists laid beside -/
def PX (p : Addr) (K : Nat) (m m' : Mu) : Prop := ExtB p m m' ∧ Pool m' p K
theorem PX.of {p : Addr} {K : Nat} {m m' : Mu} (h : PM m p K m') : PX p K m m' := ⟨fun c hc _ => by
  obtain ⟨s, d, k, rfl, _⟩ := h
  exact updM_ne hc, h.pool⟩
theorem PX.trans {p : Addr} {K L : Nat} {m m1 m2 : Mu} (h : PX p K m m1) (g : PX p L m1 m2) : PX p L m m2 := ⟨fun c hc hm => by
  have e := h.1 c hc hm
  rw [g.1 c hc (by rw [e]; exact hm), e], g.2⟩
theorem PX.ext {p : Addr} {K : Nat} {m m1 m2 : Mu} (h : PX p K m m1) (g : Ext m1 m2) : PX p K m m2 := ⟨fun c hc hm => by
  have e := h.1 c hc hm
  rw [g c (by rw [e]; exact hm), e], h.2.ext g⟩
theorem PX.more {p : Addr} {K L : Nat} {m m1 : Mu} (h : PX p K m m1) (g : K ≤ L) : PX p L m m1 := ⟨h.1, h.2.more g⟩
def b_lnumber : ZTS :=
  (sseq (sset (zfl (acons (zc (.int 0)) (acons (zc (.int 1)) (acons (zop oSub (zv 1) (zc (.int 1))) (acons (zv 1) (acons (zop oSub (zv 3) (zc (.int 1))) (acons (zv 3) (acons (zop oSub (zop oMul (zv 3) (zv 3)) (zc (.int 1))) (acons (zop oMul (zv 1) (zv 1)) (acons (zop oSub (zop oMul (zv 3) (zv 3)) (zv 1)) anil)))))))))) 4)
    (sseq (sset (zop oAddL (zv 4) (zfl (acons (zcall c_take (acons (zv 0) (acons (zv 3) anil))) (acons (zop oMul (zv 1) (zcall c_take (acons (zv 0) (acons (zv 3) anil)))) (acons (zop oSub (zop oMul (zop oFdv (zop oMul (zv 3) (zv 3)) (zv 1)) (zv 1)) (zc (.int 1))) anil))))) 4)
    (sseq (sset (zop oAddL (zv 4) (zfl (acons (zop oSub (zop oAdd (zop oMul (zv 3) (zcall c_take (acons (zv 0) (acons (zv 3) anil)))) (zv 3)) (zc (.int 1))) (acons (zop oFdv (zv 3) (zv 2)) (acons (zv 2) (acons (zop oFdv (zop oMul (zv 3) (zv 3)) (zv 2)) anil)))))) 4)
    (sseq (sset (zop oAdd (zop oMul (zcall c_take (acons (zv 0) (acons (zv 3) anil))) (zv 3)) (zcall c_take (acons (zv 0) (acons (zv 3) anil)))) 5)
    (sret (zop oMod (zop oIx (zop oAddL (zv 4) (zop oRepM (zlst (acons (zv 5) anil)) (zc (.int 8)))) (zcall c_take (acons (zv 0) (acons (zc (.int 24)) anil)))) (zop oMul (zv 3) (zv 3))))))))
def c_lnumber : ZSp := fun ds m Q _ => ∃ (p : Addr) (b n : Int) (K : Nat), ds = [.ref p, .int n, .int b, .int (gtF b n)] ∧ CtxB b n ∧ Pool m p K ∧ K ≤ 10000000 ∧ ∀ k m', 0 ≤ k → k < gtF b n * gtF b n → PX p (K + 10) m m' → Q (.int k) m'
theorem w_lnumber (ds : List D) (m : Mu) (Q : QE) (E : QX) (h : c_lnumber ds m Q E) : ds.length = 4 ∧ b_lnumber ⟨fun _ m => Q .non m, Q, fun x _ m => E x m⟩ (ds.map some ++ List.replicate (6 - ds.length) none) m := by
  obtain ⟨p, b, n, K, rfl, hc, hp, hK, h⟩ := h
  refine ⟨rfl, ?_⟩
  have gs : (gtF b n).natAbs < 2 ^ 4001 := by
    have := b_pow (by have := hc.1; omega) hc.2.1 (szF b n)
    exact abs_more this (by have := hc.sz; omega)
  have gp := hc.pos
  have gn := hc.gt
  obtain ⟨h1, h2, h3, h4⟩ := id hc
  have ns : n.natAbs < 2 ^ 300 := abs_lt (by omega) (Int.lt_of_le_of_lt h4 (by decide +kernel))
  have bs : b.natAbs < 2 ^ 30 := by omega
  have g7 : gtF b n < 2 ^ 7000 := lt_abs (abs_more gs (by decide))
  have n8 : n < 2 ^ 8000 := lt_abs (abs_more ns (by decide))
  have b8 : b < 2 ^ 8000 := lt_abs (abs_more bs (by decide))
  have gg : (gtF b n * gtF b n).natAbs < 2 ^ (4001 + 4001) := abs_mul gs gs
  have gg0 : 0 < gtF b n * gtF b n := Int.mul_pos gp gp
  generalize gtF b n = g at *
  have dn : (g * g / n).natAbs < 2 ^ (4001 + 4001) := by
    have e1 := Int.ediv_nonneg (Int.le_of_lt gg0) (show 0 ≤ n by omega)
    have e2 := Int.ediv_le_self n (Int.le_of_lt gg0)
    omega
  have rs : ∀ {r : Int}, 0 ≤ r → r < g → r.natAbs < 2 ^ 4001 := fun h0 h1 => by omega
  unfold b_lnumber
  walk_at "zs"
  refine ⟨mul_ok gs gs (by decide), mul_ok ns ns (by decide), mul_ok gs gs (by decide), by decide, p, g, K, rfl, hp, by omega, gp, g7, fun r1 m1 a0 a1 hm1 => ?_⟩
  walk_at "zs"
  refine ⟨p, g, K + 1, rfl, hm1.pool, by omega, gp, g7, fun r2 m2 c0 c1 hm2 => ?_⟩
  walk_at "zs"
  refine ⟨mul_ok ns (rs c0 c1) (by decide), mul_ok gs gs (by decide), small_fdv (by omega) n8, mul_ok dn ns (by decide), by decide, p, g, K + 2, rfl, hm2.pool, by omega, gp, g7, fun r3 m3 d0 d1 hm3 => ?_⟩
  walk_at "zs"
  refine ⟨mul_ok gs (rs d0 d1) (by decide), small_fdv (by omega) b8, mul_ok gs gs (by decide), small_fdv (by omega) b8, by decide, p, g, K + 3, rfl, hm3.pool, by omega, gp, g7, fun r4 m4 e0 e1 hm4 => ?_⟩
  walk_at "zs"
  refine ⟨mul_ok (rs e0 e1) gs (by decide), p, g, K + 4, rfl, hm4.pool, by omega, gp, g7, fun r5 m5 f0 f1 hm5 => ?_⟩
  walk_at "zs"
  intro q nq
  unfold oRepM
  walk_at "zs"
  have ef : ∀ x : D, (List.replicate (Int.toNat 8) [x]).flatten = [x, x, x, x, x, x, x, x] := fun _ => rfl
  simp only [ef]
  refine ⟨⟨by decide, by decide, by decide⟩, fun q2 nq2 => ?_⟩
  have xe := (Ext.upd nq (.lst [D.int (r4 * g + r5)])).trans (Ext.upd nq2 (.lst [D.int (r4 * g + r5), D.int (r4 * g + r5), D.int (r4 * g + r5), D.int (r4 * g + r5), D.int (r4 * g + r5), D.int (r4 * g + r5), D.int (r4 * g + r5), D.int (r4 * g + r5)]))
  refine ⟨by rw [sizeLine_eq]; show (24 : Nat) ≤ _; decide, p, 24, K + 5, rfl, hm5.pool.ext xe, by omega, by decide, small_lt (by decide), fun w m6 w0 w1 hm6 => ?_⟩
  obtain ⟨v, hv, e⟩ := at_ints (xs := [0, 1, n - 1, n, g - 1, g, g * g - 1, n * n, g * g - n, r1, n * r2, g * g / n * n - 1, g * r3 + g - 1, g / b, b, g * g / b, r4 * g + r5, r4 * g + r5, r4 * g + r5, r4 * g + r5, r4 * g + r5, r4 * g + r5, r4 * g + r5, r4 * g + r5]) w0 w1
  simp only [List.map] at e
  walk_at "zs"
  rw [e]
  walk_at "zs"
  exact ⟨mul_ok gs gs (by decide), gg0, h _ _ (Int.emod_nonneg _ (by omega)) (Int.emod_lt_of_pos _ gg0) ((((PX.of ((((hm1.trans hm2).trans hm3).trans hm4).trans hm5)).ext xe).trans (PX.of hm6)).more (by omega))⟩
theorem atI_two {xs : List D} {u v : D} : atI (xs ++ [u] ++ [v]) (-2) = some u := by
  unfold atI ixN
  simp
  rw [if_pos (by omega), show (-2 + ((xs.length : Int) + 2)).toNat = xs.length by omega]
  simp
def b_lsmall : ZTS :=
  (sseq (sset (zlst (acons (ztup (acons (zv 1) (acons (zc (.int 0)) anil))) (acons (ztup (acons (zv 0) (acons (zc (.int 1)) anil))) anil))) 2)
    (sseq (swhile (tvl (zop oGt (zop oIx (zop oIx (zv 2) (zun oNeg (zc (.int 1)))) (zc (.int 0))) (zc (.int 1)))) (sseq (sset (zop oFdv (zop oIx (zop oIx (zv 2) (zun oNeg (zc (.int 2)))) (zc (.int 0))) (zop oIx (zop oIx (zv 2) (zun oNeg (zc (.int 1)))) (zc (.int 0)))) 3)
    (sexp (zapp (zv 2) (acons (ztup (acons (zop oSub (zop oIx (zop oIx (zv 2) (zun oNeg (zc (.int 2)))) (zc (.int 0))) (zop oMul (zv 3) (zop oIx (zop oIx (zv 2) (zun oNeg (zc (.int 1)))) (zc (.int 0))))) (acons (zop oSub (zop oIx (zop oIx (zv 2) (zun oNeg (zc (.int 2)))) (zc (.int 1))) (zop oMul (zv 3) (zop oIx (zop oIx (zv 2) (zun oNeg (zc (.int 1)))) (zc (.int 1))))) anil))) anil)))))
    (sret (zop oMod (zop oSub (zc (.int 0)) (zop oIx (zop oIx (zv 2) (zun oNeg (zc (.int 1)))) (zc (.int 1)))) (zv 1)))))
def c_lsmall : ZSp := fun ds m Q _ => ∃ (b n : Int), ds = [.int (n % b), .int b] ∧ CtxB b n ∧ Int.gcd n b = 1 ∧ ∀ m', Ext m m' → Q (.int (smF b n)) m'
theorem w_lsmall (ds : List D) (m : Mu) (Q : QE) (E : QX) (h : c_lsmall ds m Q E) : ds.length = 2 ∧ b_lsmall ⟨fun _ m => Q .non m, Q, fun x _ m => E x m⟩ (ds.map some ++ List.replicate (4 - ds.length) none) m := by
  obtain ⟨b, n, rfl, hc, hg, h⟩ := h
  refine ⟨rfl, ?_⟩
  obtain ⟨h1, h2, h3, h4⟩ := id hc
  unfold b_lsmall
  have r0 := Int.emod_nonneg n (show b ≠ 0 by omega)
  have r1 := Int.emod_lt_of_pos n (show 0 < b by omega)
  have hg2 : Int.gcd (n % b) b = 1 := by rw [gcd_mod]; exact hg
  have e5 := Int.emod_add_mul_ediv n b
  have rp : 0 < n % b := by
    by_cases e : n % b = 0
    · rw [e, Int.gcd_zero_left] at hg2
      omega
    · omega
  walk_at "zs"
  refine fun p np => ?_
  obtain ⟨I, hI⟩ : ∃ I : Nat → ZEnv → Mu → Prop, I = fun j ρ m' => ∃ (pre : List D) (x y u v e : Int) (z : Option D), j = y.toNat ∧ 0 < y ∧ y < x ∧ x ≤ b ∧ Int.gcd y x = 1 ∧ 0 ≤ u ∧ 0 ≤ v ∧ x * v + y * u = b ∧ (e = 1 ∨ e = -1) ∧ b ∣ n * (e * v) - y ∧ b ∣ n * (-e * u) - x ∧ pre.length ≤ 1000000 - y ∧ ρ = [some (.int (n % b)), some (.int b), some (.ref p), z] ∧ m' = updM m p (.lst (pre ++ [.tup [.int x, .int (-e * u)]] ++ [.tup [.int y, .int (e * v)]])) := ⟨_, rfl⟩
  refine while_i I (n % b).toNat (by
    rw [hI]
    refine ⟨[], b, n % b, 0, 1, 1, none, rfl, rp, r1, Int.le_refl _, hg2, Int.le_refl _, by decide, by omega, .inl rfl, ⟨n / b, by omega⟩, ⟨-1, by omega⟩, by simp; omega, rfl, rfl⟩) fun j ρ m' hi => ?_
  rw [hI] at hi
  obtain ⟨pre, x, y, u, v, e, z, rfl, y0, yx, xb, hgx, u0, v0, hb, he, dy, dx, pl, rfl, rfl⟩ := hi
  have i1 : ∀ a b : D, atI (pre ++ [a] ++ [b]) (-1) = some b := fun a b => atI_last _ _
  have i2 : ∀ a b : D, atI (pre ++ [a] ++ [b]) (-2) = some a := fun a b => atI_two
  walk_at "zs"
  rw [i1]
  walk_at "zs"
  have vb : v ≤ b := by
    have h5 := Int.mul_nonneg (show 0 ≤ y by omega) u0
    have h6 := Int.mul_le_mul_of_nonneg_right (show (1 : Int) ≤ x by omega) v0
    omega
  have evs : (e * v).natAbs < 2 ^ 30 := by
    rcases he with rfl | rfl
    · omega
    · omega
  by_cases hy : 1 < y
  · rw [if_pos hy]
    iterate 9 ((try simp only [i1, i2]); (try walk_at "zs"))
    have q0 := Int.ediv_nonneg (show 0 ≤ x by omega) (show 0 ≤ y by omega)
    have q1 := Int.ediv_le_self y (show 0 ≤ x by omega)
    have em := Int.emod_add_mul_ediv x y
    have z1 := Int.emod_lt_of_pos x y0
    have z0 := Int.emod_nonneg x (show y ≠ 0 by omega)
    have ez : x - x / y * y = x % y := by rw [Int.mul_comm]; omega
    have zp : 0 < x % y := by
      by_cases h7 : x % y = 0
      · have h8 := Int.gcd_eq_left (show 0 ≤ y by omega) (Int.dvd_of_emod_eq_zero h7)
        omega
      · omega
    have hz : Int.gcd (x % y) y = 1 := by rw [gcd_mod, Int.gcd_comm]; exact hgx
    have qs : (x / y).natAbs < 2 ^ 30 := by omega
    refine ⟨small_fdv y0 (million_le (by omega)), ⟨_, rfl⟩, mul_ok qs (show y.natAbs < 2 ^ 30 by omega) (by decide), mul_ok qs evs (by decide), by simp [sizeLine_eq]; omega, (x % y).toNat, by omega, ?_⟩
    rw [hI]
    obtain ⟨c1, k1⟩ := dy
    obtain ⟨c2, k2⟩ := dx
    refine ⟨pre ++ [.tup [.int x, .int (-e * u)]], y, x % y, v, u + x / y * v, -e, _, rfl, zp, z1, by omega, hz, v0, Int.add_nonneg u0 (Int.mul_nonneg q0 v0), ?_, by omega, ⟨c2 - x / y * c1, ?_⟩, ⟨c1, ?_⟩, by rw [List.length_append]; show ((pre.length + 1 : Nat) : Int) ≤ _; omega, rfl, ?_⟩
    · grind
    · grind
    · grind
    · rw [ez, Int.neg_neg, show -e * u - x / y * (e * v) = -e * (u + x / y * v) by grind]
  · rw [if_neg hy]
    have y1 : y = 1 := by omega
    subst y1
    iterate 3 ((try simp only [i1, i2]); (try walk_at "zs"))
    have hs : smF b n = (0 - e * v) % b := smF_eq (by omega) (Int.emod_nonneg _ (by omega)) (Int.emod_lt_of_pos _ (by omega)) (by
      obtain ⟨c1, k1⟩ := dy
      have e6 := Int.emod_add_mul_ediv (0 - e * v) b
      refine Int.emod_eq_zero_of_dvd ⟨-c1 - n * ((0 - e * v) / b), ?_⟩
      grind)
    rw [← hs]
    exact ⟨by omega, h _ (Ext.upd np _)⟩
def b_ltables : ZTS :=
  (sseq (sset (zbl (acons (zcall c_llimbs (acons (zv 0) (acons (zv 1) anil))) anil) cLen) 2)
    (sseq (sset (zcall c_lpow (acons (zv 1) (acons (zv 2) anil))) 3)
    (sseq (spar 4 5 (acons (zlst (acons (zop oMod (zv 3) (zv 0)) anil)) (acons (zlst (acons (zv 0) anil)) anil)))
    (sseq (swhile (tvl (zop oLt (zbl (acons (zv 4) anil) cLen) (zv 2))) (sexp (zapp (zv 4) (acons (zop oMod (zop oMul (zop oIx (zv 4) (zun oNeg (zc (.int 1)))) (zv 1)) (zv 0)) anil))))
    (sseq (swhile (tvl (zop oLt (zop oMul (zc (.int 2)) (zop oIx (zv 5) (zun oNeg (zc (.int 1))))) (zv 3))) (sexp (zapp (zv 5) (acons (zop oMul (zc (.int 2)) (zop oIx (zv 5) (zun oNeg (zc (.int 1))))) anil))))
    (sseq (sasg (ztup (acons (zc .non) (acons (zc .non) anil))) (gtup 2 (gcons (gn 6) (gcons (gn 7) gnil))))
    (sseq (sif (tvl (zop oEq (zcall c_lgcd (acons (zv 0) (acons (zv 1) anil))) (zc (.int 1)))) (spar 6 7 (acons (zcall c_lsmall (acons (zop oMod (zv 0) (zv 1)) (acons (zv 1) anil))) (acons (zop oMod (zop oMul (zv 3) (zv 3)) (zv 0)) anil))) snil)
    (sret (ztup (acons (zv 2) (acons (zv 3) (acons (zop oFdv (zop oMul (zv 3) (zv 3)) (zv 0)) (acons (zv 4) (acons (zv 5) (acons (zv 6) (acons (zv 7) anil))))))))))))))))
/-- what a law keeps of its own -/
def ownF (b n : Int) (p q : Addr) : D := .tup ([.int (szF b n), .int (gtF b n), .int (gtF b n * gtF b n / n), .ref p, .ref q] ++ (if Int.gcd n b = 1 then [.int (smF b n), .int (gtF b n * gtF b n % n)] else [.non, .non]))
def OwnM (b n : Int) (m : Mu) (p q : Addr) : Prop := m p = some (.lst ((rst b n).map .int)) ∧ m q = some (.lst ((dbls n (gtF b n)).map .int))
def c_ltables : ZSp := fun ds m Q _ => ∃ (b n : Int), ds = [.int n, .int b] ∧ CtxB b n ∧ ∀ p q m', m p = none → m q = none → Ext m m' → OwnM b n m' p q → Q (ownF b n p q) m'
theorem w_ltables (ds : List D) (m : Mu) (Q : QE) (E : QX) (h : c_ltables ds m Q E) : ds.length = 2 ∧ b_ltables ⟨fun _ m => Q .non m, Q, fun x _ m => E x m⟩ (ds.map some ++ List.replicate (8 - ds.length) none) m := by
  obtain ⟨b, n, rfl, hc, h⟩ := h
  refine ⟨rfl, ?_⟩
  obtain ⟨h1, h2, h3, h4⟩ := id hc
  obtain ⟨s1, s2⟩ := hc.sz
  have gp := hc.pos
  have gn := hc.gt
  have gs : (gtF b n).natAbs < 2 ^ 4001 := by
    have := b_pow (by omega) h2 (szF b n)
    exact abs_more this (by omega)
  have n8 : n < 2 ^ 8000 := Int.lt_of_le_of_lt h4 (by decide +kernel)
  unfold b_ltables
  walk_at "zs"
  refine ⟨n, b, rfl, by omega, Int.lt_of_le_of_lt h4 (by decide +kernel), h1, by omega, ?_⟩
  walk_at "zs"
  rw [List.length_map]
  refine ⟨b, szF b n, rfl, h1, h2, by omega, ?_⟩
  walk_at "zs"
  refine ⟨by omega, fun p np q nq => ?_⟩
  have pq : p ≠ q := fun e => by rw [← e, updM_same] at nq; cases nq
  rw [updM_ne (Ne.symm pq)] at nq
  have e1 : ∀ o1 o2 : MO, updM (updM m p o1) q o2 p = some o1 := fun o1 o2 => by rw [updM_ne pq, updM_same]
  have e2 : ∀ o1 o2 : MO, updM (updM m p o1) q o2 q = some o2 := fun o1 o2 => updM_same
  have e3 : ∀ o1 o2 o3 : MO, updM (updM (updM m p o1) q o2) p o3 = updM (updM m p o3) q o2 := fun o1 o2 o3 => by
    funext c
    unfold updM
    by_cases h5 : c = p
    · rw [if_pos h5, if_neg (by rw [h5]; exact pq), if_pos h5]
    · rw [if_neg h5, if_neg h5]
      by_cases h6 : c = q
      · rw [if_pos h6, if_pos h6]
      · rw [if_neg h6, if_neg h6, if_neg h5]
  let rk : Nat → List Int := fun k => (List.range k).map fun i => b ^ (szF b n + i) % n
  have rl : ∀ k, (rk k).length = k := fun k => by simp [rk]
  have rsn : ∀ k, rk (k + 1) = rk k ++ [b ^ (szF b n + k) % n] := fun k => by simp [rk, List.range_succ]
  refine while_i (fun j ρ m' => ∃ k, j = szF b n - k ∧ 1 ≤ k ∧ k ≤ szF b n ∧ ρ = [some (.int n), some (.int b), some (.int (szF b n : Int)), some (.int (b ^ szF b n)), some (.ref p), some (.ref q), none, none] ∧ m' = updM (updM m p (.lst ((rk k).map .int))) q (.lst [.int n])) (szF b n - 1) ⟨1, rfl, by omega, s1, rfl, rfl⟩ ?_
  rintro j ρ m' ⟨k, rfl, k0, k1, rfl, rfl⟩
  walk_at "zs"
  simp only [e1]
  rw [List.length_map, rl]
  obtain ⟨j, rfl⟩ : ∃ j, k = j + 1 := ⟨k - 1, by omega⟩
  by_cases hlt : j + 1 < szF b n
  · rw [if_pos (by omega)]
    rw [atI_last_int (x := b ^ (szF b n + j) % n) (by rw [rsn]; simp)]
    walk_at "zs"
    simp only [e1, e3]
    have z0 := Int.emod_nonneg (b ^ (szF b n + j)) (show n ≠ 0 by omega)
    have z1 := Int.emod_lt_of_pos (b ^ (szF b n + j)) (show 0 < n by omega)
    have ez : b ^ (szF b n + j) % n * b % n = b ^ (szF b n + (j + 1)) % n := by
      rw [Int.mul_emod, Int.emod_emod, ← Int.mul_emod, ← Int.pow_succ]
      rfl
    rw [ez]
    refine ⟨⟨_, rfl⟩, mul_ok (a := 8000) (b := 30) (abs_lt z0 (by omega)) (by omega) (by decide), by omega, by rw [List.length_map, rl, sizeLine_eq]; omega, szF b n - (j + 1 + 1), by omega, j + 1 + 1, rfl, by omega, by omega, ?_⟩
    rw [rsn (j + 1), List.map_append]
    rfl
  · rw [if_neg (by omega)]
    have ek : j + 1 = szF b n := by omega
    have er : rk (j + 1) = rst b n := by rw [ek]; rfl
    rw [er]
    have dg : dbls n (gtF b n) = [] ++ [n] ++ dbls (n * 2) (gtF b n) := dbls_step (by omega) gn
    have dl : (dbls n (gtF b n)).length ≤ 20000 := dbls_len 20000 n _ (by omega) (by
      have h5 : (0 : Int) < 2 ^ 20000 := Int.pow_pos (by decide)
      have h6 := lt_abs (abs_more gs (show 4001 ≤ 20000 by decide))
      have := Int.mul_le_mul_of_nonneg_right (show (1 : Int) ≤ n by omega) (show (0 : Int) ≤ 2 ^ 20000 by omega)
      omega)
    refine while_i (fun j ρ m' => ∃ (x : Int) (acc : List Int), j = (gtF b n - x).toNat ∧ 0 < x ∧ x < gtF b n ∧ acc ++ [x] ++ dbls (x * 2) (gtF b n) = dbls n (gtF b n) ∧ ρ = [some (.int n), some (.int b), some (.int (szF b n : Int)), some (.int (b ^ szF b n)), some (.ref p), some (.ref q), none, none] ∧ m' = updM (updM m p (.lst ((rst b n).map .int))) q (.lst ((acc ++ [x]).map .int))) (gtF b n - n).toNat ⟨n, [], rfl, by omega, gn, dg.symm, rfl, rfl⟩ ?_
    rintro j2 ρ m' ⟨x, acc, rfl, x0, x1, ha, rfl, rfl⟩
    walk_at "zs"
    rw [atI_last_int (x := x) (by simp)]
    walk_at "zs"
    have la := congrArg List.length ha
    rw [List.length_append, List.length_append] at la
    have xs2 : x.natAbs < 2 ^ 4001 := by omega
    refine ⟨mul_ok (a := 10) (by decide) xs2 (by decide), ?_⟩
    by_cases h2x : 2 * x < b ^ szF b n
    · rw [if_pos h2x]
      rw [atI_last_int (x := x) (by simp)]
      walk_at "zs"
      have h2y : 2 * x < gtF b n := h2x
      refine ⟨⟨_, rfl⟩, mul_ok (a := 10) (by decide) xs2 (by decide), by simp only [List.length_map, List.length_append, List.length_cons, List.length_nil] at la ⊢; rw [sizeLine_eq]; omega, (gtF b n - 2 * x).toNat, by omega, 2 * x, acc ++ [x], rfl, by omega, h2y, ?_, ?_⟩
      · rw [← ha, dbls_step (x := x * 2) (by omega) (by omega), Int.mul_comm 2 x, List.append_assoc (acc ++ [x])]
        rfl
      · rw [List.map_append (l₁ := acc ++ [x])]
        rfl
    · rw [if_neg h2x]
      have hx2 : ¬ 2 * x < gtF b n := h2x
      rw [dbls_end (by omega), List.append_nil] at ha
      rw [ha]
      have hgt : b ^ szF b n = gtF b n := rfl
      simp only [hgt]
      have own : OwnM b n (updM (updM m p (.lst ((rst b n).map .int))) q (.lst ((dbls n (gtF b n)).map .int))) p q := ⟨e1 _ _, e2 _ _⟩
      have ext : Ext m (updM (updM m p (.lst ((rst b n).map .int))) q (.lst ((dbls n (gtF b n)).map .int))) := (Ext.upd np _).upd2 nq _
      refine ⟨n, b, rfl, by omega, by omega, ?_⟩
      walk_at "zs"
      unfold ownF at h
      by_cases hg : Int.gcd n b = 1
      · rw [if_pos (by omega)]
        rw [if_pos hg] at h
        refine ⟨by omega, b, n, rfl, hc, hg, fun m2 x2 => ?_⟩
        walk_at "zs"
        exact ⟨mul_ok gs gs (by decide), by omega, mul_ok gs gs (by decide), small_fdv (by omega) n8, h p q m2 np nq (ext.trans x2) ⟨x2.at own.1, x2.at own.2⟩⟩
      · rw [if_neg (by omega)]
        rw [if_neg hg] at h
        exact ⟨mul_ok gs gs (by decide), small_fdv (by omega) n8, h p q _ np nq ext own⟩
end Zed
end
section
set_option maxHeartbeats 4000000
/-! ZCtxR: one way of a context, and the law of it. -/
namespace Zed
open PySem PySem.Spec PyProof.Rows L2
local macro_rules | `(tactic| walk_at "zs") => `(tactic| simp only [zv, zc, zop, zun, anil, acons, ztup, zfl, zlst, zbl, zcall, zcallK, tvl, ttr, tand, tor, tnot, zand, zor, zorT, znot, zif, zchn, zsl, onone, osome, zrev, zrevA, zisi, gn, gnil, gcons, gtup, gsub, snil, sseq, sexp, sret, sretN, sif, sasg, sset, spar, spar3, saug, wkL, zapp, zpop, zseal, xat, snever, tyes, ilist, itup, istr, irng1, irng2, irng3, ienum, ienumT, izip, irev, wipeZ, zev, oAddL, isNon, at2_if, iseq, ienumT, gstar, gtupA, saugS, oGetL, izipS, sl_0, sl_1, sl_2, sl_3, sl_4, sl_5, sl_6, sl_7, sl_8, at1_0, at2_0, at2_1, at3_0, at3_1, at3_2, at4_0, at4_1, at4_2, at4_3, at5_0, at5_1, at5_2, at5_3, at5_4, at6_0, at6_1, at6_2, at6_3, at6_4, at6_5, at7_0, at7_1, at7_2, at7_3, at7_4, at7_5, at7_6, at8_0, at8_1, at8_2, at8_3, at8_4, at8_5, at8_6, at8_7, ixn2_0, ixn2_1, ixn3_0, ixn3_1, ixn3_2, cp_2, vp_2, cp_3, vp_3, cp_6, vp_6, cp_7, vp_7, cp_18, vp_18, cp_60, vp_60, q_truD_1, q_truD_2, q_truD_3, q_truD_4, q_truD_5, q_truD_6, q_oAdd_1, q_oAdd_2, q_oAdd_3, q_oAdd_4, q_oInt_1, q_oSub_1, q_oLt_1, q_oEq_1, q_oNe_1, q_oNe_2, q_oEq_2, q_oIs_1, q_oIs_2, q_oIsNot_1, q_oIsNot_2, q_oNeg_1, q_cAbs_1, q_cMax_1, q_cMin_1, q_cInt_1, q_cInt_2, q_cDivmod_1, q_lenD_1, q_lenD_2, q_lenD_3, q_cLen_1, q_cTuple_1, q_cTuple_2, q_cTuple_3, q_cListF_1, q_cListF_2, q_cListF_3, q_cList_1, q_cList_2, q_seqD_1, q_seqD_2, q_lenD_4, q_oIx_1, q_oIx_2, q_oIx_4, q_oSl_1, q_oSl_2, q_oSl_3, q_oSl_4, q_tyD_1, q_tyD_2, q_tyD_3, q_tyD_4, q_tyD_5, q_tyD_6, q_cIsi_1, q_oSet_1, q_oIAdd_1, q_oIAdd_2, List.getD_cons_zero, List.getD_cons_succ, List.take_zero, List.drop_zero, updM_same, updM_upd, dropM_updM, isi_ii, isi_bi, isi_ib, isi_bb, isi_tt, List.map_cons, List.map_nil, List.replicate_succ, List.replicate_zero, List.cons_append, List.nil_append, List.append_nil, List.set_cons_zero, List.set_cons_succ, List.getElem?_cons_zero, List.getElem?_cons_succ, List.length_cons, List.length_nil, Bool.false_eq_true, if_true, if_false, Bool.not_true, Bool.not_false, Bool.not_eq_true, Bool.not_eq_false', decide_eq_true_eq, true_and, and_true, exists_eq_left', Nat.reduceAdd, Nat.reduceSub, reduceCtorEq, decide_true, decide_false, Bool.true_eq_false, ite_true, ite_false, isw_int, wh_int, fe_modulus, fe_base, fe_size, fe_raised, fe_great, fe_has_mont, fe_tables, fe_ways, fe_rows, fe_rest, fe_kept, fe_reduced, fe_plain, fe_barrett, fe_table, fe_mont, fb_modulus_base, fn_modulus_base, fb_modulus_size, fn_modulus_size, fb_modulus_raised, fn_modulus_raised, fb_modulus_great, fn_modulus_great, fb_modulus_has_mont, fn_modulus_has_mont, fb_modulus_tables, fn_modulus_tables, fb_modulus_ways, fn_modulus_ways, fb_modulus_rows, fn_modulus_rows, fb_modulus_rest, fn_modulus_rest, fb_modulus_kept, fn_modulus_kept, fb_modulus_reduced, fn_modulus_reduced, fb_modulus_plain, fn_modulus_plain, fb_modulus_barrett, fn_modulus_barrett, fb_modulus_table, fn_modulus_table, fb_modulus_mont, fn_modulus_mont, fb_base_modulus, fn_base_modulus, fb_base_size, fn_base_size, fb_base_raised, fn_base_raised, fb_base_great, fn_base_great, fb_base_has_mont, fn_base_has_mont, fb_base_tables, fn_base_tables, fb_base_ways, fn_base_ways, fb_base_rows, fn_base_rows, fb_base_rest, fn_base_rest, fb_base_kept, fn_base_kept, fb_base_reduced, fn_base_reduced, fb_base_plain, fn_base_plain, fb_base_barrett, fn_base_barrett, fb_base_table, fn_base_table, fb_base_mont, fn_base_mont, fb_size_modulus, fn_size_modulus, fb_size_base, fn_size_base, fb_size_raised, fn_size_raised, fb_size_great, fn_size_great, fb_size_has_mont, fn_size_has_mont, fb_size_tables, fn_size_tables, fb_size_ways, fn_size_ways, fb_size_rows, fn_size_rows, fb_size_rest, fn_size_rest, fb_size_kept, fn_size_kept, fb_size_reduced, fn_size_reduced, fb_size_plain, fn_size_plain, fb_size_barrett, fn_size_barrett, fb_size_table, fn_size_table, fb_size_mont, fn_size_mont, fb_raised_modulus, fn_raised_modulus, fb_raised_base, fn_raised_base, fb_raised_size, fn_raised_size, fb_raised_great, fn_raised_great, fb_raised_has_mont, fn_raised_has_mont, fb_raised_tables, fn_raised_tables, fb_raised_ways, fn_raised_ways, fb_raised_rows, fn_raised_rows, fb_raised_rest, fn_raised_rest, fb_raised_kept, fn_raised_kept, fb_raised_reduced, fn_raised_reduced, fb_raised_plain, fn_raised_plain, fb_raised_barrett, fn_raised_barrett, fb_raised_table, fn_raised_table, fb_raised_mont, fn_raised_mont, fb_great_modulus, fn_great_modulus, fb_great_base, fn_great_base, fb_great_size, fn_great_size, fb_great_raised, fn_great_raised, fb_great_has_mont, fn_great_has_mont, fb_great_tables, fn_great_tables, fb_great_ways, fn_great_ways, fb_great_rows, fn_great_rows, fb_great_rest, fn_great_rest, fb_great_kept, fn_great_kept, fb_great_reduced, fn_great_reduced, fb_great_plain, fn_great_plain, fb_great_barrett, fn_great_barrett, fb_great_table, fn_great_table, fb_great_mont, fn_great_mont, fb_has_mont_modulus, fn_has_mont_modulus, fb_has_mont_base, fn_has_mont_base, fb_has_mont_size, fn_has_mont_size, fb_has_mont_raised, fn_has_mont_raised, fb_has_mont_great, fn_has_mont_great, fb_has_mont_tables, fn_has_mont_tables, fb_has_mont_ways, fn_has_mont_ways, fb_has_mont_rows, fn_has_mont_rows, fb_has_mont_rest, fn_has_mont_rest, fb_has_mont_kept, fn_has_mont_kept, fb_has_mont_reduced, fn_has_mont_reduced, fb_has_mont_plain, fn_has_mont_plain, fb_has_mont_barrett, fn_has_mont_barrett, fb_has_mont_table, fn_has_mont_table, fb_has_mont_mont, fn_has_mont_mont, fb_tables_modulus, fn_tables_modulus, fb_tables_base, fn_tables_base, fb_tables_size, fn_tables_size, fb_tables_raised, fn_tables_raised, fb_tables_great, fn_tables_great, fb_tables_has_mont, fn_tables_has_mont, fb_tables_ways, fn_tables_ways, fb_tables_rows, fn_tables_rows, fb_tables_rest, fn_tables_rest, fb_tables_kept, fn_tables_kept, fb_tables_reduced, fn_tables_reduced, fb_tables_plain, fn_tables_plain, fb_tables_barrett, fn_tables_barrett, fb_tables_table, fn_tables_table, fb_tables_mont, fn_tables_mont, fb_ways_modulus, fn_ways_modulus, fb_ways_base, fn_ways_base, fb_ways_size, fn_ways_size, fb_ways_raised, fn_ways_raised, fb_ways_great, fn_ways_great, fb_ways_has_mont, fn_ways_has_mont, fb_ways_tables, fn_ways_tables, fb_ways_rows, fn_ways_rows, fb_ways_rest, fn_ways_rest, fb_ways_kept, fn_ways_kept, fb_ways_reduced, fn_ways_reduced, fb_ways_plain, fn_ways_plain, fb_ways_barrett, fn_ways_barrett, fb_ways_table, fn_ways_table, fb_ways_mont, fn_ways_mont, fb_rows_modulus, fn_rows_modulus, fb_rows_base, fn_rows_base, fb_rows_size, fn_rows_size, fb_rows_raised, fn_rows_raised, fb_rows_great, fn_rows_great, fb_rows_has_mont, fn_rows_has_mont, fb_rows_tables, fn_rows_tables, fb_rows_ways, fn_rows_ways, fb_rows_rest, fn_rows_rest, fb_rows_kept, fn_rows_kept, fb_rows_reduced, fn_rows_reduced, fb_rows_plain, fn_rows_plain, fb_rows_barrett, fn_rows_barrett, fb_rows_table, fn_rows_table, fb_rows_mont, fn_rows_mont, fb_rest_modulus, fn_rest_modulus, fb_rest_base, fn_rest_base, fb_rest_size, fn_rest_size, fb_rest_raised, fn_rest_raised, fb_rest_great, fn_rest_great, fb_rest_has_mont, fn_rest_has_mont, fb_rest_tables, fn_rest_tables, fb_rest_ways, fn_rest_ways, fb_rest_rows, fn_rest_rows, fb_rest_kept, fn_rest_kept, fb_rest_reduced, fn_rest_reduced, fb_rest_plain, fn_rest_plain, fb_rest_barrett, fn_rest_barrett, fb_rest_table, fn_rest_table, fb_rest_mont, fn_rest_mont, fb_kept_modulus, fn_kept_modulus, fb_kept_base, fn_kept_base, fb_kept_size, fn_kept_size, fb_kept_raised, fn_kept_raised, fb_kept_great, fn_kept_great, fb_kept_has_mont, fn_kept_has_mont, fb_kept_tables, fn_kept_tables, fb_kept_ways, fn_kept_ways, fb_kept_rows, fn_kept_rows, fb_kept_rest, fn_kept_rest, fb_kept_reduced, fn_kept_reduced, fb_kept_plain, fn_kept_plain, fb_kept_barrett, fn_kept_barrett, fb_kept_table, fn_kept_table, fb_kept_mont, fn_kept_mont, fb_reduced_modulus, fn_reduced_modulus, fb_reduced_base, fn_reduced_base, fb_reduced_size, fn_reduced_size, fb_reduced_raised, fn_reduced_raised, fb_reduced_great, fn_reduced_great, fb_reduced_has_mont, fn_reduced_has_mont, fb_reduced_tables, fn_reduced_tables, fb_reduced_ways, fn_reduced_ways, fb_reduced_rows, fn_reduced_rows, fb_reduced_rest, fn_reduced_rest, fb_reduced_kept, fn_reduced_kept, fb_reduced_plain, fn_reduced_plain, fb_reduced_barrett, fn_reduced_barrett, fb_reduced_table, fn_reduced_table, fb_reduced_mont, fn_reduced_mont, fb_plain_modulus, fn_plain_modulus, fb_plain_base, fn_plain_base, fb_plain_size, fn_plain_size, fb_plain_raised, fn_plain_raised, fb_plain_great, fn_plain_great, fb_plain_has_mont, fn_plain_has_mont, fb_plain_tables, fn_plain_tables, fb_plain_ways, fn_plain_ways, fb_plain_rows, fn_plain_rows, fb_plain_rest, fn_plain_rest, fb_plain_kept, fn_plain_kept, fb_plain_reduced, fn_plain_reduced, fb_plain_barrett, fn_plain_barrett, fb_plain_table, fn_plain_table, fb_plain_mont, fn_plain_mont, fb_barrett_modulus, fn_barrett_modulus, fb_barrett_base, fn_barrett_base, fb_barrett_size, fn_barrett_size, fb_barrett_raised, fn_barrett_raised, fb_barrett_great, fn_barrett_great, fb_barrett_has_mont, fn_barrett_has_mont, fb_barrett_tables, fn_barrett_tables, fb_barrett_ways, fn_barrett_ways, fb_barrett_rows, fn_barrett_rows, fb_barrett_rest, fn_barrett_rest, fb_barrett_kept, fn_barrett_kept, fb_barrett_reduced, fn_barrett_reduced, fb_barrett_plain, fn_barrett_plain, fb_barrett_table, fn_barrett_table, fb_barrett_mont, fn_barrett_mont, fb_table_modulus, fn_table_modulus, fb_table_base, fn_table_base, fb_table_size, fn_table_size, fb_table_raised, fn_table_raised, fb_table_great, fn_table_great, fb_table_has_mont, fn_table_has_mont, fb_table_tables, fn_table_tables, fb_table_ways, fn_table_ways, fb_table_rows, fn_table_rows, fb_table_rest, fn_table_rest, fb_table_kept, fn_table_kept, fb_table_reduced, fn_table_reduced, fb_table_plain, fn_table_plain, fb_table_barrett, fn_table_barrett, fb_table_mont, fn_table_mont, fb_mont_modulus, fn_mont_modulus, fb_mont_base, fn_mont_base, fb_mont_size, fn_mont_size, fb_mont_raised, fn_mont_raised, fb_mont_great, fn_mont_great, fb_mont_has_mont, fn_mont_has_mont, fb_mont_tables, fn_mont_tables, fb_mont_ways, fn_mont_ways, fb_mont_rows, fn_mont_rows, fb_mont_rest, fn_mont_rest, fb_mont_kept, fn_mont_kept, fb_mont_reduced, fn_mont_reduced, fb_mont_plain, fn_mont_plain, fb_mont_barrett, fn_mont_barrett, fb_mont_table, fn_mont_table, zattr, zmeth, zmethK, sfld, attrD_obj, attrD_ref, putD_nil, putD_cons, lk_nil, lk_cons, in_one, isObj_obj, mkCK, kwC, defC, zdget, zcallL, zblK, Option.map_some])
def c_due (P : Int → Int → Prop) (F : Int → Int → Int → List Int) : ZSp := fun ds m Q _ => ∃ (b n k : Int) (p q : Addr), ds = [ownF b n p q, .int n, .int b, .int k] ∧ CtxB b n ∧ P b n ∧ 0 ≤ k ∧ k < gtF b n * gtF b n ∧ OwnM b n m p q ∧ ∀ m', Ext m m' → Q (.fl ((F b n k).map .int)) m'
def c_bounds (P : Int → Int → Prop) (F : Int → Int → Int → List Int) : ZSp := fun ds m Q _ => ∃ (b n k : Int) (p q : Addr), ds = [ownF b n p q, .int n, .int b, .int k, .tup ((F b n k).map .int)] ∧ CtxB b n ∧ P b n ∧ 0 ≤ k ∧ k < gtF b n * gtF b n ∧ ∀ m', Ext m m' → Q (.bl true) m'
def c_right (cl : Str → Addr) (P : Int → Int → Prop) : ZSp := fun ds m Q _ => ∃ (b n k : Int) (p q : Addr), ds = [ctxD cl b n, ownF b n p q, .int n, .int b, .int k] ∧ CtxB b n ∧ P b n ∧ 0 ≤ k ∧ k < gtF b n * gtF b n ∧ OwnM b n m p q ∧ ∀ m', Ext m m' → Q (.bl true) m'
def FOk (P : Int → Int → Prop) (F : Int → Int → Int → List Int) : Prop := ∀ b n k, CtxB b n → P b n → 0 ≤ k → k < gtF b n * gtF b n → (F b n k).getLast? = some (k % n) ∧ (F b n k).length ≤ 50000
def b_gright (cl : Str → Addr) (P : Int → Int → Prop) (F : Int → Int → Int → List Int) (ws : List (Addr × ZSp)) (w : Str) : ZTS :=
  (sseq (sset (zbl (acons (zcall (c_due P F) (acons (zv 1) (acons (zv 2) (acons (zv 3) (acons (zv 4) anil))))) anil) cTuple) 5)
    (sseq (sset (zfl (acons (zmethK (cl "Context") "rows" (kwC (c_ctx_rows cl ws) 2 1) (zv 0) (acons (zv 4) anil) (acons (zc (.str w)) anil)) anil)) 6)
    (sseq (sif (tor (tnot (tvl (zbl (acons (zlc (iseq (zv 6)) (gn 7) tyes (zand (zcall c_are_whole (acons (zv 7) anil)) (zop oEq (zv 7) (zv 5))) [7]) anil) cAll))) (tvl (zop oNe (zop oIx (zv 5) (zun oNeg (zc (.int 1)))) (zop oMod (zv 4) (zv 2))))) (sret (zc (.bl false))) snil)
    (sseq (sset (zmethK (cl "Context") "rest" (kwC (c_ctx_rest cl ws) 2 1) (zv 0) (acons (zv 4) anil) (acons (zc (.str w)) anil)) 8)
    (sret (zand (zcall c_whole (acons (zv 8) anil)) (zand (zop oEq (zv 8) (zop oIx (zv 5) (zun oNeg (zc (.int 1))))) (zcall (c_bounds P F) (acons (zv 1) (acons (zv 2) (acons (zv 3) (acons (zv 4) (acons (zv 5) anil)))))))))))))
theorem own_0 {b n : Int} {p q : Addr} {m : Mu} {Q : QE} : oIx (ownF b n p q) (.int 0) m Q = Q (.int (szF b n)) m := by
  unfold ownF
  by_cases h : Int.gcd n b = 1
  · rw [if_pos h]; rfl
  · rw [if_neg h]; rfl
theorem own_1 {b n : Int} {p q : Addr} {m : Mu} {Q : QE} : oIx (ownF b n p q) (.int 1) m Q = Q (.int (gtF b n)) m := by
  unfold ownF
  by_cases h : Int.gcd n b = 1
  · rw [if_pos h]; rfl
  · rw [if_neg h]; rfl
theorem own_2 {b n : Int} {p q : Addr} {m : Mu} {Q : QE} : oIx (ownF b n p q) (.int 2) m Q = Q (.int (gtF b n * gtF b n / n)) m := by
  unfold ownF
  by_cases h : Int.gcd n b = 1
  · rw [if_pos h]; rfl
  · rw [if_neg h]; rfl
theorem own_3 {b n : Int} {p q : Addr} {m : Mu} {Q : QE} : oIx (ownF b n p q) (.int 3) m Q = Q (.ref p) m := by
  unfold ownF
  by_cases h : Int.gcd n b = 1
  · rw [if_pos h]; rfl
  · rw [if_neg h]; rfl
theorem own_4 {b n : Int} {p q : Addr} {m : Mu} {Q : QE} : oIx (ownF b n p q) (.int 4) m Q = Q (.ref q) m := by
  unfold ownF
  by_cases h : Int.gcd n b = 1
  · rw [if_pos h]; rfl
  · rw [if_neg h]; rfl
theorem own_5 {b n : Int} {p q : Addr} {m : Mu} {Q : QE} (h : Int.gcd n b = 1) : oIx (ownF b n p q) (.int 5) m Q = Q (.int (smF b n)) m := by
  unfold ownF
  rw [if_pos h]; rfl
theorem own_6 {b n : Int} {p q : Addr} {m : Mu} {Q : QE} (h : Int.gcd n b = 1) : oIx (ownF b n p q) (.int 6) m Q = Q (.int (gtF b n * gtF b n % n)) m := by
  unfold ownF
  rw [if_pos h]; rfl
theorem at_modulus {cl : Str → Addr} {b n : Int} {m : Mu} : attrD m "modulus" (ctxD cl b n) = some (cl "Context", .int n) := by
  unfold ctxD ctxF
  walk_at "zs"
theorem at_base {cl : Str → Addr} {b n : Int} {m : Mu} : attrD m "base" (ctxD cl b n) = some (cl "Context", .int b) := by
  unfold ctxD ctxF
  walk_at "zs"
theorem at_size {cl : Str → Addr} {b n : Int} {m : Mu} : attrD m "size" (ctxD cl b n) = some (cl "Context", .int (szF b n)) := by
  unfold ctxD ctxF
  walk_at "zs"
theorem at_raised {cl : Str → Addr} {b n : Int} {m : Mu} : attrD m "raised" (ctxD cl b n) = some (cl "Context", .tup ((pwl b (2 * szF b n + 1)).map .int)) := by
  unfold ctxD ctxF
  walk_at "zs"
theorem at_great {cl : Str → Addr} {b n : Int} {m : Mu} : attrD m "great" (ctxD cl b n) = some (cl "Context", .int (gtF b n)) := by
  unfold ctxD ctxF
  walk_at "zs"
theorem at_tables {cl : Str → Addr} {b n : Int} {m : Mu} : attrD m "tables" (ctxD cl b n) = some (cl "Context", .tup (tabF b n)) := by
  unfold ctxD ctxF
  walk_at "zs"
theorem tab_0 {b n : Int} {m : Mu} {Q : QE} : oIx (.tup (tabF b n)) (.int 0) m Q = Q (.int (gtF b n * gtF b n / n)) m := by
  unfold tabF
  by_cases h : Int.gcd n b = 1
  · rw [if_pos h]; rfl
  · rw [if_neg h]; rfl
theorem tab_1 {b n : Int} {m : Mu} {Q : QE} : oIx (.tup (tabF b n)) (.int 1) m Q = Q (.tup ((rst b n).map .int)) m := by
  unfold tabF
  by_cases h : Int.gcd n b = 1
  · rw [if_pos h]; rfl
  · rw [if_neg h]; rfl
theorem tab_2 {b n : Int} {m : Mu} {Q : QE} : oIx (.tup (tabF b n)) (.int 2) m Q = Q (.tup ((dbls n (gtF b n)).map .int)) m := by
  unfold tabF
  by_cases h : Int.gcd n b = 1
  · rw [if_pos h]; rfl
  · rw [if_neg h]; rfl
theorem tab_3 {b n : Int} {m : Mu} {Q : QE} (h : Int.gcd n b = 1) : oIx (.tup (tabF b n)) (.int 3) m Q = Q (.int (smF b n)) m := by
  unfold tabF
  rw [if_pos h]; rfl
theorem tab_4 {b n : Int} {m : Mu} {Q : QE} (h : Int.gcd n b = 1) : oIx (.tup (tabF b n)) (.int 4) m Q = Q (.int (gtF b n * gtF b n % n)) m := by
  unfold tabF
  rw [if_pos h]; rfl
theorem ctx_fold {cl : Str → Addr} {b n : Int} : D.obj (cl "Context") (ctxF b n) = ctxD cl b n := rfl
theorem io_rows {cl : Str → Addr} {b n : Int} {m : Mu} : isObj (cl "Context") "rows" m (ctxD cl b n) := by
  unfold ctxD ctxF
  walk_at "zs"
theorem io_rest {cl : Str → Addr} {b n : Int} {m : Mu} : isObj (cl "Context") "rest" m (ctxD cl b n) := by
  unfold ctxD ctxF
  walk_at "zs"
theorem w_gright {cl : Str → Addr} {P : Int → Int → Prop} {F : Int → Int → Int → List Int} {ws : List (Addr × ZSp)} {w : Str} {f : Addr} (hw : ∀ b n, CtxB b n → P b n → WayF cl b n w f) (hm : (f, c_way cl P F) ∈ ws) (hF : FOk P F)
    (ds : List D) (m : Mu) (Q : QE) (E : QX) (h : c_right cl P ds m Q E) : ds.length = 5 ∧ b_gright cl P F ws w ⟨fun _ m => Q .non m, Q, fun x _ m => E x m⟩ (ds.map some ++ List.replicate (9 - ds.length) none) m := by
  obtain ⟨b, n, k, p, q, rfl, hc, hP, k0, k1, hO, h⟩ := h
  refine ⟨rfl, ?_⟩
  obtain ⟨f1, f2⟩ := hF b n k hc hP k0 k1
  have hw := hw b n hc hP
  obtain ⟨h1, h2, h3, h4⟩ := id hc
  unfold b_gright
  walk_at "zs"
  refine ⟨b, n, k, p, q, rfl, hc, hP, k0, k1, hO, fun m1 x1 => ?_⟩
  walk_at "zs"
  refine ⟨io_rows, b, n, k, w, f, _, rfl, hc, k0, k1, hw, hm, b, n, k, rfl, hc, hP, k0, k1, fun m2 x2 => ?_⟩
  walk_at "zs"
  rw [comp_e]
  walk_at "zs"
  refine comp_map (fun _ => .bl true) (by show (1 : Nat) ≤ _; decide) trivial (fun i hi K1 K2 hK => ?_) ?_
  · have hi' : i < 1 := hi
    have i0 : i = 0 := by omega
    subst i0
    walk_at "zs"
    refine ⟨F b n k, rfl, by omega, ?_⟩
    walk_at "zs"
    refine oEq_tup (pl_tup _) (by decide) ?_
    exact hK
  · rw [rng_bl]
    refine cAll_bls ?_
    rw [all_rep]
    walk_at "zs"
    rw [atI_last_int f1]
    walk_at "zs"
    refine ⟨by omega, io_rest, b, n, k, w, f, _, rfl, hc, k0, k1, hw, hm, b, n, k, rfl, hc, hP, k0, k1, fun m3 x3 => ?_⟩
    walk_at "zs"
    rw [atI_last_int f1]
    walk_at "zs"
    exact ⟨b, n, k, p, q, rfl, hc, hP, k0, k1, fun m4 x4 => h m4 (((x1.trans x2).trans x3).trans x4)⟩
def t_glaw2 (cl : Str → Addr) (P : Int → Int → Prop) : ZTS :=
  (sseq (sasg (ztup (acons (zcall c_ltables (acons (zv 4) (acons (zv 3) anil))) (acons (zcallK (mkCK (cl "Context") (kwC (c_ctx_init cl) 2 1)) (acons (zv 4) anil) (acons (zv 3) anil)) anil))) (gtup 2 (gcons (gn 5) (gcons (gn 6) gnil))))
    (sseq (sset (zlc (irng1 (acons (zc (.int 4)) anil)) (gn 8) tyes (zcall c_lnumber (acons (zv 2) (acons (zv 4) (acons (zv 3) (acons (zop oIx (zv 5) (zc (.int 1))) anil))))) [8]) 7)
    (sif (tnot (tvl (zbl (acons (zlc (iseq (zop oAddL (zv 7) (zsl (zv 7) onone (osome (zc (.int 1)))))) (gn 9) tyes (zcall (c_right cl P) (acons (zv 6) (acons (zv 5) (acons (zv 4) (acons (zv 3) (acons (zv 9) anil)))))) [9]) anil) cAll))) (sret (zc (.bl false))) snil)))
theorem tail_glaw2 {cl : Str → Addr} {P : Int → Int → Prop} {Dz : ZEnds} {p : Addr} {K : Nat} {b n : Int} {m : Mu} {a c x y z w u : Option D} (hc : CtxB b n) (hP : P b n) (hp : Pool m p K) (hK : K ≤ 1000)
    (h : ∀ m1 x5 x6 x7 x8 x9, Dz.nx [a, c, some (.ref p), some (.int b), some (.int n), x5, x6, x7, x8, x9] m1) : t_glaw2 cl P Dz [a, c, some (.ref p), some (.int b), some (.int n), x, y, z, w, u] m := by
  unfold t_glaw2
  walk_at "zs"
  refine ⟨b, n, rfl, hc, fun q1 q2 m1 nq1 nq2 x1 hO => ?_⟩
  walk_at "zs"
  intro r nr
  refine ⟨r, b, n, rfl, hc, updM_same, fun m2 x2 hr => ⟨rfl, _, hr, ?_⟩⟩
  rw [ctx_fold]
  have xM : Ext m (dropM m2 r) := x1.trans fun c hc1 => by
    have hcr : c ≠ r := fun e => hc1 (by rw [e]; exact nr)
    unfold dropM
    rw [if_neg hcr, x2 c hcr (by rw [updM_ne hcr]; exact hc1), updM_ne hcr]
  have oM : OwnM b n (dropM m2 r) q1 q2 := by
    have step : ∀ c o, m1 c = some o → dropM m2 r c = some o := fun c o ho => by
      have hcr : c ≠ r := fun e => by rw [e, nr] at ho; cases ho
      unfold dropM
      rw [if_neg hcr, x2 c hcr (by rw [updM_ne hcr, ho]; exact fun e => by cases e), updM_ne hcr, ho]
    exact ⟨step _ _ hO.1, step _ _ hO.2⟩
  have hq1 : q1 ≠ p := fun e => by
    obtain ⟨_, _, _, e2, _⟩ := hp
    rw [e, e2] at nq1
    cases nq1
  have hq2 : q2 ≠ p := fun e => by
    obtain ⟨_, _, _, e2, _⟩ := hp
    rw [e, e2] at nq2
    cases nq2
  have pM := hp.ext xM
  generalize dropM m2 r = M at *
  rw [comp_e]
  walk_at "zs"
  refine ⟨by decide, ?_⟩
  refine comp_i (fun i acc m' => i ≤ 4 ∧ ∃ ks : List Int, acc = ks.map .int ∧ ks.length = i ∧ (∀ k ∈ ks, 0 ≤ k ∧ k < gtF b n * gtF b n) ∧ PX p (K + 10 * i) M m') ⟨by decide, [], rfl, rfl, fun k hk => (by cases hk), fun _ _ _ => rfl, pM⟩ ?_
  rintro i acc m' ⟨hi, ks, rfl, kl, kb, pX⟩
  refine ⟨trivial, fun hlt => ?_, fun e => ?_⟩
  · have hlt' : i < 4 := hlt
    walk_at "zs"
    rw [own_1]
    refine ⟨p, b, n, K + 10 * i, rfl, hc, pX.2, by omega, fun k m3 k0 k1 pX2 => ⟨by rw [List.length_map, sizeLine_eq]; omega, by omega, ks ++ [k], by rw [List.map_append]; rfl, by rw [List.length_append, kl]; rfl, fun y hy => ?_, (pX.trans pX2).more (by omega)⟩⟩
    rcases List.mem_append.mp hy with hy | hy
    · exact kb y hy
    · rw [List.mem_singleton.mp hy]
      exact ⟨k0, k1⟩
  · rw [comp_e]
    walk_at "zs"
    have ec : cutG (ks.map D.int) none (some 1) = (ks.take 1).map .int := by
      have e4 : i = 4 := e
      rw [List.map_take]
      unfold cutG
      rw [List.length_map, kl, e4]
      rfl
    rw [ec, ← List.map_append]
    have kb2 : ∀ k ∈ ks ++ ks.take 1, 0 ≤ k ∧ k < gtF b n * gtF b n := fun k hk => by
      rcases List.mem_append.mp hk with hk | hk
      · exact kb k hk
      · exact kb k (List.mem_of_mem_take hk)
    have kl2 : (ks ++ ks.take 1).length ≤ 8 := by
      rw [List.length_append, List.length_take]
      omega
    generalize ks ++ ks.take 1 = js at *
    have oM' : OwnM b n m' q1 q2 := ⟨by rw [pX.1 q1 hq1 (by rw [oM.1]; exact fun e => by cases e)]; exact oM.1, by rw [pX.1 q2 hq2 (by rw [oM.2]; exact fun e => by cases e)]; exact oM.2⟩
    refine ⟨by rw [List.length_map, List.length_map, List.length_take, sizeLine_eq]; omega, ?_⟩
    refine comp_i (fun i acc m2 => i ≤ js.length ∧ acc = List.replicate i (.bl true) ∧ Ext m' m2) ⟨Nat.zero_le _, rfl, Ext.refl _⟩ ?_
    rintro i2 acc m2 ⟨hi2, rfl, xm⟩
    refine ⟨trivial, fun hlt => ?_, fun e => ?_⟩
    · have hi' := lt_len hlt
      show gn 9 ((js.map D.int).getD i2 .non) _ _ _ _
      rw [getD_ints, if_pos hi']
      walk_at "zs"
      have gx : js.getD i2 0 = js[i2] := by rw [List.getD_eq_getElem?_getD, List.getElem?_eq_getElem hi']; rfl
      have kk := kb2 js[i2] (List.getElem_mem hi')
      rw [gx]
      refine ⟨b, n, js[i2], q1, q2, rfl, hc, hP, kk.1, kk.2, ⟨xm.at oM'.1, xm.at oM'.2⟩, fun m3 x3 => ⟨by rw [List.length_replicate, sizeLine_eq]; omega, hi', (List.replicate_succ' (n := i2) (a := D.bl true)).symm, xm.trans x3⟩⟩
    · rw [show List.replicate i2 (D.bl true) = (List.replicate i2 true).map .bl by simp]
      refine cAll_bls ?_
      rw [all_rep]
      walk_at "zs"
      exact h _ _ _ _ _ _
def b_glaw (cl : Str → Addr) : ZTS :=
  (sseq (sfor (irng1 (acons (zbl (acons (zc (.int 1)) (acons (zbl (acons (zbl (acons (zv 0) anil) cLen) (acons (zc (.int 5)) anil)) cMin) anil)) cMax) anil)) (gn 1) (sseq (sset (zcall c_pool (acons (zcall c_cell (acons (zv 0) (acons (zv 1) anil))) anil)) 2)
    (sseq (sset (zcall c_lfoot (acons (zv 2) anil)) 3)
    (sseq (sset (zcall c_lmodulus (acons (zv 2) (acons (zv 3) anil))) 4)
    (t_glaw2 cl PT)))))
    (sret (zc (.bl true))))
def c_glaw : ZSp := fun ds m Q _ => ∃ ns : List Int, ds = [.fl (ns.map .int)] ∧ ns.length ≤ 63 ∧ ∀ m, Q (.bl true) m
theorem w_glaw (cl : Str → Addr) (ds : List D) (m : Mu) (Q : QE) (E : QX) (h : c_glaw ds m Q E) : ds.length = 1 ∧ b_glaw cl ⟨fun _ m => Q .non m, Q, fun x _ m => E x m⟩ (ds.map some ++ List.replicate (10 - ds.length) none) m := by
  obtain ⟨ns, rfl, hn, h⟩ := h
  refine ⟨rfl, ?_⟩
  unfold b_glaw
  walk_at "zs"
  refine for_i ?_
  walk_at "zs"
  rw [List.length_map]
  generalize hN : (if (if (5 : Int) < ns.length then (5 : Int) else ns.length) > 1 then (if (5 : Int) < ns.length then (5 : Int) else ns.length) else 1) = N
  have hN0 : 0 ≤ N ∧ N ≤ 5 := by omega
  refine ⟨by omega, ?_⟩
  obtain ⟨I, hI⟩ : ∃ I : Nat → ZEnv → Mu → Prop, I = fun i ρ m' => ∃ a b c d e f g h_ k, i ≤ 5 ∧ ρ = [some (.fl (ns.map .int)), a, b, c, d, e, f, g, h_, k] := ⟨_, rfl⟩
  refine loop_i I (by rw [hI]; exact ⟨_, _, _, _, _, _, _, _, _, by decide, rfl⟩) fun i ρ m0 hi => ?_
  rw [hI] at hi
  obtain ⟨a, b, c, d, e, f, g, h_, k, hi, rfl⟩ := hi
  refine ⟨trivial, fun hlt => ?_, fun e => ?_⟩
  · have hlt' : i < N.toNat := hlt
    walk_at "zs"
    refine ⟨ns, i, rfl, by omega, hn, fun i0 => ⟨i0, rfl, fun p np m1 hp hx1 => ?_⟩⟩
    walk_at "zs"
    refine ⟨p, 0, rfl, hp, by omega, fun b m2 b0 b1 hm2 => ?_⟩
    walk_at "zs"
    refine ⟨p, b, _, rfl, hm2.pool, by omega, b0, b1, fun n m3 hc hm3 => ?_⟩
    walk_at "zs"
    refine tail_glaw2 hc trivial hm3.pool (by omega) fun m4 x5 x6 x7 x8 x9 => ?_
    walk_at "zs"
    rw [hI]
    exact ⟨_, _, _, _, _, _, _, _, _, by omega, rfl⟩
  · walk_at "zs"
    exact h _
end Zed
end
section
set_option maxHeartbeats 4000000
/-! ZCtxS: the small number. -/
namespace Zed
open PySem PySem.Spec PyProof.Rows L2
theorem bez : ∀ (k b a : Nat), b ≤ k → ∃ s t : Int, s * a + t * b = Nat.gcd a b
  | 0, b, a, h => by
    have : b = 0 := by omega
    subst this
    exact ⟨1, 0, by rw [Nat.gcd_zero_right]; omega⟩
  | k + 1, b, a, h => by
    by_cases hb : b = 0
    · subst hb
      exact ⟨1, 0, by rw [Nat.gcd_zero_right]; omega⟩
    · have hl := Nat.mod_lt a (show 0 < b by omega)
      obtain ⟨s, t, e⟩ := bez k (a % b) b (by omega)
      have e2 : Nat.gcd a b = Nat.gcd b (a % b) := by rw [Nat.gcd_comm a b, Nat.gcd_rec b a, Nat.gcd_comm]
      have e3 := Nat.div_add_mod a b
      refine ⟨t, s - t * ((a / b : Nat) : Int), ?_⟩
      rw [e2, ← e]
      have e4 : ((a : Nat) : Int) = (b : Int) * ((a / b : Nat) : Int) + ((a % b : Nat) : Int) := by exact_mod_cast e3.symm
      generalize ((a / b : Nat) : Int) = u at *
      generalize ((a % b : Nat) : Int) = v at *
      rw [e4]
      grind
theorem smF_ok {b n : Int} (h : CtxB b n) (hg : Int.gcd n b = 1) : (n * smF b n + 1) % b = 0 ∧ 0 ≤ smF b n ∧ smF b n < b := by
  obtain ⟨h1, h2, h3, h4⟩ := h
  obtain ⟨s, t, e⟩ := bez b.toNat b.toNat n.toNat (Nat.le_refl _)
  have eg : Nat.gcd n.toNat b.toNat = 1 := by
    have : Int.gcd n b = Nat.gcd n.natAbs b.natAbs := rfl
    rw [show n.toNat = n.natAbs by omega, show b.toNat = b.natAbs by omega, ← this, hg]
  rw [eg, show ((n.toNat : Nat) : Int) = n by omega, show ((b.toNat : Nat) : Int) = b by omega] at e
  have hs : (n * (-s % b) + 1) % b = 0 := by
    have e6 := Int.emod_add_mul_ediv (-s) b
    refine Int.emod_eq_zero_of_dvd ⟨t - n * (-s / b), ?_⟩
    have e7 : (1 : Int) = s * n + t * b := by rw [e]; rfl
    have e4 : -s % b = -s - b * (-s / b) := by omega
    rw [e4]
    grind
  have s0 := Int.emod_nonneg (-s) (show b ≠ 0 by omega)
  have s1 := Int.emod_lt_of_pos (-s) (show 0 < b by omega)
  rw [smF_eq (by omega) s0 s1 hs]
  exact ⟨hs, s0, s1⟩
end Zed
end
section
set_option maxHeartbeats 4000000
/-! ZTab: a table's folds. -/
namespace Zed
open PySem PySem.Spec PyProof.Rows L2
/-- products beyond -/
def zs (b n : Int) : List Int → Nat → Int
  | [], _ => 0
  | l :: ls, j => l * (b ^ j % n) + zs b n ls (j + 1)
def dsum : List Int → Int
  | [] => 0
  | l :: ls => l + dsum ls
theorem digs_drop {b : Int} (hb : 2 ≤ b) : ∀ (k : Nat) (x : Int), 0 ≤ x → (digs b x).drop k = digs b (x / b ^ k)
  | 0, x, _ => by rw [Int.pow_zero, Int.ediv_one, List.drop_zero]
  | k + 1, x, h => by
    by_cases hx : 0 < x
    · rw [digs_pos hb hx]
      show (digs b (x / b)).drop k = _
      rw [digs_drop hb k (x / b) (Int.ediv_nonneg h (by omega)), Int.ediv_ediv_of_nonneg (by omega), Int.pow_succ, Int.mul_comm]
    · have : x = 0 := by omega
      subst this
      rw [digs_zero (by omega), Int.zero_ediv, digs_zero (by omega)]
      rfl
theorem vals_cons {b x : Int} {xs : List Int} : vals b (x :: xs) = x + b * vals b xs := rfl
theorem zs_ok {b n g : Int} (hb : 2 ≤ b) (hn : 0 < n) (hg : n < g) : ∀ (ls : List Int) (j : Nat), g ≤ b ^ j → (∀ l ∈ ls, 0 ≤ l) →
    0 ≤ zs b n ls j ∧ n ∣ zs b n ls j - b ^ j * vals b ls ∧ 2 * zs b n ls j ≤ b ^ j * vals b ls - dsum ls ∧ zs b n ls j ≤ (n - 1) * dsum ls ∧ dsum ls ≤ vals b ls ∧ 0 ≤ dsum ls ∧ (0 < vals b ls → 1 ≤ dsum ls)
  | [], j, _, _ => by
    have : vals b [] = 0 := rfl
    rw [this]
    exact ⟨Int.le_refl _, ⟨0, by show (0 : Int) - _ = _; omega⟩, by show 2 * (0 : Int) ≤ _ - (0 : Int); omega, by show (0 : Int) ≤ _ * (0 : Int); omega, Int.le_refl _, Int.le_refl _, fun h => by omega⟩
  | l :: ls, j, hj, hl => by
    have l0 := hl l List.mem_cons_self
    have e1 : b ^ (j + 1) = b ^ j * b := Int.pow_succ _ _
    have hj1 : g ≤ b ^ (j + 1) := by
      have := Int.mul_le_mul_of_nonneg_left (show (1 : Int) ≤ b by omega) (show 0 ≤ b ^ j by omega)
      omega
    obtain ⟨a1, ⟨c, a2⟩, a3, a4, a5, a6, a7⟩ := zs_ok hb hn hg ls (j + 1) hj1 fun y hy => hl y (List.mem_cons_of_mem _ hy)
    have r0 := Int.emod_nonneg (b ^ j) (show n ≠ 0 by omega)
    have r1 := Int.emod_lt_of_pos (b ^ j) hn
    have r2 := Int.mul_ediv_add_emod (b ^ j) n
    have q1 : 1 ≤ b ^ j / n := Int.le_ediv_of_mul_le hn (by omega)
    have q2 : n ≤ n * (b ^ j / n) := by
      have := Int.mul_le_mul_of_nonneg_left q1 (show 0 ≤ n by omega)
      omega
    rw [vals_cons]
    have z : zs b n (l :: ls) j = l * (b ^ j % n) + zs b n ls (j + 1) := rfl
    have d : dsum (l :: ls) = l + dsum ls := rfl
    rw [z, d]
    have v : b ^ j * (l + b * vals b ls) = l * b ^ j + b ^ (j + 1) * vals b ls := by rw [e1]; grind
    rw [v]
    have p0 : 0 ≤ l * (b ^ j % n) := Int.mul_nonneg l0 r0
    have p1 : l * (2 * (b ^ j % n)) ≤ l * (b ^ j - 1) := Int.mul_le_mul_of_nonneg_left (by omega) l0
    have p2 : l * (b ^ j - 1) = l * b ^ j - l := by rw [Int.mul_sub, Int.mul_one]
    have p3 : l * (2 * (b ^ j % n)) = 2 * (l * (b ^ j % n)) := by grind
    have p4 : l * (b ^ j % n) ≤ l * (n - 1) := Int.mul_le_mul_of_nonneg_left (by omega) l0
    have p5 : (n - 1) * (l + dsum ls) = l * (n - 1) + (n - 1) * dsum ls := by grind
    have p6 : vals b ls ≤ b * vals b ls := by
      have := Int.mul_le_mul_of_nonneg_right (show (1 : Int) ≤ b by omega) (show 0 ≤ vals b ls by omega)
      omega
    refine ⟨by omega, ⟨c - l * (b ^ j / n), ?_⟩, by omega, by omega, by omega, by omega, fun h => ?_⟩
    · rw [Int.mul_sub, ← a2]
      grind
    · by_cases hv : 0 < vals b ls
      · have := a7 hv
        omega
      · have : vals b ls = 0 := by omega
        rw [this] at h
        omega
/-- one fold -/
def foF (b n x : Int) : Int := zs b n ((digs b x).drop (szF b n)) (szF b n) + x % gtF b n
theorem fo_ok {b n x : Int} (hc : CtxB b n) (x0 : gtF b n ≤ x) (x1 : x < gtF b n * gtF b n) : 0 ≤ foF b n x ∧ n ∣ foF b n x - x ∧ 2 * foF b n x ≤ x + gtF b n - 2 ∧ foF b n x ≤ (gtF b n - 1) * n := by
  obtain ⟨c1, c2, c3, c4⟩ := id hc
  have gp := hc.pos
  have hgt := hc.gt
  have hx : 0 ≤ x := by omega
  have dr := digs_drop c1 (szF b n) x hx
  have eg : b ^ szF b n = gtF b n := rfl
  rw [eg] at dr
  have h0 : 0 ≤ x / gtF b n := Int.ediv_nonneg hx (by omega)
  have h1 : x / gtF b n < gtF b n := Int.ediv_lt_of_lt_mul gp x1
  have h2 : 1 ≤ x / gtF b n := Int.le_ediv_of_mul_le gp (by omega)
  have hm : ∀ l ∈ digs b (x / gtF b n), 0 ≤ l := fun l hl => (digs_mem c1 l hl).1
  obtain ⟨a1, a2, a3, a4, a5, a6, a7⟩ := zs_ok c1 (show 0 < n by omega) hgt (digs b (x / gtF b n)) (szF b n) (Int.le_refl _) hm
  rw [vals_digs c1 h0, eg] at a2 a3
  rw [vals_digs c1 h0] at a5 a7
  have y0 := Int.emod_nonneg x (show gtF b n ≠ 0 by omega)
  have y1 := Int.emod_lt_of_pos x gp
  have e := Int.emod_add_mul_ediv x (gtF b n)
  have a8 := a7 (by omega)
  unfold foF
  rw [dr]
  generalize zs b n (digs b (x / gtF b n)) (szF b n) = w at *
  generalize dsum (digs b (x / gtF b n)) = s at *
  refine ⟨by omega, ?_, by omega, ?_⟩
  · obtain ⟨c, hcc⟩ := a2
    exact ⟨c, by omega⟩
  · have p : (n - 1) * s ≤ (n - 1) * (gtF b n - 1) := Int.mul_le_mul_of_nonneg_left (by omega) (by omega)
    have p2 : (n - 1) * (gtF b n - 1) = (gtF b n - 1) * n - (gtF b n - 1) := by grind
    omega
/-- folds, one after the other -/
def chF (b n : Int) : Nat → Int → List Int
  | 0, _ => []
  | f + 1, x => if gtF b n ≤ x then foF b n x :: chF b n f (foF b n x) else []
def chL (b n : Int) : Nat → Int → Int
  | 0, x => x
  | f + 1, x => if gtF b n ≤ x then chL b n f (foF b n x) else x
def Dec : Int → List Int → Prop
  | _, [] => True
  | x, y :: ys => y < x ∧ Dec y ys
theorem ch_end {b n x : Int} (h : x < gtF b n) : ∀ f, chF b n f x = [] ∧ chL b n f x = x
  | 0 => ⟨rfl, rfl⟩
  | f + 1 => by
    constructor
    · show (if gtF b n ≤ x then _ else _) = []
      rw [if_neg (by omega)]
    · show (if gtF b n ≤ x then _ else _) = x
      rw [if_neg (by omega)]
theorem ch_ok {b n : Int} (hc : CtxB b n) : ∀ (f : Nat) (x : Int), 0 ≤ x → x < gtF b n * gtF b n → x - gtF b n + 2 ≤ 2 ^ f →
    0 ≤ chL b n f x ∧ chL b n f x < gtF b n ∧ n ∣ chL b n f x - x ∧ Dec x (chF b n f x) ∧ (x :: chF b n f x).getLast? = some (chL b n f x) ∧ (gtF b n ≤ x → (2 : Int) ^ (chF b n f x).length ≤ x - gtF b n + 2)
  | 0, x, h0, h1, h2 => by
    rw [Int.pow_zero] at h2
    exact ⟨h0, by show x < _; omega, ⟨0, by show x - x = _; omega⟩, True.intro, rfl, fun h => by omega⟩
  | f + 1, x, h0, h1, h2 => by
    by_cases hx : gtF b n ≤ x
    · obtain ⟨a1, ⟨c, a2⟩, a3, a4⟩ := fo_ok hc hx h1
      rw [Int.pow_succ] at h2
      have gp := hc.pos
      have ef : chF b n (f + 1) x = foF b n x :: chF b n f (foF b n x) := if_pos hx
      have el : chL b n (f + 1) x = chL b n f (foF b n x) := if_pos hx
      obtain ⟨b1, b2, ⟨d, b3⟩, b4, b5, b6⟩ := ch_ok hc f (foF b n x) a1 (by omega) (by omega)
      rw [ef, el]
      refine ⟨b1, b2, ⟨d + c, by rw [Int.mul_add]; omega⟩, ⟨by omega, b4⟩, ?_, fun _ => ?_⟩
      · rw [List.getLast?_cons_cons]
        exact b5
      · rw [List.length_cons, Int.pow_succ]
        by_cases hy : gtF b n ≤ foF b n x
        · have := b6 hy
          omega
        · rw [(ch_end (by omega) f).1]
          show (2 : Int) ^ 0 * 2 ≤ _
          rw [Int.pow_zero]
          omega
    · obtain ⟨e1, e2⟩ := ch_end (b := b) (n := n) (x := x) (by omega) (f + 1)
      rw [e1, e2]
      exact ⟨h0, by omega, ⟨0, by omega⟩, True.intro, rfl, fun h => absurd h hx⟩
/-- multiples taken off -/
def sbF : List Int → Int → List Int
  | [], _ => []
  | m :: ms, x => if m ≤ x then (x - m) :: sbF ms (x - m) else sbF ms x
def sbL : List Int → Int → Int
  | [], x => x
  | m :: ms, x => sbL ms (if m ≤ x then x - m else x)
theorem sb_last : ∀ (ms : List Int) (x : Int), (x :: sbF ms x).getLast? = some (sbL ms x)
  | [], x => rfl
  | m :: ms, x => by
    by_cases h : m ≤ x
    · have e : sbF (m :: ms) x = (x - m) :: sbF ms (x - m) := if_pos h
      have e2 : sbL (m :: ms) x = sbL ms (x - m) := by show sbL ms (if m ≤ x then x - m else x) = _; rw [if_pos h]
      rw [e, e2, List.getLast?_cons_cons]
      exact sb_last ms (x - m)
    · have e : sbF (m :: ms) x = sbF ms x := if_neg h
      have e2 : sbL (m :: ms) x = sbL ms x := by show sbL ms (if m ≤ x then x - m else x) = _; rw [if_neg h]
      rw [e, e2]
      exact sb_last ms x
theorem sb_len : ∀ (ms : List Int) (x : Int), (sbF ms x).length ≤ ms.length
  | [], x => Nat.le_refl _
  | m :: ms, x => by
    show (if m ≤ x then (x - m) :: sbF ms (x - m) else sbF ms x).length ≤ _
    split
    · exact Nat.succ_le_succ (sb_len ms _)
    · exact Nat.le_succ_of_le (sb_len ms x)
theorem sb_dec : ∀ (ms : List Int) (x : Int), (∀ m ∈ ms, 0 < m) → Dec x (sbF ms x)
  | [], x, _ => True.intro
  | m :: ms, x, h => by
    have hm := h m List.mem_cons_self
    by_cases hx : m ≤ x
    · have e : sbF (m :: ms) x = (x - m) :: sbF ms (x - m) := if_pos hx
      rw [e]
      exact ⟨by omega, sb_dec ms (x - m) fun y hy => h y (List.mem_cons_of_mem _ hy)⟩
    · have e : sbF (m :: ms) x = sbF ms x := if_neg hx
      rw [e]
      exact sb_dec ms x fun y hy => h y (List.mem_cons_of_mem _ hy)
theorem sbL_app : ∀ (A B : List Int) (x : Int), sbL (A ++ B) x = sbL B (sbL A x)
  | [], _, _ => rfl
  | m :: A, B, x => sbL_app A B _
theorem dec_app : ∀ (A B : List Int) (x y : Int), Dec x A → (x :: A).getLast? = some y → Dec y B → Dec x (A ++ B)
  | [], B, x, y, _, h, hB => by
    have : x = y := Option.some.inj h
    subst this
    exact hB
  | a :: A, B, x, y, hA, h, hB => by
    rw [List.getLast?_cons_cons] at h
    exact ⟨hA.1, dec_app A B a y hA.2 h hB⟩
theorem dec_at : ∀ (l : List Int) (x : Int), Dec x l → ∀ i, i < l.length → (x :: l).getD (i + 1) 0 < (x :: l).getD i 0
  | [], _, _, _, h => by cases h
  | y :: ys, x, hd, 0, _ => hd.1
  | y :: ys, x, hd, i + 1, h => dec_at ys y hd.2 i (Nat.lt_of_succ_lt_succ h)
theorem dbls_pos : ∀ (k : Nat) (x g : Int), 0 < x → g ≤ x * 2 ^ k → ∀ m ∈ dbls x g, 0 < m
  | 0, x, g, h0, h, m, hm => by
    rw [dbls_end (by omega)] at hm
    cases hm
  | k + 1, x, g, h0, h, m, hm => by
    by_cases hx : x < g
    · rw [dbls_step h0 hx] at hm
      rcases List.mem_cons.mp hm with rfl | hm
      · exact h0
      · exact dbls_pos k (x * 2) g (by omega) (by rw [Int.mul_assoc, ← Int.pow_succ']; exact h) m hm
    · rw [dbls_end (by omega)] at hm
      cases hm
theorem sb_dbls : ∀ (k : Nat) (x g y : Int), 0 < x → g ≤ x * 2 ^ k → 0 ≤ y → y < g ∨ y < x → 0 ≤ sbL (dbls x g).reverse y ∧ sbL (dbls x g).reverse y < x ∧ x ∣ sbL (dbls x g).reverse y - y
  | 0, x, g, y, h0, h, y0, y1 => by
    rw [dbls_end (by omega)]
    exact ⟨y0, by show y < x; omega, ⟨0, by show y - y = _; omega⟩⟩
  | k + 1, x, g, y, h0, h, y0, y1 => by
    by_cases hx : x < g
    · rw [dbls_step h0 hx, List.reverse_cons, sbL_app]
      obtain ⟨a1, a2, c, a3⟩ := sb_dbls k (x * 2) g y (by omega) (by rw [Int.mul_assoc, ← Int.pow_succ']; exact h) y0 (by omega)
      generalize sbL (dbls (x * 2) g).reverse y = z at *
      show 0 ≤ (if x ≤ z then z - x else z) ∧ (if x ≤ z then z - x else z) < x ∧ x ∣ (if x ≤ z then z - x else z) - y
      have a3' : z - y = x * (2 * c) := by rw [a3, Int.mul_assoc]
      by_cases hz : x ≤ z
      · rw [if_pos hz]
        exact ⟨by omega, by omega, ⟨2 * c - 1, by rw [Int.mul_sub]; omega⟩⟩
      · rw [if_neg hz]
        exact ⟨a1, by omega, ⟨2 * c, by omega⟩⟩
    · rw [dbls_end (by omega)]
      exact ⟨y0, by show y < x; omega, ⟨0, by show y - y = _; omega⟩⟩
theorem dbls_log : ∀ (k : Nat) (x g : Int), 0 < x → g ≤ x * 2 ^ k → x < g → x * 2 ^ (dbls x g).length < 2 * g
  | 0, x, g, h0, h, hx => by omega
  | k + 1, x, g, h0, h, hx => by
    rw [dbls_step h0 hx, List.length_cons]
    by_cases h2 : x * 2 < g
    · have := dbls_log k (x * 2) g (by omega) (by rw [Int.mul_assoc, ← Int.pow_succ']; exact h) h2
      rw [Int.mul_assoc, ← Int.pow_succ'] at this
      exact this
    · rw [dbls_end (by omega)]
      show x * 2 ^ 1 < _
      omega

def F08 (b n k : Int) : List Int := k :: (chF b n 20000 k ++ sbF (dbls n (gtF b n)).reverse (chL b n 20000 k))
theorem app_last : ∀ (A B : List Int) (k y z : Int), (k :: A).getLast? = some y → (y :: B).getLast? = some z → (k :: (A ++ B)).getLast? = some z
  | [], B, k, y, z, h, g => by
    have : k = y := Option.some.inj h
    subst this
    exact g
  | a :: A, B, k, y, z, h, g => by
    rw [List.getLast?_cons_cons] at h
    rw [List.cons_append, List.getLast?_cons_cons]
    exact app_last A B a y z h g
theorem two_lt {a c : Nat} (h : (2 : Int) ^ a < 2 ^ c) : a < c := Nat.lt_of_not_le fun g => by
  have := two_le g
  omega
theorem gt_abs {b n : Int} (h : CtxB b n) : (gtF b n).natAbs < 2 ^ 4001 := by
  have := b_pow (by have := h.1; omega) h.2.1 (szF b n)
  exact abs_more this (by have := h.sz; omega)
theorem gt_far {b n : Int} (h : CtxB b n) : gtF b n ≤ n * 2 ^ 20000 := by
  have h5 : (0 : Int) < 2 ^ 20000 := Int.pow_pos (by decide)
  have h6 := lt_abs (abs_more (gt_abs h) (show 4001 ≤ 20000 by decide))
  have := Int.mul_le_mul_of_nonneg_right (show (1 : Int) ≤ n by have := h.2.2.1; omega) (show (0 : Int) ≤ 2 ^ 20000 by omega)
  omega
structure Tb (b n k : Int) : Prop where
  a0 : 0 ≤ chL b n 20000 k
  a1 : chL b n 20000 k < gtF b n
  dec : Dec k (chF b n 20000 k ++ sbF (dbls n (gtF b n)).reverse (chL b n 20000 k))
  last : (F08 b n k).getLast? = some (k % n)
  len : (F08 b n k).length ≤ 2 * (digs 2 (gtF b n)).length + 2
  cl : (k :: chF b n 20000 k).getLast? = some (chL b n 20000 k)
theorem tb_of {b n k : Int} (hc : CtxB b n) (k0 : 0 ≤ k) (k1 : k < gtF b n * gtF b n) : Tb b n k := by
  obtain ⟨c1, c2, c3, c4⟩ := id hc
  have gp := hc.pos
  have hgt := hc.gt
  have hk := hc.num k1
  have h20 : (2 : Int) ^ 9000 ≤ 2 ^ 20000 := two_le (by decide)
  obtain ⟨a1, a2, ⟨c, a3⟩, a4, a5, a6⟩ := ch_ok hc 20000 k k0 k1 (by omega)
  obtain ⟨s1, s2, d, s3⟩ := sb_dbls 20000 n (gtF b n) (chL b n 20000 k) (by omega) (gt_far hc) a1 (.inl a2)
  have pos : ∀ m ∈ (dbls n (gtF b n)).reverse, 0 < m := fun m hm => dbls_pos 20000 n (gtF b n) (by omega) (gt_far hc) m (List.mem_reverse.mp hm)
  have ez : sbL (dbls n (gtF b n)).reverse (chL b n 20000 k) = k % n := by
    have e : sbL (dbls n (gtF b n)).reverse (chL b n 20000 k) % n = k % n := Int.emod_eq_emod_iff_emod_sub_eq_zero.mpr (Int.emod_eq_zero_of_dvd ⟨d + c, by rw [Int.mul_add]; omega⟩)
    rw [← e, Int.emod_eq_of_lt s1 s2]
  refine ⟨a1, a2, dec_app _ _ _ _ a4 a5 (sb_dec _ _ pos), ?_, ?_, a5⟩
  · rw [← ez]
    exact app_last _ _ _ _ _ a5 (sb_last _ _)
  · have bl := sb_len (dbls n (gtF b n)).reverse (chL b n 20000 k)
    rw [List.length_reverse] at bl
    have lg := dbls_log 20000 n (gtF b n) (by omega) (gt_far hc) hgt
    have gL : gtF b n < 2 ^ (digs 2 (gtF b n)).length := digs_lt (b := 2) (by decide) (by omega)
    unfold F08
    rw [List.length_cons, List.length_append]
    generalize (digs 2 (gtF b n)).length = L at *
    generalize (dbls n (gtF b n)).length = C at *
    have C0 : (0 : Int) < 2 ^ C := Int.pow_pos (by decide)
    have L0 : (0 : Int) < 2 ^ L := Int.pow_pos (by decide)
    have n2 : 2 * 2 ^ C ≤ n * 2 ^ C := Int.mul_le_mul_of_nonneg_right (by omega) (by omega)
    by_cases hx : gtF b n ≤ k
    · obtain ⟨f1, f2, f3, f4⟩ := fo_ok hc hx k1
      have ec : chF b n 20000 k = foF b n k :: chF b n 19999 (foF b n k) := if_pos hx
      rw [ec, List.length_cons]
      obtain ⟨-, -, -, -, -, g6⟩ := ch_ok hc 19999 (foF b n k) f1 (by omega) (by
        have : (2 : Int) ^ 20000 = 2 ^ 19999 * 2 := Int.pow_succ _ _
        omega)
      have key : (chF b n 19999 (foF b n k)).length + C < 2 * L + 1 := by
        generalize hA : (chF b n 19999 (foF b n k)).length = A at *
        have hA2 : (2 : Int) ^ A ≤ gtF b n * n := by
          by_cases hy : gtF b n ≤ foF b n k
          · have := g6 hy
            rw [Int.sub_mul, Int.one_mul] at f4
            omega
          · rw [(ch_end (by omega) 19999).1] at hA
            rw [← hA]
            show (1 : Int) ≤ _
            have := Int.mul_pos gp (show 0 < n by omega)
            omega
        have A0 : (0 : Int) < 2 ^ A := Int.pow_pos (by decide)
        refine two_lt ?_
        rw [Int.pow_add, Int.pow_succ, show 2 * L = L + L by omega, Int.pow_add]
        have m1 : (2 : Int) ^ A * (n * 2 ^ C) ≤ gtF b n * n * (n * 2 ^ C) := Int.mul_le_mul_of_nonneg_right hA2 (by omega)
        have m2 : gtF b n * n * (n * 2 ^ C) < gtF b n * n * (2 * gtF b n) := Int.mul_lt_mul_of_pos_left lg (Int.mul_pos gp (by omega))
        have m3 : n * (2 ^ A * 2 ^ C) < n * (2 * (gtF b n * gtF b n)) := by
          have e1 : (2 : Int) ^ A * (n * 2 ^ C) = n * (2 ^ A * 2 ^ C) := by grind
          have e2 : gtF b n * n * (2 * gtF b n) = n * (2 * (gtF b n * gtF b n)) := by grind
          omega
        have m4 := Int.lt_of_mul_lt_mul_left m3 (by omega)
        have m5 : gtF b n * gtF b n ≤ 2 ^ L * 2 ^ L := Int.mul_le_mul (by omega) (by omega) (by omega) (by omega)
        omega
      omega
    · rw [(ch_end (by omega) 20000).1]
      have : C < L := two_lt (by omega)
      show 0 + _ + 1 ≤ _
      omega
theorem ok_k08 : FOk PT F08 := fun b n k hc _ k0 k1 => by
  have T := tb_of hc k0 k1
  refine ⟨T.last, ?_⟩
  have := T.len
  have h6 := lt_abs (gt_abs hc)
  have := digs_len (b := 2) (by decide) 4001 (gtF b n) h6
  omega
end Zed
end
section
set_option maxHeartbeats 4000000
/-! ZK08: by a table. -/
namespace Zed
open PySem PySem.Spec PyProof.Rows L2
local macro_rules | `(tactic| walk_at "zs") => `(tactic| simp only [zv, zc, zop, zun, anil, acons, ztup, zfl, zlst, zbl, zcall, zcallK, tvl, ttr, tand, tor, tnot, zand, zor, zorT, znot, zif, zchn, zsl, onone, osome, zrev, zrevA, zisi, gn, gnil, gcons, gtup, gsub, snil, sseq, sexp, sret, sretN, sif, sasg, sset, spar, spar3, saug, wkL, zapp, zpop, zseal, xat, snever, tyes, ilist, itup, istr, irng1, irng2, irng3, ienum, ienumT, izip, irev, wipeZ, zev, oAddL, isNon, at2_if, iseq, ienumT, gstar, gtupA, saugS, oGetL, izipS, sl_0, sl_1, sl_2, sl_3, sl_4, sl_5, sl_6, sl_7, sl_8, at1_0, at2_0, at2_1, at3_0, at3_1, at3_2, at4_0, at4_1, at4_2, at4_3, at5_0, at5_1, at5_2, at5_3, at5_4, at6_0, at6_1, at6_2, at6_3, at6_4, at6_5, at7_0, at7_1, at7_2, at7_3, at7_4, at7_5, at7_6, at8_0, at8_1, at8_2, at8_3, at8_4, at8_5, at8_6, at8_7, ixn2_0, ixn2_1, ixn3_0, ixn3_1, ixn3_2, cp_2, vp_2, cp_3, vp_3, cp_6, vp_6, cp_7, vp_7, cp_18, vp_18, cp_60, vp_60, q_truD_1, q_truD_2, q_truD_3, q_truD_4, q_truD_5, q_truD_6, q_oAdd_1, q_oAdd_2, q_oAdd_3, q_oAdd_4, q_oInt_1, q_oSub_1, q_oLt_1, q_oEq_1, q_oNe_1, q_oNe_2, q_oEq_2, q_oIs_1, q_oIs_2, q_oIsNot_1, q_oIsNot_2, q_oNeg_1, q_cAbs_1, q_cMax_1, q_cMin_1, q_cInt_1, q_cInt_2, q_cDivmod_1, q_lenD_1, q_lenD_2, q_lenD_3, q_cLen_1, q_cTuple_1, q_cTuple_2, q_cTuple_3, q_cListF_1, q_cListF_2, q_cListF_3, q_cList_1, q_cList_2, q_seqD_1, q_seqD_2, q_lenD_4, q_oIx_1, q_oIx_2, q_oIx_4, q_oSl_1, q_oSl_2, q_oSl_3, q_oSl_4, q_tyD_1, q_tyD_2, q_tyD_3, q_tyD_4, q_tyD_5, q_tyD_6, q_cIsi_1, q_oSet_1, q_oIAdd_1, q_oIAdd_2, List.getD_cons_zero, List.getD_cons_succ, List.take_zero, List.drop_zero, updM_same, updM_upd, dropM_updM, isi_ii, isi_bi, isi_ib, isi_bb, isi_tt, List.map_cons, List.map_nil, List.replicate_succ, List.replicate_zero, List.cons_append, List.nil_append, List.append_nil, List.set_cons_zero, List.set_cons_succ, List.getElem?_cons_zero, List.getElem?_cons_succ, List.length_cons, List.length_nil, Bool.false_eq_true, if_true, if_false, Bool.not_true, Bool.not_false, Bool.not_eq_true, Bool.not_eq_false', decide_eq_true_eq, true_and, and_true, exists_eq_left', Nat.reduceAdd, Nat.reduceSub, reduceCtorEq, decide_true, decide_false, Bool.true_eq_false, ite_true, ite_false, isw_int, wh_int, fe_modulus, fe_base, fe_size, fe_raised, fe_great, fe_has_mont, fe_tables, fe_ways, fe_rows, fe_rest, fe_kept, fe_reduced, fe_plain, fe_barrett, fe_table, fe_mont, fb_modulus_base, fn_modulus_base, fb_modulus_size, fn_modulus_size, fb_modulus_raised, fn_modulus_raised, fb_modulus_great, fn_modulus_great, fb_modulus_has_mont, fn_modulus_has_mont, fb_modulus_tables, fn_modulus_tables, fb_modulus_ways, fn_modulus_ways, fb_modulus_rows, fn_modulus_rows, fb_modulus_rest, fn_modulus_rest, fb_modulus_kept, fn_modulus_kept, fb_modulus_reduced, fn_modulus_reduced, fb_modulus_plain, fn_modulus_plain, fb_modulus_barrett, fn_modulus_barrett, fb_modulus_table, fn_modulus_table, fb_modulus_mont, fn_modulus_mont, fb_base_modulus, fn_base_modulus, fb_base_size, fn_base_size, fb_base_raised, fn_base_raised, fb_base_great, fn_base_great, fb_base_has_mont, fn_base_has_mont, fb_base_tables, fn_base_tables, fb_base_ways, fn_base_ways, fb_base_rows, fn_base_rows, fb_base_rest, fn_base_rest, fb_base_kept, fn_base_kept, fb_base_reduced, fn_base_reduced, fb_base_plain, fn_base_plain, fb_base_barrett, fn_base_barrett, fb_base_table, fn_base_table, fb_base_mont, fn_base_mont, fb_size_modulus, fn_size_modulus, fb_size_base, fn_size_base, fb_size_raised, fn_size_raised, fb_size_great, fn_size_great, fb_size_has_mont, fn_size_has_mont, fb_size_tables, fn_size_tables, fb_size_ways, fn_size_ways, fb_size_rows, fn_size_rows, fb_size_rest, fn_size_rest, fb_size_kept, fn_size_kept, fb_size_reduced, fn_size_reduced, fb_size_plain, fn_size_plain, fb_size_barrett, fn_size_barrett, fb_size_table, fn_size_table, fb_size_mont, fn_size_mont, fb_raised_modulus, fn_raised_modulus, fb_raised_base, fn_raised_base, fb_raised_size, fn_raised_size, fb_raised_great, fn_raised_great, fb_raised_has_mont, fn_raised_has_mont, fb_raised_tables, fn_raised_tables, fb_raised_ways, fn_raised_ways, fb_raised_rows, fn_raised_rows, fb_raised_rest, fn_raised_rest, fb_raised_kept, fn_raised_kept, fb_raised_reduced, fn_raised_reduced, fb_raised_plain, fn_raised_plain, fb_raised_barrett, fn_raised_barrett, fb_raised_table, fn_raised_table, fb_raised_mont, fn_raised_mont, fb_great_modulus, fn_great_modulus, fb_great_base, fn_great_base, fb_great_size, fn_great_size, fb_great_raised, fn_great_raised, fb_great_has_mont, fn_great_has_mont, fb_great_tables, fn_great_tables, fb_great_ways, fn_great_ways, fb_great_rows, fn_great_rows, fb_great_rest, fn_great_rest, fb_great_kept, fn_great_kept, fb_great_reduced, fn_great_reduced, fb_great_plain, fn_great_plain, fb_great_barrett, fn_great_barrett, fb_great_table, fn_great_table, fb_great_mont, fn_great_mont, fb_has_mont_modulus, fn_has_mont_modulus, fb_has_mont_base, fn_has_mont_base, fb_has_mont_size, fn_has_mont_size, fb_has_mont_raised, fn_has_mont_raised, fb_has_mont_great, fn_has_mont_great, fb_has_mont_tables, fn_has_mont_tables, fb_has_mont_ways, fn_has_mont_ways, fb_has_mont_rows, fn_has_mont_rows, fb_has_mont_rest, fn_has_mont_rest, fb_has_mont_kept, fn_has_mont_kept, fb_has_mont_reduced, fn_has_mont_reduced, fb_has_mont_plain, fn_has_mont_plain, fb_has_mont_barrett, fn_has_mont_barrett, fb_has_mont_table, fn_has_mont_table, fb_has_mont_mont, fn_has_mont_mont, fb_tables_modulus, fn_tables_modulus, fb_tables_base, fn_tables_base, fb_tables_size, fn_tables_size, fb_tables_raised, fn_tables_raised, fb_tables_great, fn_tables_great, fb_tables_has_mont, fn_tables_has_mont, fb_tables_ways, fn_tables_ways, fb_tables_rows, fn_tables_rows, fb_tables_rest, fn_tables_rest, fb_tables_kept, fn_tables_kept, fb_tables_reduced, fn_tables_reduced, fb_tables_plain, fn_tables_plain, fb_tables_barrett, fn_tables_barrett, fb_tables_table, fn_tables_table, fb_tables_mont, fn_tables_mont, fb_ways_modulus, fn_ways_modulus, fb_ways_base, fn_ways_base, fb_ways_size, fn_ways_size, fb_ways_raised, fn_ways_raised, fb_ways_great, fn_ways_great, fb_ways_has_mont, fn_ways_has_mont, fb_ways_tables, fn_ways_tables, fb_ways_rows, fn_ways_rows, fb_ways_rest, fn_ways_rest, fb_ways_kept, fn_ways_kept, fb_ways_reduced, fn_ways_reduced, fb_ways_plain, fn_ways_plain, fb_ways_barrett, fn_ways_barrett, fb_ways_table, fn_ways_table, fb_ways_mont, fn_ways_mont, fb_rows_modulus, fn_rows_modulus, fb_rows_base, fn_rows_base, fb_rows_size, fn_rows_size, fb_rows_raised, fn_rows_raised, fb_rows_great, fn_rows_great, fb_rows_has_mont, fn_rows_has_mont, fb_rows_tables, fn_rows_tables, fb_rows_ways, fn_rows_ways, fb_rows_rest, fn_rows_rest, fb_rows_kept, fn_rows_kept, fb_rows_reduced, fn_rows_reduced, fb_rows_plain, fn_rows_plain, fb_rows_barrett, fn_rows_barrett, fb_rows_table, fn_rows_table, fb_rows_mont, fn_rows_mont, fb_rest_modulus, fn_rest_modulus, fb_rest_base, fn_rest_base, fb_rest_size, fn_rest_size, fb_rest_raised, fn_rest_raised, fb_rest_great, fn_rest_great, fb_rest_has_mont, fn_rest_has_mont, fb_rest_tables, fn_rest_tables, fb_rest_ways, fn_rest_ways, fb_rest_rows, fn_rest_rows, fb_rest_kept, fn_rest_kept, fb_rest_reduced, fn_rest_reduced, fb_rest_plain, fn_rest_plain, fb_rest_barrett, fn_rest_barrett, fb_rest_table, fn_rest_table, fb_rest_mont, fn_rest_mont, fb_kept_modulus, fn_kept_modulus, fb_kept_base, fn_kept_base, fb_kept_size, fn_kept_size, fb_kept_raised, fn_kept_raised, fb_kept_great, fn_kept_great, fb_kept_has_mont, fn_kept_has_mont, fb_kept_tables, fn_kept_tables, fb_kept_ways, fn_kept_ways, fb_kept_rows, fn_kept_rows, fb_kept_rest, fn_kept_rest, fb_kept_reduced, fn_kept_reduced, fb_kept_plain, fn_kept_plain, fb_kept_barrett, fn_kept_barrett, fb_kept_table, fn_kept_table, fb_kept_mont, fn_kept_mont, fb_reduced_modulus, fn_reduced_modulus, fb_reduced_base, fn_reduced_base, fb_reduced_size, fn_reduced_size, fb_reduced_raised, fn_reduced_raised, fb_reduced_great, fn_reduced_great, fb_reduced_has_mont, fn_reduced_has_mont, fb_reduced_tables, fn_reduced_tables, fb_reduced_ways, fn_reduced_ways, fb_reduced_rows, fn_reduced_rows, fb_reduced_rest, fn_reduced_rest, fb_reduced_kept, fn_reduced_kept, fb_reduced_plain, fn_reduced_plain, fb_reduced_barrett, fn_reduced_barrett, fb_reduced_table, fn_reduced_table, fb_reduced_mont, fn_reduced_mont, fb_plain_modulus, fn_plain_modulus, fb_plain_base, fn_plain_base, fb_plain_size, fn_plain_size, fb_plain_raised, fn_plain_raised, fb_plain_great, fn_plain_great, fb_plain_has_mont, fn_plain_has_mont, fb_plain_tables, fn_plain_tables, fb_plain_ways, fn_plain_ways, fb_plain_rows, fn_plain_rows, fb_plain_rest, fn_plain_rest, fb_plain_kept, fn_plain_kept, fb_plain_reduced, fn_plain_reduced, fb_plain_barrett, fn_plain_barrett, fb_plain_table, fn_plain_table, fb_plain_mont, fn_plain_mont, fb_barrett_modulus, fn_barrett_modulus, fb_barrett_base, fn_barrett_base, fb_barrett_size, fn_barrett_size, fb_barrett_raised, fn_barrett_raised, fb_barrett_great, fn_barrett_great, fb_barrett_has_mont, fn_barrett_has_mont, fb_barrett_tables, fn_barrett_tables, fb_barrett_ways, fn_barrett_ways, fb_barrett_rows, fn_barrett_rows, fb_barrett_rest, fn_barrett_rest, fb_barrett_kept, fn_barrett_kept, fb_barrett_reduced, fn_barrett_reduced, fb_barrett_plain, fn_barrett_plain, fb_barrett_table, fn_barrett_table, fb_barrett_mont, fn_barrett_mont, fb_table_modulus, fn_table_modulus, fb_table_base, fn_table_base, fb_table_size, fn_table_size, fb_table_raised, fn_table_raised, fb_table_great, fn_table_great, fb_table_has_mont, fn_table_has_mont, fb_table_tables, fn_table_tables, fb_table_ways, fn_table_ways, fb_table_rows, fn_table_rows, fb_table_rest, fn_table_rest, fb_table_kept, fn_table_kept, fb_table_reduced, fn_table_reduced, fb_table_plain, fn_table_plain, fb_table_barrett, fn_table_barrett, fb_table_mont, fn_table_mont, fb_mont_modulus, fn_mont_modulus, fb_mont_base, fn_mont_base, fb_mont_size, fn_mont_size, fb_mont_raised, fn_mont_raised, fb_mont_great, fn_mont_great, fb_mont_has_mont, fn_mont_has_mont, fb_mont_tables, fn_mont_tables, fb_mont_ways, fn_mont_ways, fb_mont_rows, fn_mont_rows, fb_mont_rest, fn_mont_rest, fb_mont_kept, fn_mont_kept, fb_mont_reduced, fn_mont_reduced, fb_mont_plain, fn_mont_plain, fb_mont_barrett, fn_mont_barrett, fb_mont_table, fn_mont_table, zattr, zmeth, zmethK, sfld, attrD_obj, attrD_ref, putD_nil, putD_cons, lk_nil, lk_cons, in_one, isObj_obj, mkCK, kwC, defC, zdget, zcallL, zblK, Option.map_some])
theorem cut_from {xs : List D} {k : Nat} : cutG xs (some ((k : Nat) : Int)) none = xs.drop k := by
  unfold cutG
  rw [HT.sIx_none, HT.sIx_nat]
  by_cases h : k ≤ xs.length
  · rw [Nat.min_eq_left h, List.take_of_length_le (by rw [List.length_drop]; omega)]
  · rw [Nat.min_eq_right (by omega), List.drop_of_length_le (Nat.le_refl _), List.drop_of_length_le (by omega), List.take_nil]
theorem zs_sum {b n : Int} : ∀ (ls : List Int) (j : Nat), ((List.range ls.length).map fun i => ls.getD i 0 * (b ^ (j + i) % n)).sum = zs b n ls j
  | [], j => rfl
  | l :: ls, j => by
    rw [List.length_cons, List.range_succ_eq_map, List.map_cons, List.sum_cons, List.map_map]
    show l * (b ^ (j + 0) % n) + _ = l * (b ^ j % n) + zs b n ls (j + 1)
    rw [← zs_sum ls (j + 1), Nat.add_zero]
    congr 2
    refine List.map_congr_left fun i hi => ?_
    show ls.getD i 0 * (b ^ (j + (i + 1)) % n) = _
    rw [show j + (i + 1) = j + 1 + i by omega]
def ws_k08 (cl : Str → Addr) : List (Addr × ZSp) := [(cl "table_rows", c_way cl PT F08)]
theorem way_k08 {cl : Str → Addr} : ∀ b n, CtxB b n → PT b n → WayF cl b n "table" (cl "table_rows") := fun b n _ _ => ⟨by unfold waysF; split <;> decide, rfl⟩
theorem rst_len {b n : Int} : (rst b n).length = szF b n := by unfold rst; simp
theorem rst_get {b n : Int} {i : Nat} (h : i < szF b n) : (rst b n).getD i 0 = b ^ (szF b n + i) % n := by unfold rst; simp [List.getD_eq_getElem?_getD, h]
theorem digs_two {b n x : Int} (hc : CtxB b n) (x1 : x < gtF b n * gtF b n) : (digs b x).length ≤ 2 * szF b n := by
  rw [hc.sq] at x1
  exact digs_len_pow hc.1 x1
def b_folded (cl : Str → Addr) : ZTS :=
  (sseq (sset (zsl (zcallK ck_limbs_of (acons (zv 1) anil) (acons (zattr [cl "Context"] "base" (zv 0)) anil)) (osome (zattr [cl "Context"] "size" (zv 0))) onone) 2)
    (sret (zblK (acons (zlc (izip (acons (zv 2) (acons (zop oIx (zattr [cl "Context"] "tables" (zv 0)) (zc (.int 1))) anil))) (gtup 2 (gcons (gn 3) (gcons (gn 4) gnil))) tyes (zop oMul (zv 3) (zv 4)) [3, 4]) anil) (acons (zop oMod (zv 1) (zattr [cl "Context"] "great" (zv 0))) anil) cSumK)))
def c_folded (cl : Str → Addr) : ZSp := fun ds m Q _ => ∃ (b n x : Int), ds = [ctxD cl b n, .int x] ∧ CtxB b n ∧ gtF b n ≤ x ∧ x < gtF b n * gtF b n ∧ Q (.int (foF b n x)) m
theorem w_folded (cl : Str → Addr) (ds : List D) (m : Mu) (Q : QE) (E : QX) (h : c_folded cl ds m Q E) : ds.length = 2 ∧ b_folded cl ⟨fun _ m => Q .non m, Q, fun x _ m => E x m⟩ (ds.map some ++ List.replicate (5 - ds.length) none) m := by
  obtain ⟨b, n, x, rfl, hc, x0, x1, h⟩ := h
  refine ⟨rfl, ?_⟩
  obtain ⟨c1, c2, c3, c4⟩ := id hc
  obtain ⟨s1, s2⟩ := hc.sz
  have gp := hc.pos
  have dl := digs_two hc x1
  unfold b_folded
  walk_at "zs"
  simp only [at_base]
  walk_at "zs"
  refine ⟨x, b, rfl, by omega, Int.lt_trans (hc.num x1) (by decide +kernel), c1, c2, ?_⟩
  walk_at "zs"
  simp only [at_size]
  walk_at "zs"
  rw [cut_from]
  rw [comp_e]
  walk_at "zs"
  simp only [at_tables]
  walk_at "zs"
  rw [show atI (tabF b n) 1 = some (.tup ((rst b n).map .int)) by unfold tabF; split <;> rfl]
  walk_at "zs"
  rw [← List.map_drop]
  have ll : ((digs b x).drop (szF b n)).length ≤ szF b n := by rw [List.length_drop]; omega
  have lm : ∀ i, 0 ≤ ((digs b x).drop (szF b n)).getD i 0 ∧ ((digs b x).drop (szF b n)).getD i 0 < b := fun i => by
    by_cases hi : i < ((digs b x).drop (szF b n)).length
    · rw [List.getD_eq_getElem?_getD, List.getElem?_eq_getElem hi]
      exact digs_mem c1 _ (List.mem_of_mem_drop (List.getElem_mem hi))
    · rw [List.getD_eq_getElem?_getD, List.getElem?_eq_none (by omega)]
      exact ⟨Int.le_refl 0, by show (0 : Int) < b; omega⟩
  unfold foF at h
  rw [← zs_sum] at h
  generalize (digs b x).drop (szF b n) = ls at *
  have n8 : n < 2 ^ 300 := Int.lt_of_le_of_lt c4 (by decide +kernel)
  refine comp_mapE (fun i => .int (ls.getD i 0 * (b ^ (szF b n + i) % n))) (((List.range ls.length).map fun i => ls.getD i 0 * (b ^ (szF b n + i) % n)).map .int) (by show min (ls.map D.int).length ((rst b n).map D.int).length ≤ _; rw [List.length_map, sizeLine_eq]; omega) trivial (fun i hi K1 K2 hK => ?_) ?_ ?_
  · have hi2 : i < min (ls.map D.int).length ((rst b n).map D.int).length := hi
    rw [List.length_map, List.length_map, rst_len] at hi2
    show gtup 2 _ (.tup [(ls.map D.int).getD i .non, ((rst b n).map D.int).getD i .non]) _ _ _ _
    rw [getD_ints, if_pos (by omega), getD_ints, if_pos (by rw [rst_len]; omega), rst_get (by omega)]
    walk_at "zs"
    have r0 := Int.emod_nonneg (b ^ (szF b n + i)) (show n ≠ 0 by omega)
    have r1 := Int.emod_lt_of_pos (b ^ (szF b n + i)) (show 0 < n by omega)
    have := lm i
    exact ⟨mul_ok (a := 30) (b := 300) (by omega) (abs_lt r0 (by omega)) (by decide), hK⟩
  · show (List.range (min (ls.map D.int).length ((rst b n).map D.int).length)).map _ = _
    rw [List.length_map, List.length_map, rst_len, Nat.min_eq_left ll, List.map_map]
    rfl
  · rw [at_great]
    walk_at "zs"
    refine ⟨gp, ?_⟩
    show (match intsD (((List.range ls.length).map fun i => ls.getD i 0 * (b ^ (szF b n + i) % n)).map .int) with | some ns => Q (.int (x % gtF b n + ns.sum)) m | none => False)
    rw [intsD_map]
    show Q (.int (x % gtF b n + _)) m
    rw [Int.add_comm]
    exact h
theorem sub_loop {b n k : Int} {acc : List Int} {x : Int} {f : Nat} (T : Tb b n k) (ha : acc ++ (x :: chF b n f x) = k :: chF b n 20000 k) (hl : chL b n f x = chL b n 20000 k) (hx : x < gtF b n) : F08 b n k = acc ++ (x :: sbF (dbls n (gtF b n)).reverse x) := by
  obtain ⟨e1, e2⟩ := ch_end (b := b) (n := n) (x := x) hx f
  rw [e1] at ha
  rw [e2] at hl
  unfold F08
  rw [← hl, ← List.cons_append, ← ha, List.append_assoc]
  rfl
def b_table_rows (cl : Str → Addr) : ZTS :=
  (sseq (sset (zlst (acons (zv 1) anil)) 2)
    (sseq (swhile (tvl (zop oGe (zop oIx (zv 2) (zun oNeg (zc (.int 1)))) (zattr [cl "Context"] "great" (zv 0)))) (sexp (zapp (zv 2) (acons (zcall (c_folded cl) (acons (zv 0) (acons (zop oIx (zv 2) (zun oNeg (zc (.int 1)))) anil))) anil))))
    (sseq (sfor (iseq (zrevA (zop oIx (zattr [cl "Context"] "tables" (zv 0)) (zc (.int 2))))) (gn 3) (sif (tvl (zop oLe (zv 3) (zop oIx (zv 2) (zun oNeg (zc (.int 1)))))) (sexp (zapp (zv 2) (acons (zop oSub (zop oIx (zv 2) (zun oNeg (zc (.int 1)))) (zv 3)) anil))) snil))
    (sret (zseal (zv 2))))))
theorem w_table_rows (cl : Str → Addr) (ds : List D) (m : Mu) (Q : QE) (E : QX) (h : c_way cl PT F08 ds m Q E) : ds.length = 2 ∧ b_table_rows cl ⟨fun _ m => Q .non m, Q, fun x _ m => E x m⟩ (ds.map some ++ List.replicate (4 - ds.length) none) m := by
  obtain ⟨b, n, k, rfl, hc, -, k0, k1, h⟩ := h
  refine ⟨rfl, ?_⟩
  have T := tb_of hc k0 k1
  unfold b_table_rows
  walk_at "zs"
  intro r nr
  refine while_i (fun j ρ m' => ∃ (acc : List Int) (x : Int) (f : Nat), j = f ∧ 0 ≤ x ∧ x < gtF b n * gtF b n ∧ x - gtF b n + 2 ≤ 2 ^ f ∧ acc.length + f ≤ 20000 ∧ acc ++ (x :: chF b n f x) = k :: chF b n 20000 k ∧ chL b n f x = chL b n 20000 k ∧ ρ = [some (ctxD cl b n), some (.int k), some (.ref r), none] ∧ m' = updM m r (.lst ((acc ++ [x]).map .int))) 20000 ⟨[], k, 20000, rfl, k0, k1, (by
    have hk := hc.num k1
    have h20 : (2 : Int) ^ 9000 ≤ 2 ^ 20000 := two_le (by decide)
    have gp := hc.pos
    omega), Nat.le_of_ble_eq_true rfl, rfl, rfl, rfl, rfl⟩ ?_
  rintro j ρ m' ⟨acc, x, f, rfl, x0, x1, xf, al, ha, hl, rfl, rfl⟩
  walk_at "zs"
  rw [atI_last_int (x := x) (by simp)]
  walk_at "zs"
  rw [at_great]
  walk_at "zs"
  by_cases hx : gtF b n ≤ x
  · rw [if_pos hx]
    rw [atI_last_int (x := x) (by simp)]
    walk_at "zs"
    obtain ⟨o1, o2, o3, o4⟩ := fo_ok hc hx x1
    cases j with
    | zero => exact absurd xf (by rw [Int.pow_zero]; omega)
    | succ j =>
      have ef : chF b n (j + 1) x = foF b n x :: chF b n j (foF b n x) := if_pos hx
      have el : chL b n (j + 1) x = chL b n j (foF b n x) := if_pos hx
      rw [ef] at ha
      rw [el] at hl
      rw [Int.pow_succ] at xf
      refine ⟨⟨_, rfl⟩, b, n, x, rfl, hc, hx, x1, ?_⟩
      walk_at "zs"
      refine ⟨by rw [List.length_map, List.length_append, sizeLine_eq]; show acc.length + 1 < _; omega, j, by omega, acc ++ [x], foF b n x, o1, by omega, by omega, by rw [List.length_append]; show acc.length + 1 + j ≤ _; omega, by rw [List.append_assoc]; exact ha, hl, ?_⟩
      rw [List.map_append (l₁ := acc ++ [x])]
      rfl
  · rw [if_neg hx]
    have eF := sub_loop T ha hl (by omega)
    rw [eF] at h
    refine for_i ?_
    walk_at "zs"
    rw [at_tables]
    walk_at "zs"
    rw [show atI (tabF b n) 2 = some (.tup ((dbls n (gtF b n)).map .int)) by unfold tabF; split <;> rfl]
    walk_at "zs"
    have dlen := T.len
    have dl : (dbls n (gtF b n)).reverse.length ≤ 20000 := by
      rw [List.length_reverse]
      exact dbls_len 20000 n (gtF b n) (by have := hc.2.2.1; omega) (gt_far hc)
    rw [← List.map_reverse]
    generalize (dbls n (gtF b n)).reverse = ms at *
    obtain ⟨I, hI⟩ : ∃ I : Nat → ZEnv → Mu → Prop, I = fun i ρ m' => ∃ (acc2 : List Int) (y : Int) (z : Option D), i ≤ ms.length ∧ acc2.length ≤ 20000 + i ∧ acc ++ (x :: sbF ms x) = acc2 ++ (y :: sbF (ms.drop i) y) ∧ ρ = [some (ctxD cl b n), some (.int k), some (.ref r), z] ∧ m' = updM m r (.lst ((acc2 ++ [y]).map .int)) := ⟨_, rfl⟩
    refine loop_i I (by rw [hI]; exact ⟨acc, x, none, Nat.zero_le _, by omega, rfl, rfl, rfl⟩) fun i ρ m' hi => ?_
    rw [hI] at hi
    obtain ⟨acc2, y, z, il, al2, hF, rfl, rfl⟩ := hi
    refine ⟨trivial, fun hlt => ?_, fun e => ?_⟩
    · have hlt' := lt_len hlt
      show gn 3 ((ms.map D.int).getD i .non) _ _ _ _
      rw [getD_ints, if_pos hlt']
      walk_at "zs"
      have gx : ms.getD i 0 = ms[i] := by rw [List.getD_eq_getElem?_getD, List.getElem?_eq_getElem hlt']; rfl
      have hd : ms.drop i = ms[i] :: ms.drop (i + 1) := List.drop_eq_getElem_cons hlt'
      rw [gx, atI_last_int (x := y) (by simp)]
      walk_at "zs"
      rw [hd] at hF
      by_cases hy : ms[i] ≤ y
      · rw [if_pos hy, atI_last_int (x := y) (by simp)]
        walk_at "zs"
        rw [hI]
        have e1 : sbF (ms[i] :: ms.drop (i + 1)) y = (y - ms[i]) :: sbF (ms.drop (i + 1)) (y - ms[i]) := if_pos hy
        rw [e1] at hF
        exact ⟨⟨_, rfl⟩, by rw [List.length_map, List.length_append, sizeLine_eq]; show acc2.length + 1 < _; omega, acc2 ++ [y], y - ms[i], _, hlt', by rw [List.length_append]; show acc2.length + 1 ≤ _; omega, by rw [List.append_assoc]; exact hF, rfl, by rw [List.map_append (l₁ := acc2 ++ [y])]; rfl⟩
      · rw [if_neg hy, hI]
        have e1 : sbF (ms[i] :: ms.drop (i + 1)) y = sbF (ms.drop (i + 1)) y := if_neg hy
        rw [e1] at hF
        exact ⟨acc2, y, _, hlt', by omega, hF, rfl, rfl⟩
    · walk_at "zs"
      have e' := eq_len e
      rw [e', List.drop_length] at hF
      have hF' : acc ++ (x :: sbF ms x) = acc2 ++ [y] := hF
      rw [← hF', dropM_updM nr]
      exact h m (Ext.refl m)
theorem small_two : (2 : Int) < 2 ^ 8000 := million_le (by decide)
theorem ixn_last {A : List Int} {v : Int} : ixN ((A ++ [v]).map D.int).length (-1) = some A.length := by
  rw [List.length_map, List.length_append]
  show (if (0 : Int) ≤ -1 then (if (-1 : Int) < ((A.length + 1 : Nat) : Int) then some (-1 : Int).toNat else none) else if -((A.length + 1 : Nat) : Int) ≤ -1 then some (-1 + ((A.length + 1 : Nat) : Int)).toNat else none) = _
  rw [if_neg (by decide), if_pos (by omega)]
  congr 1
  omega
theorem set_last {A : List Int} {v u : Int} : ((A ++ [v]).map D.int).set A.length (.int u) = (A ++ [u]).map .int := by
  rw [List.map_append, List.map_append, List.set_append_right _ _ (by rw [List.length_map]; exact Nat.le_refl _), List.length_map, Nat.sub_self]
  rfl
def b_k08_due : ZTS :=
  (sseq (sset (zlst (acons (zv 3) anil)) 4)
    (sseq (swhile (tvl (zop oGe (zop oIx (zv 4) (zun oNeg (zc (.int 1)))) (zop oIx (zv 0) (zc (.int 1))))) (sseq (sset (zcall c_llimbs (acons (zop oIx (zv 4) (zun oNeg (zc (.int 1)))) (acons (zv 2) anil))) 5)
    (sseq (sexp (zapp (zv 4) (acons (zop oMod (zop oIx (zv 4) (zun oNeg (zc (.int 1)))) (zop oIx (zv 0) (zc (.int 1)))) anil)))
    (sfor (irng2 (acons (zop oIx (zv 0) (zc (.int 0))) (acons (zbl (acons (zv 5) anil) cLen) anil))) (gn 6) (sasg (zop oAdd (zop oIx (zv 4) (zun oNeg (zc (.int 1)))) (zop oMul (zop oIx (zv 5) (zv 6)) (zop oIx (zop oIx (zv 0) (zc (.int 3))) (zop oSub (zv 6) (zop oIx (zv 0) (zc (.int 0))))))) (gsub (zv 4) (zun oNeg (zc (.int 1)))))))))
    (sseq (sfor (iseq (zrevA (zop oIx (zv 0) (zc (.int 4))))) (gn 7) (sif (tvl (zop oLe (zv 7) (zop oIx (zv 4) (zun oNeg (zc (.int 1)))))) (sexp (zapp (zv 4) (acons (zop oSub (zop oIx (zv 4) (zun oNeg (zc (.int 1)))) (zv 7)) anil))) snil))
    (sret (zseal (zv 4))))))
theorem w_k08_due (ds : List D) (m : Mu) (Q : QE) (E : QX) (h : c_due PT F08 ds m Q E) : ds.length = 4 ∧ b_k08_due ⟨fun _ m => Q .non m, Q, fun x _ m => E x m⟩ (ds.map some ++ List.replicate (8 - ds.length) none) m := by
  obtain ⟨b, n, k, p, q, rfl, hc, -, k0, k1, hO, h⟩ := h
  refine ⟨rfl, ?_⟩
  obtain ⟨c1, c2, c3, c4⟩ := id hc
  obtain ⟨s1, s2⟩ := hc.sz
  have gp := hc.pos
  have T := tb_of hc k0 k1
  unfold b_k08_due
  walk_at "zs"
  intro r nr
  refine while_i (fun j ρ m' => ∃ (acc : List Int) (x : Int) (f : Nat) (y z w : Option D), j = f ∧ 0 ≤ x ∧ x < gtF b n * gtF b n ∧ x - gtF b n + 2 ≤ 2 ^ f ∧ acc.length + f ≤ 20000 ∧ acc ++ (x :: chF b n f x) = k :: chF b n 20000 k ∧ chL b n f x = chL b n 20000 k ∧ ρ = [some (ownF b n p q), some (.int n), some (.int b), some (.int k), some (.ref r), y, z, w] ∧ m' = updM m r (.lst ((acc ++ [x]).map .int))) 20000 ⟨[], k, 20000, none, none, none, rfl, k0, k1, (by
    have hk := hc.num k1
    have h20 : (2 : Int) ^ 9000 ≤ 2 ^ 20000 := two_le (by decide)
    omega), Nat.le_of_ble_eq_true rfl, rfl, rfl, rfl, rfl⟩ ?_
  rintro j ρ m' ⟨acc, x, f, y5, z6, w, rfl, x0, x1, xf, al, ha, hl, rfl, rfl⟩
  walk_at "zs"
  rw [atI_last_int (x := x) (by simp)]
  walk_at "zs"
  rw [own_1]
  walk_at "zs"
  have rq : r ≠ q := fun e => by rw [e, hO.2] at nr; cases nr
  have rp : r ≠ p := fun e => by rw [e, hO.1] at nr; cases nr
  by_cases hx : gtF b n ≤ x
  · rw [if_pos hx]
    rw [atI_last_int (x := x) (by simp)]
    walk_at "zs"
    refine ⟨x, b, rfl, x0, Int.lt_trans (hc.num x1) (by decide +kernel), c1, million_le c2, ?_⟩
    walk_at "zs"
    rw [atI_last_int (x := x) (by simp)]
    walk_at "zs"
    rw [own_1]
    walk_at "zs"
    obtain ⟨o1, o2, o3, o4⟩ := fo_ok hc hx x1
    cases j with
    | zero => exact absurd xf (by rw [Int.pow_zero]; omega)
    | succ j =>
      have ef : chF b n (j + 1) x = foF b n x :: chF b n j (foF b n x) := if_pos hx
      have el : chL b n (j + 1) x = chL b n j (foF b n x) := if_pos hx
      rw [ef] at ha
      rw [el] at hl
      rw [Int.pow_succ] at xf
      refine ⟨⟨_, rfl⟩, gp, by rw [List.length_map, List.length_append, sizeLine_eq]; show acc.length + 1 < _; omega, for_i ?_⟩
      walk_at "zs"
      rw [own_0]
      walk_at "zs"
      rw [List.length_map]
      have dl := digs_two hc x1
      have dl2 : szF b n ≤ (digs b x).length := by
        refine Nat.le_of_not_lt fun h5 => ?_
        have h6 : x < b ^ szF b n := by
          have h7 := digs_lt (b := b) (n := x) c1 x0
          have h8 : b ^ szF b x ≤ b ^ szF b n := Int.le_of_lt (Int.pow_lt_pow_of_lt (by omega) h5)
          omega
        have h9 : b ^ szF b n = gtF b n := rfl
        omega
      have lsl : ((digs b x).drop (szF b n)).length = (digs b x).length - szF b n := by rw [List.length_drop]
      have lsg : ∀ i, ((digs b x).drop (szF b n)).getD i 0 = (digs b x).getD (szF b n + i) 0 := fun i => by rw [List.getD_eq_getElem?_getD, List.getElem?_drop, ← List.getD_eq_getElem?_getD]
      obtain ⟨I, hI⟩ : ∃ I : Nat → ZEnv → Mu → Prop, I = fun i ρ m' => ∃ (u : Option D), i ≤ (digs b x).length - szF b n ∧ ρ = [some (ownF b n p q), some (.int n), some (.int b), some (.int k), some (.ref r), some (.fl ((digs b x).map .int)), u, w] ∧ m' = updM m r (.lst ((acc ++ [x] ++ [x % gtF b n + ((List.range i).map fun t => ((digs b x).drop (szF b n)).getD t 0 * (b ^ (szF b n + t) % n)).sum]).map .int)) := ⟨_, rfl⟩
      refine ⟨by omega, loop_i I (by rw [hI]; exact ⟨z6, Nat.zero_le _, rfl, by rw [List.map_append (l₁ := acc ++ [x])]; show _ = updM m r (.lst (_ ++ [.int (x % gtF b n + 0)])); rw [Int.add_zero]⟩) fun i ρ m' hi => ?_⟩
      rw [hI] at hi
      obtain ⟨u, il, rfl, rfl⟩ := hi
      refine ⟨trivial, fun hlt => ?_, fun e => ?_⟩
      · have hlt' : i < (digs b x).length - szF b n := by
          have h5 : i < (((digs b x).length : Int) - (szF b n : Int)).toNat := hlt
          omega
        walk_at "zs"
        have eL := atI_last_int (xs := acc ++ [x] ++ [x % gtF b n + ((List.range i).map fun t => ((digs b x).drop (szF b n)).getD t 0 * (b ^ (szF b n + t) % n)).sum]) (x := x % gtF b n + ((List.range i).map fun t => ((digs b x).drop (szF b n)).getD t 0 * (b ^ (szF b n + t) % n)).sum) (by simp)
        rw [eL]
        walk_at "zs"
        rw [show (szF b n : Int) + (i : Int) = ((szF b n + i : Nat) : Int) by push_cast; rfl, at_ints_getD (by omega)]
        walk_at "zs"
        rw [own_3, own_0]
        walk_at "zs"
        rw [updM_ne (Ne.symm rp), hO.1]
        walk_at "zs"
        rw [show ((szF b n + i : Nat) : Int) - (szF b n : Int) = ((i : Nat) : Int) by push_cast; omega, at_ints_getD (by rw [rst_len]; omega), rst_get (by omega), ← lsg]
        walk_at "zs"
        rw [ixn_last]
        have r0 := Int.emod_nonneg (b ^ (szF b n + i)) (show n ≠ 0 by omega)
        have r1 := Int.emod_lt_of_pos (b ^ (szF b n + i)) (show 0 < n by omega)
        have n8 : n < 2 ^ 300 := Int.lt_of_le_of_lt c4 (by decide +kernel)
        have lm : 0 ≤ ((digs b x).drop (szF b n)).getD i 0 ∧ ((digs b x).drop (szF b n)).getD i 0 < b := by
          rw [lsg, List.getD_eq_getElem?_getD, List.getElem?_eq_getElem (show szF b n + i < (digs b x).length by omega)]
          exact digs_mem c1 _ (List.getElem_mem _)
        refine ⟨mul_ok (a := 30) (b := 300) (by omega) (abs_lt r0 (by omega)) (by decide), ?_⟩
        walk_at "zs"
        rw [hI, set_last]
        refine ⟨_, by omega, rfl, ?_⟩
        have e10 : ((List.range (i + 1)).map fun t => ((digs b x).drop (szF b n)).getD t 0 * (b ^ (szF b n + t) % n)).sum = ((List.range i).map fun t => ((digs b x).drop (szF b n)).getD t 0 * (b ^ (szF b n + t) % n)).sum + ((digs b x).drop (szF b n)).getD i 0 * (b ^ (szF b n + i) % n) := by
          rw [List.range_succ, List.map_append, List.sum_append]
          show _ + (_ + 0) = _
          rw [Int.add_zero]
        rw [e10, Int.add_assoc]
      · have e' : i = (digs b x).length - szF b n := by
          have h5 : i = (((digs b x).length : Int) - (szF b n : Int)).toNat := e
          omega
        walk_at "zs"
        have ez := zs_sum (b := b) (n := n) ((digs b x).drop (szF b n)) (szF b n)
        rw [lsl, ← e'] at ez
        rw [ez]
        have e9 : x % gtF b n + zs b n ((digs b x).drop (szF b n)) (szF b n) = foF b n x := Int.add_comm _ _
        rw [e9]
        exact ⟨j, by omega, acc ++ [x], foF b n x, j, _, _, _, rfl, o1, by omega, by omega, by rw [List.length_append]; show acc.length + 1 + j ≤ _; omega, by rw [List.append_assoc]; exact ha, hl, rfl, rfl⟩
  · rw [if_neg hx]
    have eF := sub_loop T ha hl (by omega)
    rw [eF] at h
    refine for_i ?_
    walk_at "zs"
    rw [own_4]
    walk_at "zs"
    rw [updM_ne (Ne.symm rq), hO.2]
    walk_at "zs"
    have dlen := T.len
    have dl : (dbls n (gtF b n)).reverse.length ≤ 20000 := by
      rw [List.length_reverse]
      exact dbls_len 20000 n (gtF b n) (by have := hc.2.2.1; omega) (gt_far hc)
    rw [← List.map_reverse]
    generalize (dbls n (gtF b n)).reverse = ms at *
    obtain ⟨I, hI⟩ : ∃ I : Nat → ZEnv → Mu → Prop, I = fun i ρ m' => ∃ (acc2 : List Int) (y : Int) (z : Option D), i ≤ ms.length ∧ acc2.length ≤ 20000 + i ∧ acc ++ (x :: sbF ms x) = acc2 ++ (y :: sbF (ms.drop i) y) ∧ ρ = [some (ownF b n p q), some (.int n), some (.int b), some (.int k), some (.ref r), y5, z6, z] ∧ m' = updM m r (.lst ((acc2 ++ [y]).map .int)) := ⟨_, rfl⟩
    refine loop_i I (by rw [hI]; exact ⟨acc, x, w, Nat.zero_le _, by omega, rfl, rfl, rfl⟩) fun i ρ m' hi => ?_
    rw [hI] at hi
    obtain ⟨acc2, y, z, il, al2, hF, rfl, rfl⟩ := hi
    refine ⟨trivial, fun hlt => ?_, fun e => ?_⟩
    · have hlt' := lt_len hlt
      show gn 7 ((ms.map D.int).getD i .non) _ _ _ _
      rw [getD_ints, if_pos hlt']
      walk_at "zs"
      have gx : ms.getD i 0 = ms[i] := by rw [List.getD_eq_getElem?_getD, List.getElem?_eq_getElem hlt']; rfl
      have hd : ms.drop i = ms[i] :: ms.drop (i + 1) := List.drop_eq_getElem_cons hlt'
      rw [gx, atI_last_int (x := y) (by simp)]
      walk_at "zs"
      rw [hd] at hF
      by_cases hy : ms[i] ≤ y
      · rw [if_pos hy, atI_last_int (x := y) (by simp)]
        walk_at "zs"
        rw [hI]
        have e1 : sbF (ms[i] :: ms.drop (i + 1)) y = (y - ms[i]) :: sbF (ms.drop (i + 1)) (y - ms[i]) := if_pos hy
        rw [e1] at hF
        exact ⟨⟨_, rfl⟩, by rw [List.length_map, List.length_append, sizeLine_eq]; show acc2.length + 1 < _; omega, acc2 ++ [y], y - ms[i], _, hlt', by rw [List.length_append]; show acc2.length + 1 ≤ _; omega, by rw [List.append_assoc]; exact hF, rfl, by rw [List.map_append (l₁ := acc2 ++ [y])]; rfl⟩
      · rw [if_neg hy, hI]
        have e1 : sbF (ms[i] :: ms.drop (i + 1)) y = sbF (ms.drop (i + 1)) y := if_neg hy
        rw [e1] at hF
        exact ⟨acc2, y, _, hlt', by omega, hF, rfl, rfl⟩
    · walk_at "zs"
      have e' := eq_len e
      rw [e', List.drop_length] at hF
      have hF' : acc ++ (x :: sbF ms x) = acc2 ++ [y] := hF
      rw [← hF', dropM_updM nr]
      exact h m (Ext.refl m)

def b_k08_bounds : ZTS :=
  (sseq (sif (tnot (tvl (zbl (acons (zlc (irng1 (acons (zop oSub (zbl (acons (zv 4) anil) cLen) (zc (.int 1))) anil)) (gn 5) tyes (zop oGt (zop oIx (zv 4) (zv 5)) (zop oIx (zv 4) (zop oAdd (zv 5) (zc (.int 1))))) [5]) anil) cAll))) (sret (zc (.bl false))) snil)
    (sret (zop oLe (zbl (acons (zv 4) anil) cLen) (zop oAdd (zop oMul (zc (.int 2)) (zbl (acons (zcall c_llimbs (acons (zop oIx (zv 0) (zc (.int 1))) (acons (zc (.int 2)) anil))) anil) cLen)) (zc (.int 5))))))
theorem w_k08_bounds (ds : List D) (m : Mu) (Q : QE) (E : QX) (h : c_bounds PT F08 ds m Q E) : ds.length = 5 ∧ b_k08_bounds ⟨fun _ m => Q .non m, Q, fun x _ m => E x m⟩ (ds.map some ++ List.replicate (6 - ds.length) none) m := by
  obtain ⟨b, n, k, p, q, rfl, hc, -, k0, k1, h⟩ := h
  refine ⟨rfl, ?_⟩
  have T := tb_of hc k0 k1
  have gp := hc.pos
  have hL := T.len
  have fl := (ok_k08 b n k hc trivial k0 k1).2
  have hD := T.dec
  have h6 := lt_abs (gt_abs hc)
  have ne : 0 < (F08 b n k).length := Nat.succ_pos _
  have dec : ∀ i, i + 1 < (F08 b n k).length → (F08 b n k).getD (i + 1) 0 < (F08 b n k).getD i 0 := fun i hi => dec_at _ k hD i (Nat.lt_of_succ_lt_succ hi)
  generalize F08 b n k = R at *
  unfold b_k08_bounds
  walk_at "zs"
  rw [comp_e]
  walk_at "zs"
  rw [List.length_map]
  refine ⟨by omega, comp_map (fun _ => .bl true) (by show ((R.length : Int) - 1).toNat ≤ _; rw [sizeLine_eq]; omega) trivial (fun i hi K1 K2 hK => ?_) ?_⟩
  · have hi' : i + 1 < R.length := by
      have h5 : i < ((R.length : Int) - 1).toNat := hi
      omega
    walk_at "zs"
    rw [at_ints_getD (by omega), show (i : Int) + 1 = ((i + 1 : Nat) : Int) by push_cast; rfl, at_ints_getD hi']
    walk_at "zs"
    have := dec i hi'
    rw [decide_eq_true this]
    exact hK
  · rw [rng_bl]
    refine cAll_bls ?_
    rw [all_rep]
    walk_at "zs"
    rw [own_1]
    refine ⟨gtF b n, 2, rfl, by omega, Int.lt_trans h6 (by decide +kernel), by decide, small_two, ?_⟩
    walk_at "zs"
    have dL := digs_len (b := 2) (by decide) 4001 (gtF b n) h6
    rw [List.length_map]
    refine ⟨mul_ok (a := 10) (b := 30) (by decide) (by omega) (by decide), ?_⟩
    rw [decide_eq_true (by omega)]
    exact h m (Ext.refl m)
def b_k08_right (cl : Str → Addr) : ZTS :=
  (sseq (sset (zbl (acons (zcall (c_due PT F08) (acons (zv 1) (acons (zv 2) (acons (zv 3) (acons (zv 4) anil))))) anil) cTuple) 5)
    (sseq (sset (zfl (acons (zmethK (cl "Context") "rows" (kwC (c_ctx_rows cl (ws_k08 cl)) 2 1) (zv 0) (acons (zv 4) anil) (acons (zc (.str "table")) anil)) anil)) 6)
    (sseq (sif (tor (tnot (tvl (zbl (acons (zlc (iseq (zv 6)) (gn 7) tyes (zand (zcall c_are_whole (acons (zv 7) anil)) (zop oEq (zv 7) (zv 5))) [7]) anil) cAll))) (tvl (zop oNe (zop oIx (zv 5) (zun oNeg (zc (.int 1)))) (zop oMod (zv 4) (zv 2))))) (sret (zc (.bl false))) snil)
    (sseq (sset (zmethK (cl "Context") "rest" (kwC (c_ctx_rest cl (ws_k08 cl)) 2 1) (zv 0) (acons (zv 4) anil) (acons (zc (.str "table")) anil)) 8)
    (sret (zand (zcall c_whole (acons (zv 8) anil)) (zand (zop oEq (zv 8) (zop oIx (zv 5) (zun oNeg (zc (.int 1))))) (zcall (c_bounds PT F08) (acons (zv 1) (acons (zv 2) (acons (zv 3) (acons (zv 4) (acons (zv 5) anil)))))))))))))
theorem w_k08_right (cl : Str → Addr) (ds : List D) (m : Mu) (Q : QE) (E : QX) (h : c_right cl PT ds m Q E) : ds.length = 5 ∧ b_k08_right cl ⟨fun _ m => Q .non m, Q, fun x _ m => E x m⟩ (ds.map some ++ List.replicate (9 - ds.length) none) m :=
  w_gright way_k08 (List.mem_singleton.mpr rfl) ok_k08 ds m Q E h
def t_k08_law2 (cl : Str → Addr) : ZTS :=
  (sseq (sasg (ztup (acons (zcall c_ltables (acons (zv 4) (acons (zv 3) anil))) (acons (zcallK (mkCK (cl "Context") (kwC (c_ctx_init cl) 2 1)) (acons (zv 4) anil) (acons (zv 3) anil)) anil))) (gtup 2 (gcons (gn 5) (gcons (gn 6) gnil))))
    (sseq (sset (zlc (irng1 (acons (zc (.int 4)) anil)) (gn 8) tyes (zcall c_lnumber (acons (zv 2) (acons (zv 4) (acons (zv 3) (acons (zop oIx (zv 5) (zc (.int 1))) anil))))) [8]) 7)
    (sif (tnot (tvl (zbl (acons (zlc (iseq (zop oAddL (zv 7) (zsl (zv 7) onone (osome (zc (.int 1)))))) (gn 9) tyes (zcall (c_right cl PT) (acons (zv 6) (acons (zv 5) (acons (zv 4) (acons (zv 3) (acons (zv 9) anil)))))) [9]) anil) cAll))) (sret (zc (.bl false))) snil)))
def b_k08_law (cl : Str → Addr) : ZTS :=
  (sseq (sfor (irng1 (acons (zbl (acons (zc (.int 1)) (acons (zbl (acons (zbl (acons (zv 0) anil) cLen) (acons (zc (.int 5)) anil)) cMin) anil)) cMax) anil)) (gn 1) (sseq (sset (zcall c_pool (acons (zcall c_cell (acons (zv 0) (acons (zv 1) anil))) anil)) 2)
    (sseq (sset (zcall c_lfoot (acons (zv 2) anil)) 3)
    (sseq (sset (zcall c_lmodulus (acons (zv 2) (acons (zv 3) anil))) 4)
    (t_k08_law2 cl)))))
    (sret (zc (.bl true))))
theorem w_k08_law (cl : Str → Addr) (ds : List D) (m : Mu) (Q : QE) (E : QX) (h : c_glaw ds m Q E) : ds.length = 1 ∧ b_k08_law cl ⟨fun _ m => Q .non m, Q, fun x _ m => E x m⟩ (ds.map some ++ List.replicate (10 - ds.length) none) m := w_glaw cl ds m Q E h
end Zed
end
set_option maxHeartbeats 0
namespace Zed
open PySem PySem.Spec PyProof.Rows L2
def topS (i : Nat) : Stmt := PySem.Challenge.pw_restarith_k08_by_a_table.main.body.getD i (.Pass ⟨0, 0, 0, 0⟩)
abbrev s_is_whole : Stmt := topS 12
theorem sc_is_whole : FnScope ["thing"] ["thing"] (defScope s_is_whole) := ⟨rfl, rfl, rfl, by decide +kernel, rfl, by decide +kernel, by decide +kernel⟩
theorem d_is_whole {P : Program} {w : World} {K : PySem.W.Frag} {mg : Str → Option Value} {base : Heap} {f : Addr} {fd : FuncData} {k : Nat} (F : FunD K "is_whole" "is_whole" (defArgs s_is_whole) (defBody s_is_whole) (defScope s_is_whole) [] [] f fd) (B : Blt mg)  : FnOk P w K mg base (L2.CX P w) (k + 1) f fd ["thing"] (SpOf K c_is_whole) :=
  def_okD F sc_is_whole w_is_whole (fun cdv A outer s H E hr => by
    have nd := sc_is_whole.nd
    have hp : PassesOwn (model P w) (A.deeper (envOfC "is_whole" (defScope s_is_whole) s.heap.objs.size f cdv)) (envOfC "is_whole" (defScope s_is_whole) s.heap.objs.size f cdv) (cxOf (L2.CX P w) P w K mg base ["thing"] "is_whole" (defScope s_is_whole) f cdv A outer s H E).xe := passes_of rfl
    have tk : Takes (cxOf (L2.CX P w) P w K mg base ["thing"] "is_whole" (defScope s_is_whole) f cdv A outer s H E) (fun c d _ H => E c d H) := takes_of rfl rfl rfl rfl
    exact (r_last (r_ret (r_and (i_int B (r_v 0)) (r_one (r_not (i_bool B (r_v 0))))))))
abbrev s_check_number : Stmt := topS 13
theorem sc_check_number : FnScope ["thing"] ["thing"] (defScope s_check_number) := ⟨rfl, rfl, rfl, by decide +kernel, rfl, by decide +kernel, by decide +kernel⟩
theorem d_check_number {P : Program} {w : World} {K : PySem.W.Frag} {mg : Str → Option Value} {base : Heap} {f : Addr} {fd : FuncData} {k : Nat} (F : FunD K "check_number" "check_number" (defArgs s_check_number) (defBody s_check_number) (defScope s_check_number) [] [] f fd) (B : Blt mg) (g_is_whole : GDef P w K mg base k "is_whole" c_is_whole) : FnOk P w K mg base (L2.CX P w) (k + 1) f fd ["thing"] (SpOf K c_check_number) :=
  def_okD F sc_check_number w_check_number (fun cdv A outer s H E hr => by
    have nd := sc_check_number.nd
    have hp : PassesOwn (model P w) (A.deeper (envOfC "check_number" (defScope s_check_number) s.heap.objs.size f cdv)) (envOfC "check_number" (defScope s_check_number) s.heap.objs.size f cdv) (cxOf (L2.CX P w) P w K mg base ["thing"] "check_number" (defScope s_check_number) f cdv A outer s H E).xe := passes_of rfl
    have tk : Takes (cxOf (L2.CX P w) P w K mg base ["thing"] "check_number" (defScope s_check_number) f cdv A outer s H E) (fun c d _ H => E c d H) := takes_of rfl rfl rfl rfl
    exact (r_last (r_sif (PW.pt (r_tor (r_tnot (r_tvl (r_call g_is_whole hr tk (r_acons (r_v 0) r_anil)))) (r_or1 (r_tcmp o_lt (r_v 0) r_int)))) r_never r_nil)))
abbrev s_check_base : Stmt := topS 14
theorem sc_check_base : FnScope ["base"] ["base"] (defScope s_check_base) := ⟨rfl, rfl, rfl, by decide +kernel, rfl, by decide +kernel, by decide +kernel⟩
theorem d_check_base {P : Program} {w : World} {K : PySem.W.Frag} {mg : Str → Option Value} {base : Heap} {f : Addr} {fd : FuncData} {k : Nat} (F : FunD K "check_base" "check_base" (defArgs s_check_base) (defBody s_check_base) (defScope s_check_base) [] [] f fd) (B : Blt mg) (g_is_whole : GDef P w K mg base k "is_whole" c_is_whole) (v_LEAST_BASE : GVal K mg "LEAST_BASE" (.int 2)) (v_GREATEST_BASE : GVal K mg "GREATEST_BASE" (.int 1000000)) : FnOk P w K mg base (L2.CX P w) (k + 1) f fd ["base"] (SpOf K c_check_base) :=
  def_okD F sc_check_base w_check_base (fun cdv A outer s H E hr => by
    have nd := sc_check_base.nd
    have hp : PassesOwn (model P w) (A.deeper (envOfC "check_base" (defScope s_check_base) s.heap.objs.size f cdv)) (envOfC "check_base" (defScope s_check_base) s.heap.objs.size f cdv) (cxOf (L2.CX P w) P w K mg base ["base"] "check_base" (defScope s_check_base) f cdv A outer s H E).xe := passes_of rfl
    have tk : Takes (cxOf (L2.CX P w) P w K mg base ["base"] "check_base" (defScope s_check_base) f cdv A outer s H E) (fun c d _ H => E c d H) := takes_of rfl rfl rfl rfl
    exact (r_last (r_sif (PW.pt (r_tor (r_tnot (r_tvl (r_call g_is_whole hr tk (r_acons (r_v 0) r_anil)))) (r_or1 (r_tnot (r_tchn o_le o_le (r_g v_LEAST_BASE) (r_v 0) (r_g v_GREATEST_BASE)))))) r_never r_nil)))
abbrev s_figures_of : Stmt := topS 15
theorem sc_figures_of : FnScope ["number", "base", "found", "figure"] ["number", "base"] (defScope s_figures_of) := ⟨rfl, rfl, rfl, by decide +kernel, rfl, by decide +kernel, by decide +kernel⟩
theorem d_figures_of {P : Program} {w : World} {K : PySem.W.Frag} {mg : Str → Option Value} {base : Heap} {f : Addr} {fd : FuncData} {k : Nat} (F : FunD K "figures_of" "figures_of" (defArgs s_figures_of) (defBody s_figures_of) (defScope s_figures_of) [] [] f fd) (B : Blt mg)  : FnOk P w K mg base (L2.CX P w) (k + 1) f fd ["number", "base"] (SpOf K c_figures_of) :=
  def_okD F sc_figures_of w_figures_of (fun cdv A outer s H E hr => by
    have nd := sc_figures_of.nd
    have hp : PassesOwn (model P w) (A.deeper (envOfC "figures_of" (defScope s_figures_of) s.heap.objs.size f cdv)) (envOfC "figures_of" (defScope s_figures_of) s.heap.objs.size f cdv) (cxOf (L2.CX P w) P w K mg base ["number", "base", "found", "figure"] "figures_of" (defScope s_figures_of) f cdv A outer s H E).xe := passes_of rfl
    have tk : Takes (cxOf (L2.CX P w) P w K mg base ["number", "base", "found", "figure"] "figures_of" (defScope s_figures_of) f cdv A outer s H E) (fun c d _ H => E c d H) := takes_of rfl rfl rfl rfl
    exact (r_cons (r_set 2 nd (r_lst r_anil)) (r_cons (r_while hp (r_tcmp o_gt (r_v 0) r_int) (r_cons (r_sasg (vs := [0, 3]) (r_blt c_divmod B.divmod bv_divmod (r_acons (r_v 0) (r_acons (r_v 1) r_anil))) (r_gtup rfl (r_gcons (r_gn 0 nd) (r_gcons (r_gn 3 nd) r_gnil)))) (r_last (r_sexp (r_app (r_v 2) (r_acons (r_v 3) r_anil)))))) (r_last (r_ret (r_seal (r_v 2)))))))
abbrev s_limbs_of : Stmt := topS 16
theorem sc_limbs_of : FnScope ["number", "base"] ["number", "base"] (defScope s_limbs_of) := ⟨rfl, rfl, rfl, by decide +kernel, rfl, by decide +kernel, by decide +kernel⟩
theorem d_limbs_of {P : Program} {w : World} {K : PySem.W.Frag} {mg : Str → Option Value} {base : Heap} {f : Addr} {fd : FuncData} {k : Nat} (F : FunD K "limbs_of" "limbs_of" (defArgs s_limbs_of) (defBody s_limbs_of) (defScope s_limbs_of) [] [("base", .int 10)] f fd) (B : Blt mg) (g_figures_of : GDef P w K mg base k "figures_of" c_figures_of) (g_check_base : GDef P w K mg base k "check_base" c_check_base) (g_check_number : GDef P w K mg base k "check_number" c_check_number) : FnOk P w K mg base (L2.CX P w) (k + 1) f fd ["number", "base"] (SpOf K c_limbs_of0) :=
  def_okD F sc_limbs_of w_limbs_of (fun cdv A outer s H E hr => by
    have nd := sc_limbs_of.nd
    have hp : PassesOwn (model P w) (A.deeper (envOfC "limbs_of" (defScope s_limbs_of) s.heap.objs.size f cdv)) (envOfC "limbs_of" (defScope s_limbs_of) s.heap.objs.size f cdv) (cxOf (L2.CX P w) P w K mg base ["number", "base"] "limbs_of" (defScope s_limbs_of) f cdv A outer s H E).xe := passes_of rfl
    have tk : Takes (cxOf (L2.CX P w) P w K mg base ["number", "base"] "limbs_of" (defScope s_limbs_of) f cdv A outer s H E) (fun c d _ H => E c d H) := takes_of rfl rfl rfl rfl
    exact (r_cons (r_sexp (r_call g_check_number hr tk (r_acons (r_v 0) r_anil))) (r_cons (r_sexp (r_call g_check_base hr tk (r_acons (r_v 1) r_anil))) (r_last (r_ret (r_bty c_tuple B.tuple bv_tuple (r_acons (r_call g_figures_of hr tk (r_acons (r_v 0) (r_acons (r_v 1) r_anil))) r_anil)))))))
abbrev s_division : Stmt := topS 17
theorem sc_division : FnScope ["number", "divisor", "base", "found", "rest", "limb", "figure"] ["number", "divisor", "base"] (defScope s_division) := ⟨rfl, rfl, rfl, by decide +kernel, rfl, by decide +kernel, by decide +kernel⟩
theorem d_division {P : Program} {w : World} {K : PySem.W.Frag} {mg : Str → Option Value} {base : Heap} {f : Addr} {fd : FuncData} {k : Nat} (F : FunD K "division" "division" (defArgs s_division) (defBody s_division) (defScope s_division) [] [("base", .int 10)] f fd) (B : Blt mg) (g_figures_of : GDef P w K mg base k "figures_of" c_figures_of) (g_check_base : GDef P w K mg base k "check_base" c_check_base) (g_is_whole : GDef P w K mg base k "is_whole" c_is_whole) (g_check_number : GDef P w K mg base k "check_number" c_check_number) : FnOk P w K mg base (L2.CX P w) (k + 1) f fd ["number", "divisor", "base"] (SpOf K c_division0) :=
  def_okD F sc_division w_division (fun cdv A outer s H E hr => by
    have nd := sc_division.nd
    have hp : PassesOwn (model P w) (A.deeper (envOfC "division" (defScope s_division) s.heap.objs.size f cdv)) (envOfC "division" (defScope s_division) s.heap.objs.size f cdv) (cxOf (L2.CX P w) P w K mg base ["number", "divisor", "base", "found", "rest", "limb", "figure"] "division" (defScope s_division) f cdv A outer s H E).xe := passes_of rfl
    have tk : Takes (cxOf (L2.CX P w) P w K mg base ["number", "divisor", "base", "found", "rest", "limb", "figure"] "division" (defScope s_division) f cdv A outer s H E) (fun c d _ H => E c d H) := takes_of rfl rfl rfl rfl
    exact (r_cons (r_sexp (r_call g_check_number hr tk (r_acons (r_v 0) r_anil))) (r_cons (r_sif (PW.pt (r_tor (r_tnot (r_tvl (r_call g_is_whole hr tk (r_acons (r_v 1) r_anil)))) (r_or1 (r_tcmp o_lt (r_v 1) r_int)))) r_never r_nil) (r_cons (r_sexp (r_call g_check_base hr tk (r_acons (r_v 2) r_anil))) (r_cons (r_par 3 4 rfl nd (r_acons (r_lst r_anil) (r_acons r_int r_anil))) (r_cons (r_for (vs := [5]) hp rfl (r_iseq (r_revA (r_call g_figures_of hr tk (r_acons (r_v 0) (r_acons (r_v 2) r_anil))))) (r_gn 5 nd) (r_cons (r_sasg (vs := [6, 4]) (r_blt c_divmod B.divmod bv_divmod (r_acons (r_op o_add (r_op o_mul (r_v 4) (r_v 2)) (r_v 5)) (r_acons (r_v 1) r_anil))) (r_gtup rfl (r_gcons (r_gn 6 nd) (r_gcons (r_gn 4 nd) r_gnil)))) (r_last (r_sexp (r_app (r_v 3) (r_acons (r_tup (r_acons (r_v 6) (r_acons (r_v 4) r_anil))) r_anil)))))) (r_last (r_ret (r_bty c_tuple B.tuple bv_tuple (r_acons (r_v 3) r_anil))))))))))
abbrev s_rows_of : Stmt := topS 19
theorem sc_rows_of : FnScope ["one", "other", "found", "ahead", "last", "many", "a", "b"] ["one", "other"] (defScope s_rows_of) := ⟨rfl, rfl, rfl, by decide +kernel, rfl, by decide +kernel, by decide +kernel⟩
theorem d_rows_of {P : Program} {w : World} {K : PySem.W.Frag} {mg : Str → Option Value} {base : Heap} {f : Addr} {fd : FuncData} {k : Nat} (F : FunD K "rows_of" "rows_of" (defArgs s_rows_of) (defBody s_rows_of) (defScope s_rows_of) [] [] f fd) (B : Blt mg)  : FnOk P w K mg base (L2.CX P w) (k + 1) f fd ["one", "other"] (SpOf K c_rows_of) :=
  def_okD F sc_rows_of w_rows_of (fun cdv A outer s H E hr => by
    have nd := sc_rows_of.nd
    have hp : PassesOwn (model P w) (A.deeper (envOfC "rows_of" (defScope s_rows_of) s.heap.objs.size f cdv)) (envOfC "rows_of" (defScope s_rows_of) s.heap.objs.size f cdv) (cxOf (L2.CX P w) P w K mg base ["one", "other", "found", "ahead", "last", "many", "a", "b"] "rows_of" (defScope s_rows_of) f cdv A outer s H E).xe := passes_of rfl
    have tk : Takes (cxOf (L2.CX P w) P w K mg base ["one", "other", "found", "ahead", "last", "many", "a", "b"] "rows_of" (defScope s_rows_of) f cdv A outer s H E) (fun c d _ H => E c d H) := takes_of rfl rfl rfl rfl
    exact (r_cons (r_set 2 nd (r_lst (r_acons (r_tup (r_acons (r_v 0) (r_acons r_int (r_acons r_int r_anil)))) (r_acons (r_tup (r_acons (r_v 1) (r_acons r_int (r_acons r_int r_anil)))) r_anil)))) (r_cons (r_while hp (r_tcmp o_gt (r_ix (r_ix (r_v 2) (r_un o_neg r_int)) r_int) r_int) (r_cons (r_sasg (vs := [3, 4]) (r_sl (r_v 2) (r_osome (r_un o_neg r_int)) r_onone) (r_gtupA rfl (r_gcons (r_gn 3 nd) (r_gcons (r_gn 4 nd) r_gnil)))) (r_cons (r_set 5 nd (r_op o_fdv (r_ix (r_v 3) r_int) (r_ix (r_v 4) r_int))) (r_last (r_sexp (r_app (r_v 2) (r_acons (r_bty c_tuple B.tuple bv_tuple (r_acons (r_lc rfl nd [("a", 6), ("b", 7)] (by exact (show blkC ["one", "other", "found", "ahead", "last", "many", "a", "b"] (defScope s_rows_of) _ [("a", 6), ("b", 7)] = true from by decide +kernel)) (r_izip B.zip (r_acons (r_v 3) (r_acons (r_v 4) r_anil))) (fun _ _ _ _ _ => (r_gtup rfl (r_gcons (r_gn 6 nd) (r_gcons (r_gn 7 nd) r_gnil)))) (fun _ _ _ _ _ => r_tyes) (fun _ _ _ _ _ => (r_op o_sub (r_v 6) (r_op o_mul (r_v 5) (r_v 7))))) r_anil)) r_anil))))))) (r_last (r_ret (r_seal (r_v 2)))))))
abbrev s_last_row : Stmt := topS 20
theorem sc_last_row : FnScope ["one", "other", "row"] ["one", "other"] (defScope s_last_row) := ⟨rfl, rfl, rfl, by decide +kernel, rfl, by decide +kernel, by decide +kernel⟩
theorem d_last_row {P : Program} {w : World} {K : PySem.W.Frag} {mg : Str → Option Value} {base : Heap} {f : Addr} {fd : FuncData} {k : Nat} (F : FunD K "last_row" "last_row" (defArgs s_last_row) (defBody s_last_row) (defScope s_last_row) [] [] f fd) (B : Blt mg) (g_rows_of : GDef P w K mg base k "rows_of" c_rows_of) : FnOk P w K mg base (L2.CX P w) (k + 1) f fd ["one", "other"] (SpOf K c_last_row) :=
  def_okD F sc_last_row w_last_row (fun cdv A outer s H E hr => by
    have nd := sc_last_row.nd
    have hp : PassesOwn (model P w) (A.deeper (envOfC "last_row" (defScope s_last_row) s.heap.objs.size f cdv)) (envOfC "last_row" (defScope s_last_row) s.heap.objs.size f cdv) (cxOf (L2.CX P w) P w K mg base ["one", "other", "row"] "last_row" (defScope s_last_row) f cdv A outer s H E).xe := passes_of rfl
    have tk : Takes (cxOf (L2.CX P w) P w K mg base ["one", "other", "row"] "last_row" (defScope s_last_row) f cdv A outer s H E) (fun c d _ H => E c d H) := takes_of rfl rfl rfl rfl
    exact (r_last (r_ret (r_ix (r_lc rfl nd [("row", 2)] (by exact (show blkC ["one", "other", "row"] (defScope s_last_row) _ [("row", 2)] = true from by decide +kernel)) (r_iseq (r_call g_rows_of hr tk (r_acons (r_v 0) (r_acons (r_v 1) r_anil)))) (fun _ _ _ _ _ => (r_gn 2 nd)) (fun _ _ _ _ _ => (r_tone (r_tcmp o_gt (r_ix (r_v 2) r_int) r_int))) (fun _ _ _ _ _ => (r_v 2))) (r_un o_neg r_int)))))
abbrev s_gcd_of : Stmt := topS 21
theorem sc_gcd_of : FnScope ["one", "other"] ["one", "other"] (defScope s_gcd_of) := ⟨rfl, rfl, rfl, by decide +kernel, rfl, by decide +kernel, by decide +kernel⟩
theorem d_gcd_of {P : Program} {w : World} {K : PySem.W.Frag} {mg : Str → Option Value} {base : Heap} {f : Addr} {fd : FuncData} {k : Nat} (F : FunD K "gcd_of" "gcd_of" (defArgs s_gcd_of) (defBody s_gcd_of) (defScope s_gcd_of) [] [] f fd) (B : Blt mg) (g_last_row : GDef P w K mg base k "last_row" c_last_row) : FnOk P w K mg base (L2.CX P w) (k + 1) f fd ["one", "other"] (SpOf K c_gcd_of) :=
  def_okD F sc_gcd_of w_gcd_of (fun cdv A outer s H E hr => by
    have nd := sc_gcd_of.nd
    have hp : PassesOwn (model P w) (A.deeper (envOfC "gcd_of" (defScope s_gcd_of) s.heap.objs.size f cdv)) (envOfC "gcd_of" (defScope s_gcd_of) s.heap.objs.size f cdv) (cxOf (L2.CX P w) P w K mg base ["one", "other"] "gcd_of" (defScope s_gcd_of) f cdv A outer s H E).xe := passes_of rfl
    have tk : Takes (cxOf (L2.CX P w) P w K mg base ["one", "other"] "gcd_of" (defScope s_gcd_of) f cdv A outer s H E) (fun c d _ H => E c d H) := takes_of rfl rfl rfl rfl
    exact (r_last (r_ret (r_ix (r_call g_last_row hr tk (r_acons (r_v 0) (r_acons (r_v 1) r_anil))) r_int))))
abbrev s_check_modulus : Stmt := topS 24
theorem sc_check_modulus : FnScope ["thing"] ["thing"] (defScope s_check_modulus) := ⟨rfl, rfl, rfl, by decide +kernel, rfl, by decide +kernel, by decide +kernel⟩
theorem d_check_modulus {P : Program} {w : World} {K : PySem.W.Frag} {mg : Str → Option Value} {base : Heap} {f : Addr} {fd : FuncData} {k : Nat} (F : FunD K "check_modulus" "check_modulus" (defArgs s_check_modulus) (defBody s_check_modulus) (defScope s_check_modulus) [] [] f fd) (B : Blt mg) (g_is_whole : GDef P w K mg base k "is_whole" c_is_whole) (v_MOST_MODULUS : GVal K mg "MOST_MODULUS" (.int 1000000000000000000000000000000000000000000000000000000000000)) : FnOk P w K mg base (L2.CX P w) (k + 1) f fd ["thing"] (SpOf K c_check_modulus) :=
  def_okD F sc_check_modulus w_check_modulus (fun cdv A outer s H E hr => by
    have nd := sc_check_modulus.nd
    have hp : PassesOwn (model P w) (A.deeper (envOfC "check_modulus" (defScope s_check_modulus) s.heap.objs.size f cdv)) (envOfC "check_modulus" (defScope s_check_modulus) s.heap.objs.size f cdv) (cxOf (L2.CX P w) P w K mg base ["thing"] "check_modulus" (defScope s_check_modulus) f cdv A outer s H E).xe := passes_of rfl
    have tk : Takes (cxOf (L2.CX P w) P w K mg base ["thing"] "check_modulus" (defScope s_check_modulus) f cdv A outer s H E) (fun c d _ H => E c d H) := takes_of rfl rfl rfl rfl
    exact (r_last (r_sif (PW.pt (r_tor (r_tnot (r_tvl (r_call g_is_whole hr tk (r_acons (r_v 0) r_anil)))) (r_or1 (r_tnot (r_tchn o_le o_le r_int (r_v 0) (r_g v_MOST_MODULUS)))))) r_never r_nil)))
abbrev s_powers_to : Stmt := topS 25
theorem sc_powers_to : FnScope ["base", "many", "found"] ["base", "many"] (defScope s_powers_to) := ⟨rfl, rfl, rfl, by decide +kernel, rfl, by decide +kernel, by decide +kernel⟩
theorem d_powers_to {P : Program} {w : World} {K : PySem.W.Frag} {mg : Str → Option Value} {base : Heap} {f : Addr} {fd : FuncData} {k : Nat} (F : FunD K "powers_to" "powers_to" (defArgs s_powers_to) (defBody s_powers_to) (defScope s_powers_to) [] [] f fd) (B : Blt mg)  : FnOk P w K mg base (L2.CX P w) (k + 1) f fd ["base", "many"] (SpOf K c_powers_to) :=
  def_okD F sc_powers_to w_powers_to (fun cdv A outer s H E hr => by
    have nd := sc_powers_to.nd
    have hp : PassesOwn (model P w) (A.deeper (envOfC "powers_to" (defScope s_powers_to) s.heap.objs.size f cdv)) (envOfC "powers_to" (defScope s_powers_to) s.heap.objs.size f cdv) (cxOf (L2.CX P w) P w K mg base ["base", "many", "found"] "powers_to" (defScope s_powers_to) f cdv A outer s H E).xe := passes_of rfl
    have tk : Takes (cxOf (L2.CX P w) P w K mg base ["base", "many", "found"] "powers_to" (defScope s_powers_to) f cdv A outer s H E) (fun c d _ H => E c d H) := takes_of rfl rfl rfl rfl
    exact (r_cons (r_set 2 nd (r_lst (r_acons r_int r_anil))) (r_cons (r_while hp (r_tcmp o_le (r_blt c_len B.len bv_len (r_acons (r_v 2) r_anil)) (r_v 1)) (r_last (r_sexp (r_app (r_v 2) (r_acons (r_op o_mul (r_ix (r_v 2) (r_un o_neg r_int)) (r_v 0)) r_anil))))) (r_last (r_ret (r_bty c_tuple B.tuple bv_tuple (r_acons (r_v 2) r_anil)))))))
abbrev s_doubled_below : Stmt := topS 26
theorem sc_doubled_below : FnScope ["modulus", "great", "found", "last"] ["modulus", "great"] (defScope s_doubled_below) := ⟨rfl, rfl, rfl, by decide +kernel, rfl, by decide +kernel, by decide +kernel⟩
theorem d_doubled_below {P : Program} {w : World} {K : PySem.W.Frag} {mg : Str → Option Value} {base : Heap} {f : Addr} {fd : FuncData} {k : Nat} (F : FunD K "doubled_below" "doubled_below" (defArgs s_doubled_below) (defBody s_doubled_below) (defScope s_doubled_below) [] [] f fd) (B : Blt mg)  : FnOk P w K mg base (L2.CX P w) (k + 1) f fd ["modulus", "great"] (SpOf K c_doubled_below) :=
  def_okD F sc_doubled_below w_doubled_below (fun cdv A outer s H E hr => by
    have nd := sc_doubled_below.nd
    have hp : PassesOwn (model P w) (A.deeper (envOfC "doubled_below" (defScope s_doubled_below) s.heap.objs.size f cdv)) (envOfC "doubled_below" (defScope s_doubled_below) s.heap.objs.size f cdv) (cxOf (L2.CX P w) P w K mg base ["modulus", "great", "found", "last"] "doubled_below" (defScope s_doubled_below) f cdv A outer s H E).xe := passes_of rfl
    have tk : Takes (cxOf (L2.CX P w) P w K mg base ["modulus", "great", "found", "last"] "doubled_below" (defScope s_doubled_below) f cdv A outer s H E) (fun c d _ H => E c d H) := takes_of rfl rfl rfl rfl
    exact (r_cons (r_par 2 3 rfl nd (r_acons (r_lst r_anil) (r_acons (r_v 0) r_anil))) (r_cons (r_while hp (r_tcmp o_lt (r_v 3) (r_v 1)) (r_cons (r_sexp (r_app (r_v 2) (r_acons (r_v 3) r_anil))) (r_last (r_aug 3 nd a_mul r_int)))) (r_last (r_ret (r_bty c_tuple B.tuple bv_tuple (r_acons (r_v 2) r_anil)))))))
abbrev s_small_of : Stmt := topS 27
theorem sc_small_of : FnScope ["modulus", "base", "number", "times", "over", "row"] ["modulus", "base"] (defScope s_small_of) := ⟨rfl, rfl, rfl, by decide +kernel, rfl, by decide +kernel, by decide +kernel⟩
theorem d_small_of {P : Program} {w : World} {K : PySem.W.Frag} {mg : Str → Option Value} {base : Heap} {f : Addr} {fd : FuncData} {k : Nat} (F : FunD K "small_of" "small_of" (defArgs s_small_of) (defBody s_small_of) (defScope s_small_of) [] [] f fd) (B : Blt mg) (g_rows_of : GDef P w K mg base k "rows_of" c_rows_of) : FnOk P w K mg base (L2.CX P w) (k + 1) f fd ["modulus", "base"] (SpOf K c_small_of) :=
  def_okD F sc_small_of w_small_of (fun cdv A outer s H E hr => by
    have nd := sc_small_of.nd
    have hp : PassesOwn (model P w) (A.deeper (envOfC "small_of" (defScope s_small_of) s.heap.objs.size f cdv)) (envOfC "small_of" (defScope s_small_of) s.heap.objs.size f cdv) (cxOf (L2.CX P w) P w K mg base ["modulus", "base", "number", "times", "over", "row"] "small_of" (defScope s_small_of) f cdv A outer s H E).xe := passes_of rfl
    have tk : Takes (cxOf (L2.CX P w) P w K mg base ["modulus", "base", "number", "times", "over", "row"] "small_of" (defScope s_small_of) f cdv A outer s H E) (fun c d _ H => E c d H) := takes_of rfl rfl rfl rfl
    exact (r_cons (r_sasg (vs := [2, 3, 4]) (r_ix (r_lc rfl nd [("row", 5)] (by exact (show blkC ["modulus", "base", "number", "times", "over", "row"] (defScope s_small_of) _ [("row", 5)] = true from by decide +kernel)) (r_iseq (r_call g_rows_of hr tk (r_acons (r_op o_mod (r_v 0) (r_v 1)) (r_acons (r_v 1) r_anil)))) (fun _ _ _ _ _ => (r_gn 5 nd)) (fun _ _ _ _ _ => (r_tone (r_tcmp o_gt (r_ix (r_v 5) r_int) r_int))) (fun _ _ _ _ _ => (r_v 5))) (r_un o_neg r_int)) (r_gtup rfl (r_gcons (r_gn 2 nd) (r_gcons (r_gn 3 nd) (r_gcons (r_gn 4 nd) r_gnil))))) (r_last (r_ret (r_op o_mod (r_un o_neg (r_v 3)) (r_v 1))))))
abbrev s_Context___init__ : Stmt := inClass (topS 28) 0
theorem sc_Context___init__ : FnScope ["self", "modulus", "base", "square", "rests", "power", "mont"] ["self", "modulus", "base"] (defScope s_Context___init__) := ⟨rfl, rfl, rfl, by decide +kernel, rfl, by decide +kernel, by decide +kernel⟩
theorem d_Context___init__ {P : Program} {w : World} {K : PySem.W.Frag} {mg : Str → Option Value} {base : Heap} {f : Addr} {fd : FuncData} {k : Nat} (cl : Str → Addr) (F : FunD K "__init__" "Context.__init__" (defArgs s_Context___init__) (defBody s_Context___init__) (defScope s_Context___init__) [] [("base", .int 10)] f fd) (B : Blt mg) (a_great : ∀ C ∈ [cl "Context"], ClF K C "great") (g_doubled_below : GDef P w K mg base k "doubled_below" c_doubled_below) (a_tables : ∀ C ∈ [cl "Context"], ClF K C "tables") (a_has_mont : ∀ C ∈ [cl "Context"], ClF K C "has_mont") (g_small_of : GDef P w K mg base k "small_of" c_small_of) (a_raised : ∀ C ∈ [cl "Context"], ClF K C "raised") (a_size : ∀ C ∈ [cl "Context"], ClF K C "size") (g_gcd_of : GDef P w K mg base k "gcd_of" c_gcd_of) (g_powers_to : GDef P w K mg base k "powers_to" c_powers_to) (k_limbs_of_base : GDefK P w K mg base k "limbs_of" 1 ["base"] ck_limbs_of) (a_base : ∀ C ∈ [cl "Context"], ClF K C "base") (a_modulus : ∀ C ∈ [cl "Context"], ClF K C "modulus") (g_check_base : GDef P w K mg base k "check_base" c_check_base) (g_check_modulus : GDef P w K mg base k "check_modulus" c_check_modulus) : FnOk P w K mg base (L2.CX P w) (k + 1) f fd ["self", "modulus", "base"] (SpOf K (c_ctx_init cl)) :=
  def_okD F sc_Context___init__ (w_ctx_init cl) (fun cdv A outer s H E hr => by
    have nd := sc_Context___init__.nd
    have hp : PassesOwn (model P w) (A.deeper (envOfC "Context.__init__" (defScope s_Context___init__) s.heap.objs.size f cdv)) (envOfC "Context.__init__" (defScope s_Context___init__) s.heap.objs.size f cdv) (cxOf (L2.CX P w) P w K mg base ["self", "modulus", "base", "square", "rests", "power", "mont"] "Context.__init__" (defScope s_Context___init__) f cdv A outer s H E).xe := passes_of rfl
    have tk : Takes (cxOf (L2.CX P w) P w K mg base ["self", "modulus", "base", "square", "rests", "power", "mont"] "Context.__init__" (defScope s_Context___init__) f cdv A outer s H E) (fun c d _ H => E c d H) := takes_of rfl rfl rfl rfl
    exact (r_cons (r_sexp (r_call g_check_modulus hr tk (r_acons (r_v 1) r_anil))) (r_cons (r_sexp (r_call g_check_base hr tk (r_acons (r_v 2) r_anil))) (r_cons (r_fld a_modulus (r_v 0) (r_v 1)) (r_cons (r_fld a_base (r_v 0) (r_v 2)) (r_cons (r_fld a_size (r_v 0) (r_blt c_len B.len bv_len (r_acons (r_callK k_limbs_of_base hr tk (r_acons (r_v 1) r_anil) (r_kcons (r_v 2) r_knil)) r_anil))) (r_cons (r_fld a_raised (r_v 0) (r_call g_powers_to hr tk (r_acons (r_v 2) (r_acons (r_op o_mul r_int (r_attr a_size (r_v 0))) r_anil)))) (r_cons (r_fld a_great (r_v 0) (r_ix (r_attr a_raised (r_v 0)) (r_attr a_size (r_v 0)))) (r_cons (r_fld a_has_mont (r_v 0) (r_cmp (o_eq hr.units) (r_call g_gcd_of hr tk (r_acons (r_v 1) (r_acons (r_v 2) r_anil))) r_int)) (r_cons (r_set 3 nd (r_op o_mul (r_attr a_great (r_v 0)) (r_attr a_great (r_v 0)))) (r_cons (r_set 4 nd (r_bty c_tuple B.tuple bv_tuple (r_acons (r_lc rfl nd [("power", 5)] (by exact (show blkC ["self", "modulus", "base", "square", "rests", "power", "mont"] (defScope s_Context___init__) _ [("power", 5)] = true from by decide +kernel)) (r_iseq (r_sl (r_attr a_raised (r_v 0)) (r_osome (r_attr a_size (r_v 0))) (r_osome (r_op o_mul r_int (r_attr a_size (r_v 0)))))) (fun _ _ _ _ _ => (r_gn 5 nd)) (fun _ _ _ _ _ => r_tyes) (fun _ _ _ _ _ => (r_op o_mod (r_v 5) (r_v 1)))) r_anil))) (r_cons (r_set 6 nd (r_if (r_ttr (r_attr a_has_mont (r_v 0))) (r_tup (r_acons (r_call g_small_of hr tk (r_acons (r_v 1) (r_acons (r_v 2) r_anil))) (r_acons (r_op o_mod (r_v 3) (r_v 1)) r_anil))) (r_tup (r_acons r_non (r_acons r_non r_anil))))) (r_last (r_fld a_tables (r_v 0) (r_op o_add (r_tup (r_acons (r_op o_fdv (r_v 3) (r_v 1)) (r_acons (r_v 4) (r_acons (r_call g_doubled_below hr tk (r_acons (r_v 1) (r_acons (r_attr a_great (r_v 0)) r_anil))) r_anil)))) (r_v 6))))))))))))))))
abbrev s_Context_ways : Stmt := inClass (topS 28) 3
theorem sc_Context_ways : FnScope ["self"] ["self"] (defScope s_Context_ways) := ⟨rfl, rfl, rfl, by decide +kernel, rfl, by decide +kernel, by decide +kernel⟩
theorem d_Context_ways {P : Program} {w : World} {K : PySem.W.Frag} {mg : Str → Option Value} {base : Heap} {f : Addr} {fd : FuncData} {k : Nat} (cl : Str → Addr) (F : FunD K "ways" "Context.ways" (defArgs s_Context_ways) (defBody s_Context_ways) (defScope s_Context_ways) [] [] f fd) (B : Blt mg) (a_has_mont : ∀ C ∈ [cl "Context"], ClF K C "has_mont") : FnOk P w K mg base (L2.CX P w) (k + 1) f fd ["self"] (SpOf K (c_ctx_ways cl)) :=
  def_okD F sc_Context_ways (w_ctx_ways cl) (fun cdv A outer s H E hr => by
    have nd := sc_Context_ways.nd
    have hp : PassesOwn (model P w) (A.deeper (envOfC "Context.ways" (defScope s_Context_ways) s.heap.objs.size f cdv)) (envOfC "Context.ways" (defScope s_Context_ways) s.heap.objs.size f cdv) (cxOf (L2.CX P w) P w K mg base ["self"] "Context.ways" (defScope s_Context_ways) f cdv A outer s H E).xe := passes_of rfl
    have tk : Takes (cxOf (L2.CX P w) P w K mg base ["self"] "Context.ways" (defScope s_Context_ways) f cdv A outer s H E) (fun c d _ H => E c d H) := takes_of rfl rfl rfl rfl
    exact (r_cons (r_sif (r_ttr (r_attr a_has_mont (r_v 0))) (r_last (r_ret (r_tup (r_acons r_str (r_acons r_str (r_acons r_str (r_acons r_str r_anil))))))) r_nil) (r_last (r_ret (r_tup (r_acons r_str (r_acons r_str (r_acons r_str r_anil))))))))
abbrev s_Context_rows : Stmt := inClass (topS 28) 5
theorem sc_Context_rows : FnScope ["self", "number", "way", "walk"] ["self", "number", "way"] (defScope s_Context_rows) := ⟨rfl, rfl, rfl, by decide +kernel, rfl, by decide +kernel, by decide +kernel⟩
theorem d_Context_rows {P : Program} {w : World} {K : PySem.W.Frag} {mg : Str → Option Value} {base : Heap} {f : Addr} {fd : FuncData} {k : Nat} (cl : Str → Addr) (F : FunD K "rows" "Context.rows" (defArgs s_Context_rows) (defBody s_Context_rows) (defScope s_Context_rows) [] [("way", .str "plain")] f fd) (B : Blt mg) (h_walk : ∀ pr ∈ ((ws_k08 cl) : List (Addr × ZSp)), GHeld P w K mg base k pr.1 pr.2) (dt_WALKS : GDict K w mg "WALKS" (tab_WALKS cl)) (m_Context_ways : GMeth P w K mg base k (cl "Context") "ways" (c_ctx_ways cl)) (g_is_whole : GDef P w K mg base k "is_whole" c_is_whole) (a_great : ∀ C ∈ [cl "Context"], ClF K C "great") : FnOk P w K mg base (L2.CX P w) (k + 1) f fd ["self", "number", "way"] (SpOf K (c_ctx_rows cl (ws_k08 cl))) :=
  def_okD F sc_Context_rows (w_ctx_rows cl (ws_k08 cl)) (fun cdv A outer s H E hr => by
    have nd := sc_Context_rows.nd
    have hp : PassesOwn (model P w) (A.deeper (envOfC "Context.rows" (defScope s_Context_rows) s.heap.objs.size f cdv)) (envOfC "Context.rows" (defScope s_Context_rows) s.heap.objs.size f cdv) (cxOf (L2.CX P w) P w K mg base ["self", "number", "way", "walk"] "Context.rows" (defScope s_Context_rows) f cdv A outer s H E).xe := passes_of rfl
    have tk : Takes (cxOf (L2.CX P w) P w K mg base ["self", "number", "way", "walk"] "Context.rows" (defScope s_Context_rows) f cdv A outer s H E) (fun c d _ H => E c d H) := takes_of rfl rfl rfl rfl
    exact (r_cons (r_sif (PW.pt (r_tor (r_tnot (r_tvl (r_call g_is_whole hr tk (r_acons (r_v 1) r_anil)))) (r_or1 (r_tnot (r_tchn o_le o_lt r_int (r_v 1) (r_op o_mul (r_attr a_great (r_v 0)) (r_attr a_great (r_v 0)))))))) r_never r_nil) (r_cons (r_sif (PW.pt (r_tor (r_tnot (r_tvl (i_str B (r_v 2)))) (r_or1 (r_tcmp o_notin (r_v 2) (r_meth0 m_Context_ways hr tk (r_v 0)))))) r_never r_nil) (r_cons (r_set 3 nd (r_dget dt_WALKS (r_v 2))) (r_last (r_ret (r_bty c_tuple B.tuple bv_tuple (r_acons (r_callL 3 h_walk hr tk (r_acons (r_v 0) (r_acons (r_v 1) r_anil))) r_anil))))))))
abbrev s_Context_rest : Stmt := inClass (topS 28) 6
theorem sc_Context_rest : FnScope ["self", "number", "way"] ["self", "number", "way"] (defScope s_Context_rest) := ⟨rfl, rfl, rfl, by decide +kernel, rfl, by decide +kernel, by decide +kernel⟩
theorem d_Context_rest {P : Program} {w : World} {K : PySem.W.Frag} {mg : Str → Option Value} {base : Heap} {f : Addr} {fd : FuncData} {k : Nat} (cl : Str → Addr) (F : FunD K "rest" "Context.rest" (defArgs s_Context_rest) (defBody s_Context_rest) (defScope s_Context_rest) [] [("way", .str "plain")] f fd) (B : Blt mg) (mk_Context_rows_way : GMethK P w K mg base k (cl "Context") "rows" 2 ["way"] (kwC (c_ctx_rows cl (ws_k08 cl)) 2 1)) : FnOk P w K mg base (L2.CX P w) (k + 1) f fd ["self", "number", "way"] (SpOf K (c_ctx_rest cl (ws_k08 cl))) :=
  def_okD F sc_Context_rest (w_ctx_rest cl (ws_k08 cl)) (fun cdv A outer s H E hr => by
    have nd := sc_Context_rest.nd
    have hp : PassesOwn (model P w) (A.deeper (envOfC "Context.rest" (defScope s_Context_rest) s.heap.objs.size f cdv)) (envOfC "Context.rest" (defScope s_Context_rest) s.heap.objs.size f cdv) (cxOf (L2.CX P w) P w K mg base ["self", "number", "way"] "Context.rest" (defScope s_Context_rest) f cdv A outer s H E).xe := passes_of rfl
    have tk : Takes (cxOf (L2.CX P w) P w K mg base ["self", "number", "way"] "Context.rest" (defScope s_Context_rest) f cdv A outer s H E) (fun c d _ H => E c d H) := takes_of rfl rfl rfl rfl
    exact (r_last (r_ret (r_ix (r_methK mk_Context_rows_way hr tk (r_v 0) (r_acons (r_v 1) r_anil) (r_kcons (r_v 2) r_knil)) (r_un o_neg r_int)))))
abbrev s_folded : Stmt := topS 31
theorem sc_folded : FnScope ["context", "number", "further", "limb", "rest"] ["context", "number"] (defScope s_folded) := ⟨rfl, rfl, rfl, by decide +kernel, rfl, by decide +kernel, by decide +kernel⟩
theorem d_folded {P : Program} {w : World} {K : PySem.W.Frag} {mg : Str → Option Value} {base : Heap} {f : Addr} {fd : FuncData} {k : Nat} (cl : Str → Addr) (F : FunD K "folded" "folded" (defArgs s_folded) (defBody s_folded) (defScope s_folded) [] [] f fd) (B : Blt mg) (a_tables : ∀ C ∈ [cl "Context"], ClF K C "tables") (a_great : ∀ C ∈ [cl "Context"], ClF K C "great") (k_limbs_of_base : GDefK P w K mg base k "limbs_of" 1 ["base"] ck_limbs_of) (a_base : ∀ C ∈ [cl "Context"], ClF K C "base") (a_size : ∀ C ∈ [cl "Context"], ClF K C "size") : FnOk P w K mg base (L2.CX P w) (k + 1) f fd ["context", "number"] (SpOf K (c_folded cl)) :=
  def_okD F sc_folded (w_folded cl) (fun cdv A outer s H E hr => by
    have nd := sc_folded.nd
    have hp : PassesOwn (model P w) (A.deeper (envOfC "folded" (defScope s_folded) s.heap.objs.size f cdv)) (envOfC "folded" (defScope s_folded) s.heap.objs.size f cdv) (cxOf (L2.CX P w) P w K mg base ["context", "number", "further", "limb", "rest"] "folded" (defScope s_folded) f cdv A outer s H E).xe := passes_of rfl
    have tk : Takes (cxOf (L2.CX P w) P w K mg base ["context", "number", "further", "limb", "rest"] "folded" (defScope s_folded) f cdv A outer s H E) (fun c d _ H => E c d H) := takes_of rfl rfl rfl rfl
    exact (r_cons (r_set 2 nd (r_sl (r_callK k_limbs_of_base hr tk (r_acons (r_v 1) r_anil) (r_kcons (r_attr a_base (r_v 0)) r_knil)) (r_osome (r_attr a_size (r_v 0))) r_onone)) (r_last (r_ret (r_bltK (c_sumK rfl) B.sum bv_sum (r_acons (r_lc rfl nd [("limb", 3), ("rest", 4)] (by exact (show blkC ["context", "number", "further", "limb", "rest"] (defScope s_folded) _ [("limb", 3), ("rest", 4)] = true from by decide +kernel)) (r_izip B.zip (r_acons (r_v 2) (r_acons (r_ix (r_attr a_tables (r_v 0)) r_int) r_anil))) (fun _ _ _ _ _ => (r_gtup rfl (r_gcons (r_gn 3 nd) (r_gcons (r_gn 4 nd) r_gnil)))) (fun _ _ _ _ _ => r_tyes) (fun _ _ _ _ _ => (r_op o_mul (r_v 3) (r_v 4)))) r_anil) (r_kcons (r_op o_mod (r_v 1) (r_attr a_great (r_v 0))) r_knil))))))
abbrev s_table_rows : Stmt := topS 32
theorem sc_table_rows : FnScope ["context", "number", "found", "multiple"] ["context", "number"] (defScope s_table_rows) := ⟨rfl, rfl, rfl, by decide +kernel, rfl, by decide +kernel, by decide +kernel⟩
theorem d_table_rows {P : Program} {w : World} {K : PySem.W.Frag} {mg : Str → Option Value} {base : Heap} {f : Addr} {fd : FuncData} {k : Nat} (cl : Str → Addr) (F : FunD K "table_rows" "table_rows" (defArgs s_table_rows) (defBody s_table_rows) (defScope s_table_rows) [] [] f fd) (B : Blt mg) (a_tables : ∀ C ∈ [cl "Context"], ClF K C "tables") (a_great : ∀ C ∈ [cl "Context"], ClF K C "great") (g_folded : GDef P w K mg base k "folded" (c_folded cl)) : FnOk P w K mg base (L2.CX P w) (k + 1) f fd ["context", "number"] (SpOf K (c_way cl PT F08)) :=
  def_okD F sc_table_rows (w_table_rows cl) (fun cdv A outer s H E hr => by
    have nd := sc_table_rows.nd
    have hp : PassesOwn (model P w) (A.deeper (envOfC "table_rows" (defScope s_table_rows) s.heap.objs.size f cdv)) (envOfC "table_rows" (defScope s_table_rows) s.heap.objs.size f cdv) (cxOf (L2.CX P w) P w K mg base ["context", "number", "found", "multiple"] "table_rows" (defScope s_table_rows) f cdv A outer s H E).xe := passes_of rfl
    have tk : Takes (cxOf (L2.CX P w) P w K mg base ["context", "number", "found", "multiple"] "table_rows" (defScope s_table_rows) f cdv A outer s H E) (fun c d _ H => E c d H) := takes_of rfl rfl rfl rfl
    exact (r_cons (r_set 2 nd (r_lst (r_acons (r_v 1) r_anil))) (r_cons (r_while hp (r_tcmp o_ge (r_ix (r_v 2) (r_un o_neg r_int)) (r_attr a_great (r_v 0))) (r_last (r_sexp (r_app (r_v 2) (r_acons (r_call g_folded hr tk (r_acons (r_v 0) (r_acons (r_ix (r_v 2) (r_un o_neg r_int)) r_anil))) r_anil))))) (r_cons (r_for (vs := [3]) hp rfl (r_iseq (r_revA (r_ix (r_attr a_tables (r_v 0)) r_int))) (r_gn 3 nd) (r_last (r_sif (r_tcmp o_le (r_v 3) (r_ix (r_v 2) (r_un o_neg r_int))) (r_last (r_sexp (r_app (r_v 2) (r_acons (r_op o_sub (r_ix (r_v 2) (r_un o_neg r_int)) (r_v 3)) r_anil)))) r_nil))) (r_last (r_ret (r_seal (r_v 2))))))))
abbrev s__law_cell : Stmt := topS 37
theorem sc__law_cell : FnScope ["_law_script", "_law_k", "_law_state", "_law_cell_here"] ["_law_script", "_law_k"] (defScope s__law_cell) := ⟨rfl, rfl, rfl, by decide +kernel, rfl, by decide +kernel, by decide +kernel⟩
theorem d__law_cell {P : Program} {w : World} {K : PySem.W.Frag} {mg : Str → Option Value} {base : Heap} {f : Addr} {fd : FuncData} {k : Nat} (F : FunD K "_law_cell" "_law_cell" (defArgs s__law_cell) (defBody s__law_cell) (defScope s__law_cell) [] [] f fd) (B : Blt mg)  : FnOk P w K mg base (L2.CX P w) (k + 1) f fd ["_law_script", "_law_k"] (SpOf K c_cell) :=
  def_okD F sc__law_cell w_cell (fun cdv A outer s H E hr => by
    have nd := sc__law_cell.nd
    have hp : PassesOwn (model P w) (A.deeper (envOfC "_law_cell" (defScope s__law_cell) s.heap.objs.size f cdv)) (envOfC "_law_cell" (defScope s__law_cell) s.heap.objs.size f cdv) (cxOf (L2.CX P w) P w K mg base ["_law_script", "_law_k", "_law_state", "_law_cell_here"] "_law_cell" (defScope s__law_cell) f cdv A outer s H E).xe := passes_of rfl
    have tk : Takes (cxOf (L2.CX P w) P w K mg base ["_law_script", "_law_k", "_law_state", "_law_cell_here"] "_law_cell" (defScope s__law_cell) f cdv A outer s H E) (fun c d _ H => E c d H) := takes_of rfl rfl rfl rfl
    exact (r_cons (r_sif (r_tcmp o_lt (r_v 1) (r_blt c_len B.len bv_len (r_acons (r_v 0) r_anil))) (r_last (r_ret (r_ix (r_v 0) (r_v 1)))) r_nil) (r_cons (r_set 2 nd (r_op o_mod (r_op o_mul r_int (r_op o_add (r_op o_add (r_op o_mul (r_v 1) (r_v 1)) (r_op o_mul r_int (r_v 1))) r_int)) r_int)) (r_cons (r_for (vs := [3]) hp rfl (r_iseq (r_sl (r_v 0) r_onone (r_osome r_int))) (r_gn 3 nd) (r_last (r_set 2 nd (r_op o_mod (r_op o_add (r_op o_mul (r_v 2) r_int) (r_v 3)) r_int)))) (r_last (r_ret (r_v 2)))))))
abbrev s__law_pool : Stmt := topS 38
theorem sc__law_pool : FnScope ["_law_cell_here", "_law_digits"] ["_law_cell_here"] (defScope s__law_pool) := ⟨rfl, rfl, rfl, by decide +kernel, rfl, by decide +kernel, by decide +kernel⟩
theorem d__law_pool {P : Program} {w : World} {K : PySem.W.Frag} {mg : Str → Option Value} {base : Heap} {f : Addr} {fd : FuncData} {k : Nat} (F : FunD K "_law_pool" "_law_pool" (defArgs s__law_pool) (defBody s__law_pool) (defScope s__law_pool) [] [] f fd) (B : Blt mg)  : FnOk P w K mg base (L2.CX P w) (k + 1) f fd ["_law_cell_here"] (SpOf K c_pool) :=
  def_okD F sc__law_pool w_pool (fun cdv A outer s H E hr => by
    have nd := sc__law_pool.nd
    have hp : PassesOwn (model P w) (A.deeper (envOfC "_law_pool" (defScope s__law_pool) s.heap.objs.size f cdv)) (envOfC "_law_pool" (defScope s__law_pool) s.heap.objs.size f cdv) (cxOf (L2.CX P w) P w K mg base ["_law_cell_here", "_law_digits"] "_law_pool" (defScope s__law_pool) f cdv A outer s H E).xe := passes_of rfl
    have tk : Takes (cxOf (L2.CX P w) P w K mg base ["_law_cell_here", "_law_digits"] "_law_pool" (defScope s__law_pool) f cdv A outer s H E) (fun c d _ H => E c d H) := takes_of rfl rfl rfl rfl
    exact (r_cons (r_set 1 nd r_int) (r_cons (r_sif (PW.pt (r_tor (r_tcmp o_lt (r_v 0) r_int) (r_or1 (r_tcmp o_ge (r_v 0) (r_op o_pow r_int r_int))))) (r_last (r_set 1 nd (r_blt c_abs B.abs bv_abs (r_acons (r_v 0) r_anil)))) r_nil) (r_last (r_ret (r_lst (r_acons (r_op o_mod (r_v 0) r_int) (r_acons (r_v 1) (r_acons r_int r_anil)))))))))
abbrev s__law_take : Stmt := topS 39
theorem sc__law_take : FnScope ["_law_pool_here", "_law_many", "_law_digit", "_law_found", "_law_size", "_law_state", "_law_stir"] ["_law_pool_here", "_law_many"] (defScope s__law_take) := ⟨rfl, rfl, rfl, by decide +kernel, rfl, by decide +kernel, by decide +kernel⟩
theorem d__law_take {P : Program} {w : World} {K : PySem.W.Frag} {mg : Str → Option Value} {base : Heap} {f : Addr} {fd : FuncData} {k : Nat} (F : FunD K "_law_take" "_law_take" (defArgs s__law_take) (defBody s__law_take) (defScope s__law_take) [] [] f fd) (B : Blt mg)  : FnOk P w K mg base (L2.CX P w) (k + 1) f fd ["_law_pool_here", "_law_many"] (SpOf K c_take) :=
  def_okD F sc__law_take w_take2 (fun cdv A outer s H E hr => by
    have nd := sc__law_take.nd
    have hp : PassesOwn (model P w) (A.deeper (envOfC "_law_take" (defScope s__law_take) s.heap.objs.size f cdv)) (envOfC "_law_take" (defScope s__law_take) s.heap.objs.size f cdv) (cxOf (L2.CX P w) P w K mg base ["_law_pool_here", "_law_many", "_law_digit", "_law_found", "_law_size", "_law_state", "_law_stir"] "_law_take" (defScope s__law_take) f cdv A outer s H E).xe := passes_of rfl
    have tk : Takes (cxOf (L2.CX P w) P w K mg base ["_law_pool_here", "_law_many", "_law_digit", "_law_found", "_law_size", "_law_state", "_law_stir"] "_law_take" (defScope s__law_take) f cdv A outer s H E) (fun c d _ H => E c d H) := takes_of rfl rfl rfl rfl
    exact (r_cons (r_sasg (vs := []) (r_op o_add (r_ix (r_v 0) r_int) r_int) (r_gsub (r_v 0) r_int)) (r_cons (r_sif (r_tcmp o_gt (r_ix (r_v 0) r_int) r_int) (r_cons (r_sasg (vs := [2]) (r_blt c_divmod B.divmod bv_divmod (r_acons (r_ix (r_v 0) r_int) (r_acons (r_v 1) r_anil))) (r_gtup rfl (r_gcons (r_gsub (r_v 0) r_int) (r_gcons (r_gn 2 nd) r_gnil)))) (r_last (r_ret (r_v 2)))) r_nil) (r_cons (r_sasg (vs := [3, 4]) (r_tup (r_acons r_int (r_acons r_int r_anil))) (r_gtup rfl (r_gcons (r_gn 3 nd) (r_gcons (r_gn 4 nd) r_gnil)))) (r_cons (r_while hp (r_tcmp o_lt (r_v 4) (r_op o_mul (r_v 1) r_int)) (r_cons (r_set 5 nd (r_ix (r_v 0) r_int)) (r_cons (r_set 6 nd (r_op o_add (r_op o_mul r_int (r_ix (r_v 0) r_int)) (r_op o_mod (r_v 4) r_int))) (r_cons (r_sasg (vs := []) (r_op o_mod (r_op o_add (r_op o_mul (r_v 5) (r_op o_add (r_op o_mod (r_v 5) r_int) r_int)) (r_v 6)) r_int) (r_gsub (r_v 0) r_int)) (r_last (r_par 3 4 rfl nd (r_acons (r_op o_add (r_op o_mul (r_v 3) (r_op o_pow r_int r_int)) (r_op o_mod (r_op o_fdv (r_ix (r_v 0) r_int) r_int) (r_op o_pow r_int r_int))) (r_acons (r_op o_mul (r_v 4) (r_op o_pow r_int r_int)) r_anil)))))))) (r_last (r_ret (r_op o_mod (r_v 3) (r_v 1)))))))))
abbrev s__law_gcd : Stmt := topS 40
theorem sc__law_gcd : FnScope ["_law_one", "_law_other"] ["_law_one", "_law_other"] (defScope s__law_gcd) := ⟨rfl, rfl, rfl, by decide +kernel, rfl, by decide +kernel, by decide +kernel⟩
theorem d__law_gcd {P : Program} {w : World} {K : PySem.W.Frag} {mg : Str → Option Value} {base : Heap} {f : Addr} {fd : FuncData} {k : Nat} (F : FunD K "_law_gcd" "_law_gcd" (defArgs s__law_gcd) (defBody s__law_gcd) (defScope s__law_gcd) [] [] f fd) (B : Blt mg)  : FnOk P w K mg base (L2.CX P w) (k + 1) f fd ["_law_one", "_law_other"] (SpOf K c_lgcd) :=
  def_okD F sc__law_gcd w_lgcd (fun cdv A outer s H E hr => by
    have nd := sc__law_gcd.nd
    have hp : PassesOwn (model P w) (A.deeper (envOfC "_law_gcd" (defScope s__law_gcd) s.heap.objs.size f cdv)) (envOfC "_law_gcd" (defScope s__law_gcd) s.heap.objs.size f cdv) (cxOf (L2.CX P w) P w K mg base ["_law_one", "_law_other"] "_law_gcd" (defScope s__law_gcd) f cdv A outer s H E).xe := passes_of rfl
    have tk : Takes (cxOf (L2.CX P w) P w K mg base ["_law_one", "_law_other"] "_law_gcd" (defScope s__law_gcd) f cdv A outer s H E) (fun c d _ H => E c d H) := takes_of rfl rfl rfl rfl
    exact (r_cons (r_while hp (r_tcmp o_gt (r_v 1) r_int) (r_last (r_par 0 1 rfl nd (r_acons (r_v 1) (r_acons (r_op o_mod (r_v 0) (r_v 1)) r_anil))))) (r_last (r_ret (r_v 0)))))
abbrev s__law_power : Stmt := topS 41
theorem sc__law_power : FnScope ["_law_foot_here", "_law_often", "_law_found", "_law_turn"] ["_law_foot_here", "_law_often"] (defScope s__law_power) := ⟨rfl, rfl, rfl, by decide +kernel, rfl, by decide +kernel, by decide +kernel⟩
theorem d__law_power {P : Program} {w : World} {K : PySem.W.Frag} {mg : Str → Option Value} {base : Heap} {f : Addr} {fd : FuncData} {k : Nat} (F : FunD K "_law_power" "_law_power" (defArgs s__law_power) (defBody s__law_power) (defScope s__law_power) [] [] f fd) (B : Blt mg)  : FnOk P w K mg base (L2.CX P w) (k + 1) f fd ["_law_foot_here", "_law_often"] (SpOf K c_lpow) :=
  def_okD F sc__law_power w_lpow (fun cdv A outer s H E hr => by
    have nd := sc__law_power.nd
    have hp : PassesOwn (model P w) (A.deeper (envOfC "_law_power" (defScope s__law_power) s.heap.objs.size f cdv)) (envOfC "_law_power" (defScope s__law_power) s.heap.objs.size f cdv) (cxOf (L2.CX P w) P w K mg base ["_law_foot_here", "_law_often", "_law_found", "_law_turn"] "_law_power" (defScope s__law_power) f cdv A outer s H E).xe := passes_of rfl
    have tk : Takes (cxOf (L2.CX P w) P w K mg base ["_law_foot_here", "_law_often", "_law_found", "_law_turn"] "_law_power" (defScope s__law_power) f cdv A outer s H E) (fun c d _ H => E c d H) := takes_of rfl rfl rfl rfl
    exact (r_cons (r_set 2 nd r_int) (r_cons (r_for (vs := [3]) hp rfl (r_irng1 B.range (r_acons (r_v 1) r_anil)) (r_gn 3 nd) (r_last (r_set 2 nd (r_op o_mul (r_v 2) (r_v 0))))) (r_last (r_ret (r_v 2))))))
abbrev s__law_whole : Stmt := topS 42
theorem sc__law_whole : FnScope ["_law_thing"] ["_law_thing"] (defScope s__law_whole) := ⟨rfl, rfl, rfl, by decide +kernel, rfl, by decide +kernel, by decide +kernel⟩
theorem d__law_whole {P : Program} {w : World} {K : PySem.W.Frag} {mg : Str → Option Value} {base : Heap} {f : Addr} {fd : FuncData} {k : Nat} (F : FunD K "_law_whole" "_law_whole" (defArgs s__law_whole) (defBody s__law_whole) (defScope s__law_whole) [] [] f fd) (B : Blt mg)  : FnOk P w K mg base (L2.CX P w) (k + 1) f fd ["_law_thing"] (SpOf K c_whole) :=
  def_okD F sc__law_whole w_whole (fun cdv A outer s H E hr => by
    have nd := sc__law_whole.nd
    have hp : PassesOwn (model P w) (A.deeper (envOfC "_law_whole" (defScope s__law_whole) s.heap.objs.size f cdv)) (envOfC "_law_whole" (defScope s__law_whole) s.heap.objs.size f cdv) (cxOf (L2.CX P w) P w K mg base ["_law_thing"] "_law_whole" (defScope s__law_whole) f cdv A outer s H E).xe := passes_of rfl
    have tk : Takes (cxOf (L2.CX P w) P w K mg base ["_law_thing"] "_law_whole" (defScope s__law_whole) f cdv A outer s H E) (fun c d _ H => E c d H) := takes_of rfl rfl rfl rfl
    exact (r_last (r_ret (r_and (i_int B (r_v 0)) (r_one (r_not (i_bool B (r_v 0))))))))
abbrev s__law_are_whole : Stmt := topS 43
theorem sc__law_are_whole : FnScope ["_law_thing", "_law_part"] ["_law_thing"] (defScope s__law_are_whole) := ⟨rfl, rfl, rfl, by decide +kernel, rfl, by decide +kernel, by decide +kernel⟩
theorem d__law_are_whole {P : Program} {w : World} {K : PySem.W.Frag} {mg : Str → Option Value} {base : Heap} {f : Addr} {fd : FuncData} {k : Nat} (F : FunD K "_law_are_whole" "_law_are_whole" (defArgs s__law_are_whole) (defBody s__law_are_whole) (defScope s__law_are_whole) [] [] f fd) (B : Blt mg) (g__law_whole : GDef P w K mg base k "_law_whole" c_whole) : FnOk P w K mg base (L2.CX P w) (k + 1) f fd ["_law_thing"] (SpOf K c_are_whole) :=
  def_okD F sc__law_are_whole w_are_whole (fun cdv A outer s H E hr => by
    have nd := sc__law_are_whole.nd
    have hp : PassesOwn (model P w) (A.deeper (envOfC "_law_are_whole" (defScope s__law_are_whole) s.heap.objs.size f cdv)) (envOfC "_law_are_whole" (defScope s__law_are_whole) s.heap.objs.size f cdv) (cxOf (L2.CX P w) P w K mg base ["_law_thing", "_law_part"] "_law_are_whole" (defScope s__law_are_whole) f cdv A outer s H E).xe := passes_of rfl
    have tk : Takes (cxOf (L2.CX P w) P w K mg base ["_law_thing", "_law_part"] "_law_are_whole" (defScope s__law_are_whole) f cdv A outer s H E) (fun c d _ H => E c d H) := takes_of rfl rfl rfl rfl
    exact (r_last (r_ret (r_and (i_tuple B (r_v 0)) (r_one (r_blt (c_all rfl) B.all bv_all (r_acons (r_lc rfl nd [("_law_part", 1)] (by exact (show blkC ["_law_thing", "_law_part"] (defScope s__law_are_whole) _ [("_law_part", 1)] = true from by decide +kernel)) (r_iseq (r_v 0)) (fun _ _ _ _ _ => (r_gn 1 nd)) (fun _ _ _ _ _ => r_tyes) (fun _ _ _ _ _ => (r_call g__law_whole hr takes0 (r_acons (r_v 1) r_anil)))) r_anil)))))))
abbrev s__law_limbs : Stmt := topS 44
theorem sc__law_limbs : FnScope ["_law_number_here", "_law_foot_here", "_law_found", "_law_figure"] ["_law_number_here", "_law_foot_here"] (defScope s__law_limbs) := ⟨rfl, rfl, rfl, by decide +kernel, rfl, by decide +kernel, by decide +kernel⟩
theorem d__law_limbs {P : Program} {w : World} {K : PySem.W.Frag} {mg : Str → Option Value} {base : Heap} {f : Addr} {fd : FuncData} {k : Nat} (F : FunD K "_law_limbs" "_law_limbs" (defArgs s__law_limbs) (defBody s__law_limbs) (defScope s__law_limbs) [] [] f fd) (B : Blt mg)  : FnOk P w K mg base (L2.CX P w) (k + 1) f fd ["_law_number_here", "_law_foot_here"] (SpOf K c_llimbs) :=
  def_okD F sc__law_limbs w_llimbs (fun cdv A outer s H E hr => by
    have nd := sc__law_limbs.nd
    have hp : PassesOwn (model P w) (A.deeper (envOfC "_law_limbs" (defScope s__law_limbs) s.heap.objs.size f cdv)) (envOfC "_law_limbs" (defScope s__law_limbs) s.heap.objs.size f cdv) (cxOf (L2.CX P w) P w K mg base ["_law_number_here", "_law_foot_here", "_law_found", "_law_figure"] "_law_limbs" (defScope s__law_limbs) f cdv A outer s H E).xe := passes_of rfl
    have tk : Takes (cxOf (L2.CX P w) P w K mg base ["_law_number_here", "_law_foot_here", "_law_found", "_law_figure"] "_law_limbs" (defScope s__law_limbs) f cdv A outer s H E) (fun c d _ H => E c d H) := takes_of rfl rfl rfl rfl
    exact (r_cons (r_set 2 nd (r_lst r_anil)) (r_cons (r_while hp (r_tcmp o_gt (r_v 0) r_int) (r_cons (r_sasg (vs := [0, 3]) (r_blt c_divmod B.divmod bv_divmod (r_acons (r_v 0) (r_acons (r_v 1) r_anil))) (r_gtup rfl (r_gcons (r_gn 0 nd) (r_gcons (r_gn 3 nd) r_gnil)))) (r_last (r_sexp (r_app (r_v 2) (r_acons (r_v 3) r_anil)))))) (r_last (r_ret (r_seal (r_v 2)))))))
abbrev s__law_foot : Stmt := topS 45
theorem sc__law_foot : FnScope ["_law_pool_here", "_law_some"] ["_law_pool_here"] (defScope s__law_foot) := ⟨rfl, rfl, rfl, by decide +kernel, rfl, by decide +kernel, by decide +kernel⟩
theorem d__law_foot {P : Program} {w : World} {K : PySem.W.Frag} {mg : Str → Option Value} {base : Heap} {f : Addr} {fd : FuncData} {k : Nat} (F : FunD K "_law_foot" "_law_foot" (defArgs s__law_foot) (defBody s__law_foot) (defScope s__law_foot) [] [] f fd) (B : Blt mg) (g__law_take : GDef P w K mg base k "_law_take" c_take) : FnOk P w K mg base (L2.CX P w) (k + 1) f fd ["_law_pool_here"] (SpOf K c_lfoot) :=
  def_okD F sc__law_foot w_lfoot (fun cdv A outer s H E hr => by
    have nd := sc__law_foot.nd
    have hp : PassesOwn (model P w) (A.deeper (envOfC "_law_foot" (defScope s__law_foot) s.heap.objs.size f cdv)) (envOfC "_law_foot" (defScope s__law_foot) s.heap.objs.size f cdv) (cxOf (L2.CX P w) P w K mg base ["_law_pool_here", "_law_some"] "_law_foot" (defScope s__law_foot) f cdv A outer s H E).xe := passes_of rfl
    have tk : Takes (cxOf (L2.CX P w) P w K mg base ["_law_pool_here", "_law_some"] "_law_foot" (defScope s__law_foot) f cdv A outer s H E) (fun c d _ H => E c d H) := takes_of rfl rfl rfl rfl
    exact (r_cons (r_set 1 nd (r_fl (r_acons r_int (r_acons r_int (r_acons r_int (r_acons r_int (r_acons r_int (r_acons r_int (r_acons r_int (r_acons (r_op o_pow r_int r_int) (r_acons (r_op o_add r_int (r_call g__law_take hr tk (r_acons (r_v 0) (r_acons r_int r_anil)))) (r_acons (r_op o_add r_int (r_call g__law_take hr tk (r_acons (r_v 0) (r_acons r_int r_anil)))) r_anil)))))))))))) (r_last (r_ret (r_ix (r_v 1) (r_call g__law_take hr tk (r_acons (r_v 0) (r_acons r_int r_anil))))))))
abbrev s__law_modulus : Stmt := topS 46
theorem sc__law_modulus : FnScope ["_law_pool_here", "_law_foot_here", "_law_most", "_law_size", "_law_low", "_law_high", "_law_some"] ["_law_pool_here", "_law_foot_here"] (defScope s__law_modulus) := ⟨rfl, rfl, rfl, by decide +kernel, rfl, by decide +kernel, by decide +kernel⟩
theorem d__law_modulus {P : Program} {w : World} {K : PySem.W.Frag} {mg : Str → Option Value} {base : Heap} {f : Addr} {fd : FuncData} {k : Nat} (F : FunD K "_law_modulus" "_law_modulus" (defArgs s__law_modulus) (defBody s__law_modulus) (defScope s__law_modulus) [] [] f fd) (B : Blt mg) (g__law_take : GDef P w K mg base k "_law_take" c_take) (g__law_power : GDef P w K mg base k "_law_power" c_lpow) : FnOk P w K mg base (L2.CX P w) (k + 1) f fd ["_law_pool_here", "_law_foot_here"] (SpOf K c_lmodulus) :=
  def_okD F sc__law_modulus w_lmodulus (fun cdv A outer s H E hr => by
    have nd := sc__law_modulus.nd
    have hp : PassesOwn (model P w) (A.deeper (envOfC "_law_modulus" (defScope s__law_modulus) s.heap.objs.size f cdv)) (envOfC "_law_modulus" (defScope s__law_modulus) s.heap.objs.size f cdv) (cxOf (L2.CX P w) P w K mg base ["_law_pool_here", "_law_foot_here", "_law_most", "_law_size", "_law_low", "_law_high", "_law_some"] "_law_modulus" (defScope s__law_modulus) f cdv A outer s H E).xe := passes_of rfl
    have tk : Takes (cxOf (L2.CX P w) P w K mg base ["_law_pool_here", "_law_foot_here", "_law_most", "_law_size", "_law_low", "_law_high", "_law_some"] "_law_modulus" (defScope s__law_modulus) f cdv A outer s H E) (fun c d _ H => E c d H) := takes_of rfl rfl rfl rfl
    exact (r_cons (r_set 2 nd r_int) (r_cons (r_while hp (r_tcmp o_le (r_call g__law_power hr tk (r_acons (r_v 1) (r_acons (r_op o_add (r_v 2) r_int) r_anil))) (r_op o_pow r_int r_int)) (r_last (r_set 2 nd (r_op o_add (r_v 2) r_int)))) (r_cons (r_set 3 nd (r_op o_add r_int (r_call g__law_take hr tk (r_acons (r_v 0) (r_acons (r_blt (c_min rfl) B.min bv_min (r_acons (r_v 2) (r_acons (r_ix (r_fl (r_acons r_int (r_acons r_int (r_acons r_int (r_acons r_int r_anil))))) (r_call g__law_take hr tk (r_acons (r_v 0) (r_acons r_int r_anil)))) r_anil))) r_anil))))) (r_cons (r_sif (r_tcmp (o_eq hr.units) (r_call g__law_take hr tk (r_acons (r_v 0) (r_acons r_int r_anil))) r_int) (r_last (r_set 3 nd (r_v 2))) r_nil) (r_cons (r_set 4 nd (r_call g__law_power hr tk (r_acons (r_v 1) (r_acons (r_op o_sub (r_v 3) r_int) r_anil)))) (r_cons (r_set 5 nd (r_op o_mul (r_v 4) (r_v 1))) (r_cons (r_set 6 nd (r_fl (r_acons (r_v 4) (r_acons (r_op o_add (r_v 4) r_int) (r_acons (r_op o_sub (r_v 5) r_int) (r_acons (r_v 5) (r_acons (r_op o_add (r_v 4) (r_call g__law_take hr tk (r_acons (r_v 0) (r_acons (r_op o_sub (r_v 5) (r_v 4)) r_anil)))) (r_acons (r_op o_add (r_v 4) (r_call g__law_take hr tk (r_acons (r_v 0) (r_acons (r_op o_sub (r_v 5) (r_v 4)) r_anil)))) (r_acons r_int (r_acons r_int r_anil)))))))))) (r_last (r_ret (r_blt (c_max rfl) B.max bv_max (r_acons r_int (r_acons (r_blt (c_min rfl) B.min bv_min (r_acons (r_op o_pow r_int r_int) (r_acons (r_ix (r_v 6) (r_call g__law_take hr tk (r_acons (r_v 0) (r_acons r_int r_anil)))) r_anil))) r_anil)))))))))))))
abbrev s__law_number : Stmt := topS 47
theorem sc__law_number : FnScope ["_law_pool_here", "_law_modulus_here", "_law_foot_here", "_law_great", "_law_some", "_law_wide"] ["_law_pool_here", "_law_modulus_here", "_law_foot_here", "_law_great"] (defScope s__law_number) := ⟨rfl, rfl, rfl, by decide +kernel, rfl, by decide +kernel, by decide +kernel⟩
theorem d__law_number {P : Program} {w : World} {K : PySem.W.Frag} {mg : Str → Option Value} {base : Heap} {f : Addr} {fd : FuncData} {k : Nat} (F : FunD K "_law_number" "_law_number" (defArgs s__law_number) (defBody s__law_number) (defScope s__law_number) [] [] f fd) (B : Blt mg) (g__law_take : GDef P w K mg base k "_law_take" c_take) : FnOk P w K mg base (L2.CX P w) (k + 1) f fd ["_law_pool_here", "_law_modulus_here", "_law_foot_here", "_law_great"] (SpOf K c_lnumber) :=
  def_okD F sc__law_number w_lnumber (fun cdv A outer s H E hr => by
    have nd := sc__law_number.nd
    have hp : PassesOwn (model P w) (A.deeper (envOfC "_law_number" (defScope s__law_number) s.heap.objs.size f cdv)) (envOfC "_law_number" (defScope s__law_number) s.heap.objs.size f cdv) (cxOf (L2.CX P w) P w K mg base ["_law_pool_here", "_law_modulus_here", "_law_foot_here", "_law_great", "_law_some", "_law_wide"] "_law_number" (defScope s__law_number) f cdv A outer s H E).xe := passes_of rfl
    have tk : Takes (cxOf (L2.CX P w) P w K mg base ["_law_pool_here", "_law_modulus_here", "_law_foot_here", "_law_great", "_law_some", "_law_wide"] "_law_number" (defScope s__law_number) f cdv A outer s H E) (fun c d _ H => E c d H) := takes_of rfl rfl rfl rfl
    exact (r_cons (r_set 4 nd (r_fl (r_acons r_int (r_acons r_int (r_acons (r_op o_sub (r_v 1) r_int) (r_acons (r_v 1) (r_acons (r_op o_sub (r_v 3) r_int) (r_acons (r_v 3) (r_acons (r_op o_sub (r_op o_mul (r_v 3) (r_v 3)) r_int) (r_acons (r_op o_mul (r_v 1) (r_v 1)) (r_acons (r_op o_sub (r_op o_mul (r_v 3) (r_v 3)) (r_v 1)) r_anil))))))))))) (r_cons (r_set 4 nd (r_op o_addL (r_v 4) (r_fl (r_acons (r_call g__law_take hr tk (r_acons (r_v 0) (r_acons (r_v 3) r_anil))) (r_acons (r_op o_mul (r_v 1) (r_call g__law_take hr tk (r_acons (r_v 0) (r_acons (r_v 3) r_anil)))) (r_acons (r_op o_sub (r_op o_mul (r_op o_fdv (r_op o_mul (r_v 3) (r_v 3)) (r_v 1)) (r_v 1)) r_int) r_anil)))))) (r_cons (r_set 4 nd (r_op o_addL (r_v 4) (r_fl (r_acons (r_op o_sub (r_op o_add (r_op o_mul (r_v 3) (r_call g__law_take hr tk (r_acons (r_v 0) (r_acons (r_v 3) r_anil)))) (r_v 3)) r_int) (r_acons (r_op o_fdv (r_v 3) (r_v 2)) (r_acons (r_v 2) (r_acons (r_op o_fdv (r_op o_mul (r_v 3) (r_v 3)) (r_v 2)) r_anil))))))) (r_cons (r_set 5 nd (r_op o_add (r_op o_mul (r_call g__law_take hr tk (r_acons (r_v 0) (r_acons (r_v 3) r_anil))) (r_v 3)) (r_call g__law_take hr tk (r_acons (r_v 0) (r_acons (r_v 3) r_anil))))) (r_last (r_ret (r_op o_mod (r_ix (r_op o_addL (r_v 4) (r_op o_repM (r_lst (r_acons (r_v 5) r_anil)) r_int)) (r_call g__law_take hr tk (r_acons (r_v 0) (r_acons r_int r_anil)))) (r_op o_mul (r_v 3) (r_v 3))))))))))
abbrev s__law_tables : Stmt := topS 48
theorem sc__law_tables : FnScope ["_law_modulus_here", "_law_foot_here", "_law_size", "_law_great", "_law_rests", "_law_multiples", "_law_small_here", "_law_last"] ["_law_modulus_here", "_law_foot_here"] (defScope s__law_tables) := ⟨rfl, rfl, rfl, by decide +kernel, rfl, by decide +kernel, by decide +kernel⟩
theorem d__law_tables {P : Program} {w : World} {K : PySem.W.Frag} {mg : Str → Option Value} {base : Heap} {f : Addr} {fd : FuncData} {k : Nat} (F : FunD K "_law_tables" "_law_tables" (defArgs s__law_tables) (defBody s__law_tables) (defScope s__law_tables) [] [] f fd) (B : Blt mg) (g__law_gcd : GDef P w K mg base k "_law_gcd" c_lgcd) (g__law_small : GDef P w K mg base k "_law_small" c_lsmall) (g__law_power : GDef P w K mg base k "_law_power" c_lpow) (g__law_limbs : GDef P w K mg base k "_law_limbs" c_llimbs) : FnOk P w K mg base (L2.CX P w) (k + 1) f fd ["_law_modulus_here", "_law_foot_here"] (SpOf K c_ltables) :=
  def_okD F sc__law_tables w_ltables (fun cdv A outer s H E hr => by
    have nd := sc__law_tables.nd
    have hp : PassesOwn (model P w) (A.deeper (envOfC "_law_tables" (defScope s__law_tables) s.heap.objs.size f cdv)) (envOfC "_law_tables" (defScope s__law_tables) s.heap.objs.size f cdv) (cxOf (L2.CX P w) P w K mg base ["_law_modulus_here", "_law_foot_here", "_law_size", "_law_great", "_law_rests", "_law_multiples", "_law_small_here", "_law_last"] "_law_tables" (defScope s__law_tables) f cdv A outer s H E).xe := passes_of rfl
    have tk : Takes (cxOf (L2.CX P w) P w K mg base ["_law_modulus_here", "_law_foot_here", "_law_size", "_law_great", "_law_rests", "_law_multiples", "_law_small_here", "_law_last"] "_law_tables" (defScope s__law_tables) f cdv A outer s H E) (fun c d _ H => E c d H) := takes_of rfl rfl rfl rfl
    exact (r_cons (r_set 2 nd (r_blt c_len B.len bv_len (r_acons (r_call g__law_limbs hr tk (r_acons (r_v 0) (r_acons (r_v 1) r_anil))) r_anil))) (r_cons (r_set 3 nd (r_call g__law_power hr tk (r_acons (r_v 1) (r_acons (r_v 2) r_anil)))) (r_cons (r_par 4 5 rfl nd (r_acons (r_lst (r_acons (r_op o_mod (r_v 3) (r_v 0)) r_anil)) (r_acons (r_lst (r_acons (r_v 0) r_anil)) r_anil))) (r_cons (r_while hp (r_tcmp o_lt (r_blt c_len B.len bv_len (r_acons (r_v 4) r_anil)) (r_v 2)) (r_last (r_sexp (r_app (r_v 4) (r_acons (r_op o_mod (r_op o_mul (r_ix (r_v 4) (r_un o_neg r_int)) (r_v 1)) (r_v 0)) r_anil))))) (r_cons (r_while hp (r_tcmp o_lt (r_op o_mul r_int (r_ix (r_v 5) (r_un o_neg r_int))) (r_v 3)) (r_last (r_sexp (r_app (r_v 5) (r_acons (r_op o_mul r_int (r_ix (r_v 5) (r_un o_neg r_int))) r_anil))))) (r_cons (r_sasg (vs := [6, 7]) (r_tup (r_acons r_non (r_acons r_non r_anil))) (r_gtup rfl (r_gcons (r_gn 6 nd) (r_gcons (r_gn 7 nd) r_gnil)))) (r_cons (r_sif (r_tcmp (o_eq hr.units) (r_call g__law_gcd hr tk (r_acons (r_v 0) (r_acons (r_v 1) r_anil))) r_int) (r_last (r_par 6 7 rfl nd (r_acons (r_call g__law_small hr tk (r_acons (r_op o_mod (r_v 0) (r_v 1)) (r_acons (r_v 1) r_anil))) (r_acons (r_op o_mod (r_op o_mul (r_v 3) (r_v 3)) (r_v 0)) r_anil)))) r_nil) (r_last (r_ret (r_tup (r_acons (r_v 2) (r_acons (r_v 3) (r_acons (r_op o_fdv (r_op o_mul (r_v 3) (r_v 3)) (r_v 0)) (r_acons (r_v 4) (r_acons (r_v 5) (r_acons (r_v 6) (r_acons (r_v 7) r_anil))))))))))))))))))
abbrev s__law_small : Stmt := topS 49
theorem sc__law_small : FnScope ["_law_one", "_law_foot_here", "_law_rows", "_law_often"] ["_law_one", "_law_foot_here"] (defScope s__law_small) := ⟨rfl, rfl, rfl, by decide +kernel, rfl, by decide +kernel, by decide +kernel⟩
theorem d__law_small {P : Program} {w : World} {K : PySem.W.Frag} {mg : Str → Option Value} {base : Heap} {f : Addr} {fd : FuncData} {k : Nat} (F : FunD K "_law_small" "_law_small" (defArgs s__law_small) (defBody s__law_small) (defScope s__law_small) [] [] f fd) (B : Blt mg)  : FnOk P w K mg base (L2.CX P w) (k + 1) f fd ["_law_one", "_law_foot_here"] (SpOf K c_lsmall) :=
  def_okD F sc__law_small w_lsmall (fun cdv A outer s H E hr => by
    have nd := sc__law_small.nd
    have hp : PassesOwn (model P w) (A.deeper (envOfC "_law_small" (defScope s__law_small) s.heap.objs.size f cdv)) (envOfC "_law_small" (defScope s__law_small) s.heap.objs.size f cdv) (cxOf (L2.CX P w) P w K mg base ["_law_one", "_law_foot_here", "_law_rows", "_law_often"] "_law_small" (defScope s__law_small) f cdv A outer s H E).xe := passes_of rfl
    have tk : Takes (cxOf (L2.CX P w) P w K mg base ["_law_one", "_law_foot_here", "_law_rows", "_law_often"] "_law_small" (defScope s__law_small) f cdv A outer s H E) (fun c d _ H => E c d H) := takes_of rfl rfl rfl rfl
    exact (r_cons (r_set 2 nd (r_lst (r_acons (r_tup (r_acons (r_v 1) (r_acons r_int r_anil))) (r_acons (r_tup (r_acons (r_v 0) (r_acons r_int r_anil))) r_anil)))) (r_cons (r_while hp (r_tcmp o_gt (r_ix (r_ix (r_v 2) (r_un o_neg r_int)) r_int) r_int) (r_cons (r_set 3 nd (r_op o_fdv (r_ix (r_ix (r_v 2) (r_un o_neg r_int)) r_int) (r_ix (r_ix (r_v 2) (r_un o_neg r_int)) r_int))) (r_last (r_sexp (r_app (r_v 2) (r_acons (r_tup (r_acons (r_op o_sub (r_ix (r_ix (r_v 2) (r_un o_neg r_int)) r_int) (r_op o_mul (r_v 3) (r_ix (r_ix (r_v 2) (r_un o_neg r_int)) r_int))) (r_acons (r_op o_sub (r_ix (r_ix (r_v 2) (r_un o_neg r_int)) r_int) (r_op o_mul (r_v 3) (r_ix (r_ix (r_v 2) (r_un o_neg r_int)) r_int))) r_anil))) r_anil)))))) (r_last (r_ret (r_op o_mod (r_op o_sub r_int (r_ix (r_ix (r_v 2) (r_un o_neg r_int)) r_int)) (r_v 1)))))))
abbrev s__law_due : Stmt := topS 50
theorem sc__law_due : FnScope ["_law_own", "_law_modulus_here", "_law_foot_here", "_law_number_here", "_law_found", "_law_limbs_here", "_law_k", "_law_multiple"] ["_law_own", "_law_modulus_here", "_law_foot_here", "_law_number_here"] (defScope s__law_due) := ⟨rfl, rfl, rfl, by decide +kernel, rfl, by decide +kernel, by decide +kernel⟩
theorem d__law_due {P : Program} {w : World} {K : PySem.W.Frag} {mg : Str → Option Value} {base : Heap} {f : Addr} {fd : FuncData} {k : Nat} (F : FunD K "_law_due" "_law_due" (defArgs s__law_due) (defBody s__law_due) (defScope s__law_due) [] [] f fd) (B : Blt mg) (g__law_limbs : GDef P w K mg base k "_law_limbs" c_llimbs) : FnOk P w K mg base (L2.CX P w) (k + 1) f fd ["_law_own", "_law_modulus_here", "_law_foot_here", "_law_number_here"] (SpOf K (c_due PT F08)) :=
  def_okD F sc__law_due w_k08_due (fun cdv A outer s H E hr => by
    have nd := sc__law_due.nd
    have hp : PassesOwn (model P w) (A.deeper (envOfC "_law_due" (defScope s__law_due) s.heap.objs.size f cdv)) (envOfC "_law_due" (defScope s__law_due) s.heap.objs.size f cdv) (cxOf (L2.CX P w) P w K mg base ["_law_own", "_law_modulus_here", "_law_foot_here", "_law_number_here", "_law_found", "_law_limbs_here", "_law_k", "_law_multiple"] "_law_due" (defScope s__law_due) f cdv A outer s H E).xe := passes_of rfl
    have tk : Takes (cxOf (L2.CX P w) P w K mg base ["_law_own", "_law_modulus_here", "_law_foot_here", "_law_number_here", "_law_found", "_law_limbs_here", "_law_k", "_law_multiple"] "_law_due" (defScope s__law_due) f cdv A outer s H E) (fun c d _ H => E c d H) := takes_of rfl rfl rfl rfl
    exact (r_cons (r_set 4 nd (r_lst (r_acons (r_v 3) r_anil))) (r_cons (r_while hp (r_tcmp o_ge (r_ix (r_v 4) (r_un o_neg r_int)) (r_ix (r_v 0) r_int)) (r_cons (r_set 5 nd (r_call g__law_limbs hr tk (r_acons (r_ix (r_v 4) (r_un o_neg r_int)) (r_acons (r_v 2) r_anil)))) (r_cons (r_sexp (r_app (r_v 4) (r_acons (r_op o_mod (r_ix (r_v 4) (r_un o_neg r_int)) (r_ix (r_v 0) r_int)) r_anil))) (r_last (r_for (vs := [6]) hp rfl (r_irng2 B.range (r_acons (r_ix (r_v 0) r_int) (r_acons (r_blt c_len B.len bv_len (r_acons (r_v 5) r_anil)) r_anil))) (r_gn 6 nd) (r_last (r_sasg (vs := []) (r_op o_add (r_ix (r_v 4) (r_un o_neg r_int)) (r_op o_mul (r_ix (r_v 5) (r_v 6)) (r_ix (r_ix (r_v 0) r_int) (r_op o_sub (r_v 6) (r_ix (r_v 0) r_int))))) (r_gsub (r_v 4) (r_un o_neg r_int))))))))) (r_cons (r_for (vs := [7]) hp rfl (r_iseq (r_revA (r_ix (r_v 0) r_int))) (r_gn 7 nd) (r_last (r_sif (r_tcmp o_le (r_v 7) (r_ix (r_v 4) (r_un o_neg r_int))) (r_last (r_sexp (r_app (r_v 4) (r_acons (r_op o_sub (r_ix (r_v 4) (r_un o_neg r_int)) (r_v 7)) r_anil)))) r_nil))) (r_last (r_ret (r_seal (r_v 4))))))))
abbrev s__law_bounds_right : Stmt := topS 51
theorem sc__law_bounds_right : FnScope ["_law_own", "_law_modulus_here", "_law_foot_here", "_law_number_here", "_law_due_here", "_law_k"] ["_law_own", "_law_modulus_here", "_law_foot_here", "_law_number_here", "_law_due_here"] (defScope s__law_bounds_right) := ⟨rfl, rfl, rfl, by decide +kernel, rfl, by decide +kernel, by decide +kernel⟩
theorem d__law_bounds_right {P : Program} {w : World} {K : PySem.W.Frag} {mg : Str → Option Value} {base : Heap} {f : Addr} {fd : FuncData} {k : Nat} (F : FunD K "_law_bounds_right" "_law_bounds_right" (defArgs s__law_bounds_right) (defBody s__law_bounds_right) (defScope s__law_bounds_right) [] [] f fd) (B : Blt mg) (g__law_limbs : GDef P w K mg base k "_law_limbs" c_llimbs) : FnOk P w K mg base (L2.CX P w) (k + 1) f fd ["_law_own", "_law_modulus_here", "_law_foot_here", "_law_number_here", "_law_due_here"] (SpOf K (c_bounds PT F08)) :=
  def_okD F sc__law_bounds_right w_k08_bounds (fun cdv A outer s H E hr => by
    have nd := sc__law_bounds_right.nd
    have hp : PassesOwn (model P w) (A.deeper (envOfC "_law_bounds_right" (defScope s__law_bounds_right) s.heap.objs.size f cdv)) (envOfC "_law_bounds_right" (defScope s__law_bounds_right) s.heap.objs.size f cdv) (cxOf (L2.CX P w) P w K mg base ["_law_own", "_law_modulus_here", "_law_foot_here", "_law_number_here", "_law_due_here", "_law_k"] "_law_bounds_right" (defScope s__law_bounds_right) f cdv A outer s H E).xe := passes_of rfl
    have tk : Takes (cxOf (L2.CX P w) P w K mg base ["_law_own", "_law_modulus_here", "_law_foot_here", "_law_number_here", "_law_due_here", "_law_k"] "_law_bounds_right" (defScope s__law_bounds_right) f cdv A outer s H E) (fun c d _ H => E c d H) := takes_of rfl rfl rfl rfl
    exact (r_cons (r_sif (r_tnot (r_tvl (r_blt (c_all rfl) B.all bv_all (r_acons (r_lc rfl nd [("_law_k", 5)] (by exact (show blkC ["_law_own", "_law_modulus_here", "_law_foot_here", "_law_number_here", "_law_due_here", "_law_k"] (defScope s__law_bounds_right) _ [("_law_k", 5)] = true from by decide +kernel)) (r_irng1 B.range (r_acons (r_op o_sub (r_blt c_len B.len bv_len (r_acons (r_v 4) r_anil)) r_int) r_anil)) (fun _ _ _ _ _ => (r_gn 5 nd)) (fun _ _ _ _ _ => r_tyes) (fun _ _ _ _ _ => (r_cmp o_gt (r_ix (r_v 4) (r_v 5)) (r_ix (r_v 4) (r_op o_add (r_v 5) r_int))))) r_anil)))) (r_last (r_ret r_bl)) r_nil) (r_last (r_ret (r_cmp o_le (r_blt c_len B.len bv_len (r_acons (r_v 4) r_anil)) (r_op o_add (r_op o_mul r_int (r_blt c_len B.len bv_len (r_acons (r_call g__law_limbs hr tk (r_acons (r_ix (r_v 0) r_int) (r_acons r_int r_anil))) r_anil))) r_int))))))
abbrev s__law_right : Stmt := topS 52
theorem sc__law_right : FnScope ["_law_made", "_law_own", "_law_modulus_here", "_law_foot_here", "_law_number_here", "_law_due_here", "_law_told", "_law_rows", "_law_found"] ["_law_made", "_law_own", "_law_modulus_here", "_law_foot_here", "_law_number_here"] (defScope s__law_right) := ⟨rfl, rfl, rfl, by decide +kernel, rfl, by decide +kernel, by decide +kernel⟩
theorem d__law_right {P : Program} {w : World} {K : PySem.W.Frag} {mg : Str → Option Value} {base : Heap} {f : Addr} {fd : FuncData} {k : Nat} (cl : Str → Addr) (F : FunD K "_law_right" "_law_right" (defArgs s__law_right) (defBody s__law_right) (defScope s__law_right) [] [] f fd) (B : Blt mg) (g__law_whole : GDef P w K mg base k "_law_whole" c_whole) (g__law_bounds_right : GDef P w K mg base k "_law_bounds_right" (c_bounds PT F08)) (mk_Context_rest_way : GMethK P w K mg base k (cl "Context") "rest" 2 ["way"] (kwC (c_ctx_rest cl (ws_k08 cl)) 2 1)) (g__law_are_whole : GDef P w K mg base k "_law_are_whole" c_are_whole) (mk_Context_rows_way : GMethK P w K mg base k (cl "Context") "rows" 2 ["way"] (kwC (c_ctx_rows cl (ws_k08 cl)) 2 1)) (g__law_due : GDef P w K mg base k "_law_due" (c_due PT F08)) : FnOk P w K mg base (L2.CX P w) (k + 1) f fd ["_law_made", "_law_own", "_law_modulus_here", "_law_foot_here", "_law_number_here"] (SpOf K (c_right cl PT)) :=
  def_okD F sc__law_right (w_k08_right cl) (fun cdv A outer s H E hr => by
    have nd := sc__law_right.nd
    have hp : PassesOwn (model P w) (A.deeper (envOfC "_law_right" (defScope s__law_right) s.heap.objs.size f cdv)) (envOfC "_law_right" (defScope s__law_right) s.heap.objs.size f cdv) (cxOf (L2.CX P w) P w K mg base ["_law_made", "_law_own", "_law_modulus_here", "_law_foot_here", "_law_number_here", "_law_due_here", "_law_told", "_law_rows", "_law_found"] "_law_right" (defScope s__law_right) f cdv A outer s H E).xe := passes_of rfl
    have tk : Takes (cxOf (L2.CX P w) P w K mg base ["_law_made", "_law_own", "_law_modulus_here", "_law_foot_here", "_law_number_here", "_law_due_here", "_law_told", "_law_rows", "_law_found"] "_law_right" (defScope s__law_right) f cdv A outer s H E) (fun c d _ H => E c d H) := takes_of rfl rfl rfl rfl
    exact (r_cons (r_set 5 nd (r_bty c_tuple B.tuple bv_tuple (r_acons (r_call g__law_due hr tk (r_acons (r_v 1) (r_acons (r_v 2) (r_acons (r_v 3) (r_acons (r_v 4) r_anil))))) r_anil))) (r_cons (r_set 6 nd (r_fl (r_acons (r_methK mk_Context_rows_way hr tk (r_v 0) (r_acons (r_v 4) r_anil) (r_kcons r_str r_knil)) r_anil))) (r_cons (r_sif (PW.pt (r_tor (r_tnot (r_tvl (r_blt (c_all rfl) B.all bv_all (r_acons (r_lc rfl nd [("_law_rows", 7)] (by exact (show blkC ["_law_made", "_law_own", "_law_modulus_here", "_law_foot_here", "_law_number_here", "_law_due_here", "_law_told", "_law_rows", "_law_found"] (defScope s__law_right) _ [("_law_rows", 7)] = true from by decide +kernel)) (r_iseq (r_v 6)) (fun _ _ _ _ _ => (r_gn 7 nd)) (fun _ _ _ _ _ => r_tyes) (fun _ _ _ _ _ => (r_and (r_call g__law_are_whole hr takes0 (r_acons (r_v 7) r_anil)) (r_one (r_cmp (o_eq hr.units) (r_v 7) (r_v 5)))))) r_anil)))) (r_or1 (r_tcmp (o_ne hr.units) (r_ix (r_v 5) (r_un o_neg r_int)) (r_op o_mod (r_v 4) (r_v 2)))))) (r_last (r_ret r_bl)) r_nil) (r_cons (r_set 8 nd (r_methK mk_Context_rest_way hr tk (r_v 0) (r_acons (r_v 4) r_anil) (r_kcons r_str r_knil))) (r_last (r_ret (r_and (r_call g__law_whole hr tk (r_acons (r_v 8) r_anil)) (r_and (r_cmp (o_eq hr.units) (r_v 8) (r_ix (r_v 5) (r_un o_neg r_int))) (r_one (r_call g__law_bounds_right hr tk (r_acons (r_v 1) (r_acons (r_v 2) (r_acons (r_v 3) (r_acons (r_v 4) (r_acons (r_v 5) r_anil))))))))))))))))
abbrev s_law : Stmt := topS 53
theorem sc_law : FnScope ["_law_script", "_law_k", "_law_pool_here", "_law_foot_here", "_law_modulus_here", "_law_own", "_law_made", "_law_numbers", "_law_turn", "_law_number_here"] ["_law_script"] (defScope s_law) := ⟨rfl, rfl, rfl, by decide +kernel, rfl, by decide +kernel, by decide +kernel⟩
theorem d_law {P : Program} {w : World} {K : PySem.W.Frag} {mg : Str → Option Value} {base : Heap} {f : Addr} {fd : FuncData} {k : Nat} (cl : Str → Addr) (F : FunD K "law" "law" (defArgs s_law) (defBody s_law) (defScope s_law) [] [] f fd) (B : Blt mg) (g__law_right : GDef P w K mg base k "_law_right" (c_right cl PT)) (g__law_number : GDef P w K mg base k "_law_number" c_lnumber) (kk_Context_base : GMkK P w K mg base k "Context" (cl "Context") 2 ["base"] (kwC (c_ctx_init cl) 2 1)) (g__law_tables : GDef P w K mg base k "_law_tables" c_ltables) (g__law_modulus : GDef P w K mg base k "_law_modulus" c_lmodulus) (g__law_foot : GDef P w K mg base k "_law_foot" c_lfoot) (g__law_cell : GDef P w K mg base k "_law_cell" c_cell) (g__law_pool : GDef P w K mg base k "_law_pool" c_pool) : FnOk P w K mg base (L2.CX P w) (k + 1) f fd ["_law_script"] (SpOf K c_glaw) :=
  def_okD F sc_law (w_k08_law cl) (fun cdv A outer s H E hr => by
    have nd := sc_law.nd
    have hp : PassesOwn (model P w) (A.deeper (envOfC "law" (defScope s_law) s.heap.objs.size f cdv)) (envOfC "law" (defScope s_law) s.heap.objs.size f cdv) (cxOf (L2.CX P w) P w K mg base ["_law_script", "_law_k", "_law_pool_here", "_law_foot_here", "_law_modulus_here", "_law_own", "_law_made", "_law_numbers", "_law_turn", "_law_number_here"] "law" (defScope s_law) f cdv A outer s H E).xe := passes_of rfl
    have tk : Takes (cxOf (L2.CX P w) P w K mg base ["_law_script", "_law_k", "_law_pool_here", "_law_foot_here", "_law_modulus_here", "_law_own", "_law_made", "_law_numbers", "_law_turn", "_law_number_here"] "law" (defScope s_law) f cdv A outer s H E) (fun c d _ H => E c d H) := takes_of rfl rfl rfl rfl
    exact (r_cons (r_for (vs := [1]) hp rfl (r_irng1 B.range (r_acons (r_blt (c_max rfl) B.max bv_max (r_acons r_int (r_acons (r_blt (c_min rfl) B.min bv_min (r_acons (r_blt c_len B.len bv_len (r_acons (r_v 0) r_anil)) (r_acons r_int r_anil))) r_anil))) r_anil)) (r_gn 1 nd) (r_cons (r_set 2 nd (r_call g__law_pool hr tk (r_acons (r_call g__law_cell hr tk (r_acons (r_v 0) (r_acons (r_v 1) r_anil))) r_anil))) (r_cons (r_set 3 nd (r_call g__law_foot hr tk (r_acons (r_v 2) r_anil))) (r_cons (r_set 4 nd (r_call g__law_modulus hr tk (r_acons (r_v 2) (r_acons (r_v 3) r_anil)))) (r_cons (r_sasg (vs := [5, 6]) (r_tup (r_acons (r_call g__law_tables hr tk (r_acons (r_v 4) (r_acons (r_v 3) r_anil))) (r_acons (r_makeK kk_Context_base hr tk (r_acons (r_v 4) r_anil) (r_kcons (r_v 3) r_knil)) r_anil))) (r_gtup rfl (r_gcons (r_gn 5 nd) (r_gcons (r_gn 6 nd) r_gnil)))) (r_cons (r_setLc 7 rfl nd [("_law_turn", 8)] (by exact (show blkC ["_law_script", "_law_k", "_law_pool_here", "_law_foot_here", "_law_modulus_here", "_law_own", "_law_made", "_law_numbers", "_law_turn", "_law_number_here"] (defScope s_law) _ [("_law_turn", 8)] = true from by decide +kernel)) (r_irng1 B.range (r_acons r_int r_anil)) (fun _ _ _ _ _ => (r_gn 8 nd)) (fun _ _ _ _ _ => r_tyes) (fun _ _ _ _ _ => (r_call g__law_number hr takes0 (r_acons (r_v 2) (r_acons (r_v 4) (r_acons (r_v 3) (r_acons (r_ix (r_v 5) r_int) r_anil)))))) (by decide +kernel)) (r_last (r_sif (r_tnot (r_tvl (r_blt (c_all rfl) B.all bv_all (r_acons (r_lc rfl nd [("_law_number_here", 9)] (by exact (show blkC ["_law_script", "_law_k", "_law_pool_here", "_law_foot_here", "_law_modulus_here", "_law_own", "_law_made", "_law_numbers", "_law_turn", "_law_number_here"] (defScope s_law) _ [("_law_number_here", 9)] = true from by decide +kernel)) (r_iseq (r_op o_addL (r_v 7) (r_sl (r_v 7) r_onone (r_osome r_int)))) (fun _ _ _ _ _ => (r_gn 9 nd)) (fun _ _ _ _ _ => r_tyes) (fun _ _ _ _ _ => (r_call g__law_right hr takes0 (r_acons (r_v 6) (r_acons (r_v 5) (r_acons (r_v 4) (r_acons (r_v 3) (r_acons (r_v 9) r_anil)))))))) r_anil)))) (r_last (r_ret r_bl)) r_nil)))))))) (r_last (r_ret r_bl))))

def dd_is_whole : He.DefD := ⟨("is_whole", none), "is_whole", "is_whole", defArgs s_is_whole, defBody s_is_whole, defScope s_is_whole, [], []⟩
def dd_figures_of : He.DefD := ⟨("figures_of", none), "figures_of", "figures_of", defArgs s_figures_of, defBody s_figures_of, defScope s_figures_of, [], []⟩
def dd_rows_of : He.DefD := ⟨("rows_of", none), "rows_of", "rows_of", defArgs s_rows_of, defBody s_rows_of, defScope s_rows_of, [], []⟩
def dd_powers_to : He.DefD := ⟨("powers_to", none), "powers_to", "powers_to", defArgs s_powers_to, defBody s_powers_to, defScope s_powers_to, [], []⟩
def dd_doubled_below : He.DefD := ⟨("doubled_below", none), "doubled_below", "doubled_below", defArgs s_doubled_below, defBody s_doubled_below, defScope s_doubled_below, [], []⟩
def dd_Context_ways : He.DefD := ⟨("Context", some "ways"), "ways", "Context.ways", defArgs s_Context_ways, defBody s_Context_ways, defScope s_Context_ways, [], []⟩
def dd__law_cell : He.DefD := ⟨("_law_cell", none), "_law_cell", "_law_cell", defArgs s__law_cell, defBody s__law_cell, defScope s__law_cell, [], []⟩
def dd__law_pool : He.DefD := ⟨("_law_pool", none), "_law_pool", "_law_pool", defArgs s__law_pool, defBody s__law_pool, defScope s__law_pool, [], []⟩
def dd__law_take : He.DefD := ⟨("_law_take", none), "_law_take", "_law_take", defArgs s__law_take, defBody s__law_take, defScope s__law_take, [], []⟩
def dd__law_gcd : He.DefD := ⟨("_law_gcd", none), "_law_gcd", "_law_gcd", defArgs s__law_gcd, defBody s__law_gcd, defScope s__law_gcd, [], []⟩
def dd__law_power : He.DefD := ⟨("_law_power", none), "_law_power", "_law_power", defArgs s__law_power, defBody s__law_power, defScope s__law_power, [], []⟩
def dd__law_whole : He.DefD := ⟨("_law_whole", none), "_law_whole", "_law_whole", defArgs s__law_whole, defBody s__law_whole, defScope s__law_whole, [], []⟩
def dd__law_limbs : He.DefD := ⟨("_law_limbs", none), "_law_limbs", "_law_limbs", defArgs s__law_limbs, defBody s__law_limbs, defScope s__law_limbs, [], []⟩
def dd__law_small : He.DefD := ⟨("_law_small", none), "_law_small", "_law_small", defArgs s__law_small, defBody s__law_small, defScope s__law_small, [], []⟩
def dd_check_number : He.DefD := ⟨("check_number", none), "check_number", "check_number", defArgs s_check_number, defBody s_check_number, defScope s_check_number, [], []⟩
def dd_check_base : He.DefD := ⟨("check_base", none), "check_base", "check_base", defArgs s_check_base, defBody s_check_base, defScope s_check_base, [], []⟩
def dd_last_row : He.DefD := ⟨("last_row", none), "last_row", "last_row", defArgs s_last_row, defBody s_last_row, defScope s_last_row, [], []⟩
def dd_check_modulus : He.DefD := ⟨("check_modulus", none), "check_modulus", "check_modulus", defArgs s_check_modulus, defBody s_check_modulus, defScope s_check_modulus, [], []⟩
def dd_small_of : He.DefD := ⟨("small_of", none), "small_of", "small_of", defArgs s_small_of, defBody s_small_of, defScope s_small_of, [], []⟩
def dd__law_are_whole : He.DefD := ⟨("_law_are_whole", none), "_law_are_whole", "_law_are_whole", defArgs s__law_are_whole, defBody s__law_are_whole, defScope s__law_are_whole, [], []⟩
def dd__law_foot : He.DefD := ⟨("_law_foot", none), "_law_foot", "_law_foot", defArgs s__law_foot, defBody s__law_foot, defScope s__law_foot, [], []⟩
def dd__law_modulus : He.DefD := ⟨("_law_modulus", none), "_law_modulus", "_law_modulus", defArgs s__law_modulus, defBody s__law_modulus, defScope s__law_modulus, [], []⟩
def dd__law_number : He.DefD := ⟨("_law_number", none), "_law_number", "_law_number", defArgs s__law_number, defBody s__law_number, defScope s__law_number, [], []⟩
def dd__law_tables : He.DefD := ⟨("_law_tables", none), "_law_tables", "_law_tables", defArgs s__law_tables, defBody s__law_tables, defScope s__law_tables, [], []⟩
def dd__law_due : He.DefD := ⟨("_law_due", none), "_law_due", "_law_due", defArgs s__law_due, defBody s__law_due, defScope s__law_due, [], []⟩
def dd__law_bounds_right : He.DefD := ⟨("_law_bounds_right", none), "_law_bounds_right", "_law_bounds_right", defArgs s__law_bounds_right, defBody s__law_bounds_right, defScope s__law_bounds_right, [], []⟩
def dd_limbs_of : He.DefD := ⟨("limbs_of", none), "limbs_of", "limbs_of", defArgs s_limbs_of, defBody s_limbs_of, defScope s_limbs_of, [], [("base", .int 10)]⟩
def dd_division : He.DefD := ⟨("division", none), "division", "division", defArgs s_division, defBody s_division, defScope s_division, [], [("base", .int 10)]⟩
def dd_gcd_of : He.DefD := ⟨("gcd_of", none), "gcd_of", "gcd_of", defArgs s_gcd_of, defBody s_gcd_of, defScope s_gcd_of, [], []⟩
def dd_Context___init__ : He.DefD := ⟨("Context", some "__init__"), "__init__", "Context.__init__", defArgs s_Context___init__, defBody s_Context___init__, defScope s_Context___init__, [], [("base", .int 10)]⟩
def dd_folded : He.DefD := ⟨("folded", none), "folded", "folded", defArgs s_folded, defBody s_folded, defScope s_folded, [], []⟩
def dd_table_rows : He.DefD := ⟨("table_rows", none), "table_rows", "table_rows", defArgs s_table_rows, defBody s_table_rows, defScope s_table_rows, [], []⟩
def dd_Context_rows : He.DefD := ⟨("Context", some "rows"), "rows", "Context.rows", defArgs s_Context_rows, defBody s_Context_rows, defScope s_Context_rows, [], [("way", .str "plain")]⟩
def dd_Context_rest : He.DefD := ⟨("Context", some "rest"), "rest", "Context.rest", defArgs s_Context_rest, defBody s_Context_rest, defScope s_Context_rest, [], [("way", .str "plain")]⟩
def dd__law_right : He.DefD := ⟨("_law_right", none), "_law_right", "_law_right", defArgs s__law_right, defBody s__law_right, defScope s__law_right, [], []⟩
def dd_law : He.DefD := ⟨("law", none), "law", "law", defArgs s_law, defBody s_law, defScope s_law, [], []⟩
def fn_ : List He.DefD := [dd_is_whole, dd_figures_of, dd_rows_of, dd_powers_to, dd_doubled_below, dd_Context_ways, dd__law_cell, dd__law_pool, dd__law_take, dd__law_gcd, dd__law_power, dd__law_whole, dd__law_limbs, dd__law_small, dd_check_number, dd_check_base, dd_last_row, dd_check_modulus, dd_small_of, dd__law_are_whole, dd__law_foot, dd__law_modulus, dd__law_number, dd__law_tables, dd__law_due, dd__law_bounds_right, dd_limbs_of, dd_division, dd_gcd_of, dd_Context___init__, dd_folded, dd_table_rows, dd_Context_rows, dd_Context_rest, dd__law_right, dd_law]
def fa_ : List He.Fa := [.glo "is_whole", .glo "figures_of", .glo "rows_of", .glo "powers_to", .glo "doubled_below", .glo "_law_cell", .glo "_law_pool", .glo "_law_take", .glo "_law_gcd", .glo "_law_power", .glo "_law_whole", .glo "_law_limbs", .glo "_law_small", .glo "check_number", .glo "check_base", .glo "last_row", .glo "check_modulus", .glo "small_of", .glo "_law_are_whole", .glo "_law_foot", .glo "_law_modulus", .glo "_law_number", .glo "_law_tables", .glo "_law_due", .glo "_law_bounds_right", .glo "limbs_of", .glo "division", .glo "gcd_of", .glo "folded", .glo "table_rows", .glo "_law_right", .glo "law", .free "abs", .free "all", .free "any", .free "bool", .free "dict", .free "divmod", .free "enumerate", .free "int", .free "isinstance", .free "len", .free "list", .free "max", .free "min", .free "range", .free "repr", .free "reversed", .free "sorted", .free "str", .free "sum", .free "tuple", .free "zip", .int "GREATEST_BASE" 1000000, .int "LEAST_BASE" 2, .int "MOST_MODULUS" 1000000000000000000000000000000000000000000000000000000000000, .cls "Context", .noat "Context" "has_mont", .noat "Context" "great", .noat "Context" "tables", .noat "Context" "raised", .noat "Context" "size", .noat "Context" "base", .noat "Context" "modulus", .glo "WALKS", .meth "Context" "ways", .glo "Context", .mkr "Context", .meth "Context" "rows", .meth "Context" "rest"]
def ts_ : List He.Tab := [(fun K => He.ga K "WALKS", ["plain", "barrett", "table", "mont"])]
def ex_ (K : PySem.W.Frag) : Bool := He.valsB K (He.ga K "WALKS") [("plain", .glo "plain_rows"), ("barrett", .glo "barrett_rows"), ("table", .glo "table_rows"), ("mont", .glo "mont_rows")]
abbrev hk_ : PySem.W.Hook := He.hookX 4 fa_ fn_ ts_ [] ex_
def ob_ (s : PySem.W.SharedT) : He.AlX := He.obsX 4 fa_ fn_ ts_ [] ex_ (HandSHeadRun.getT s)
theorem ob_eq_ (s : PySem.W.SharedT) : ob_ s = hk_.obs s.abs := He.obsX_eq (HandSHeadRun.getT_eq s)
def loose_ : List Str := ([("_wall" : Str), ("BASE" : Str), ("RestError" : Str), ("NoNumber" : Str), ("NoBase" : Str), ("NoDivisor" : Str), ("NoModulus" : Str), ("NoWay" : Str), ("LEAST_BASE" : Str), ("GREATEST_BASE" : Str), ("is_whole" : Str), ("check_number" : Str)] : List Str) ++ ([("check_base" : Str), ("figures_of" : Str), ("limbs_of" : Str), ("division" : Str), ("rows_of" : Str), ("last_row" : Str), ("gcd_of" : Str), ("MOST_MODULUS" : Str), ("check_modulus" : Str), ("powers_to" : Str), ("doubled_below" : Str), ("small_of" : Str)] : List Str) ++ ([("Context" : Str), ("plain_rows" : Str), ("barrett_rows" : Str), ("folded" : Str), ("table_rows" : Str), ("reduced_rows" : Str), ("mont_rows" : Str), ("WALKS" : Str), ("_law_cell" : Str), ("_law_pool" : Str), ("_law_take" : Str), ("_law_gcd" : Str)] : List Str) ++ ([("_law_power" : Str), ("_law_whole" : Str), ("_law_are_whole" : Str), ("_law_limbs" : Str), ("_law_foot" : Str), ("_law_modulus" : Str), ("_law_number" : Str), ("_law_tables" : Str), ("_law_small" : Str), ("_law_due" : Str), ("_law_bounds_right" : Str), ("_law_right" : Str)] : List Str)
abbrev R_ : PySem.W.OpenRow := PySem.W.OpenLaw.row PySem.Challenge.rw_restarith_k08_by_a_table
theorem runf_ (w : World) : HandSHeadRun.RunEq R_ (PySem.W.view R_.prog [53]) hk_ ob_ 5000 loose_ (w.withFollow "special-get-raises" false) := by
  intro os
  kernel_rfl
theorem runt_ (w : World) : HandSHeadRun.RunEq R_ (PySem.W.view R_.prog [53]) hk_ ob_ 5000 loose_ (w.withFollow "special-get-raises" true) := by
  intro os
  kernel_rfl
theorem run_ (w : World) : HandSHeadRun.RunEq R_ (PySem.W.view R_.prog [53]) hk_ ob_ 5000 loose_ w := PySem.W.byRow2 "special-get-raises" (P := fun w => HandSHeadRun.RunEq R_ (PySem.W.view R_.prog [53]) hk_ ob_ 5000 loose_ w) runf_ runt_ w
theorem facts_ {P : Program} {w : World} {K : PySem.W.Frag} {h : Heap} {mg : Str → Option Value} {f : Addr} (X : K.In h) (G : h.Ns mainGlobals mg) (hfa : mg ("law" : Str) = some (.ref f)) (c : He.SaysX fa_ fn_ ts_ [] ex_ w h K) :
    ∃ fd : FuncData, (∀ (s : Shared) (v : Value), BindsTo s fd ⟨[v], []⟩ [("_law_script", v)]) ∧ ∀ base : Heap, K.In base → base.Ns mainGlobals mg → FnOk P w K mg base (L2.CX P w) 9 f fd ["_law_script"] (SpOf K c_glaw) := by
  obtain ⟨t_GREATEST_BASE, v_GREATEST_BASE0⟩ := He.int_ok X G (c.t.d.fact 53 (f := .int "GREATEST_BASE" 1000000) rfl)
  have v_GREATEST_BASE : GVal K mg "GREATEST_BASE" (.int 1000000) := gval_int v_GREATEST_BASE0
  obtain ⟨t_LEAST_BASE, v_LEAST_BASE0⟩ := He.int_ok X G (c.t.d.fact 54 (f := .int "LEAST_BASE" 2) rfl)
  have v_LEAST_BASE : GVal K mg "LEAST_BASE" (.int 2) := gval_int v_LEAST_BASE0
  obtain ⟨t_MOST_MODULUS, v_MOST_MODULUS0⟩ := He.int_ok X G (c.t.d.fact 55 (f := .int "MOST_MODULUS" 1000000000000000000000000000000000000000000000000000000000000) rfl)
  have v_MOST_MODULUS : GVal K mg "MOST_MODULUS" (.int 1000000000000000000000000000000000000000000000000000000000000) := gval_int v_MOST_MODULUS0
  obtain ⟨fd_is_whole, F_is_whole0⟩ := c.t.d.def_ 0 (d := dd_is_whole) rfl
  have F_is_whole : FunD K "is_whole" "is_whole" (defArgs s_is_whole) (defBody s_is_whole) (defScope s_is_whole) [] [] (He.ga K "is_whole") fd_is_whole := F_is_whole0
  have o_is_whole := He.glo_ok X G (c.t.d.fact 0 (f := .glo "is_whole") rfl)
  obtain ⟨fd_figures_of, F_figures_of0⟩ := c.t.d.def_ 1 (d := dd_figures_of) rfl
  have F_figures_of : FunD K "figures_of" "figures_of" (defArgs s_figures_of) (defBody s_figures_of) (defScope s_figures_of) [] [] (He.ga K "figures_of") fd_figures_of := F_figures_of0
  have o_figures_of := He.glo_ok X G (c.t.d.fact 1 (f := .glo "figures_of") rfl)
  obtain ⟨fd_rows_of, F_rows_of0⟩ := c.t.d.def_ 2 (d := dd_rows_of) rfl
  have F_rows_of : FunD K "rows_of" "rows_of" (defArgs s_rows_of) (defBody s_rows_of) (defScope s_rows_of) [] [] (He.ga K "rows_of") fd_rows_of := F_rows_of0
  have o_rows_of := He.glo_ok X G (c.t.d.fact 2 (f := .glo "rows_of") rfl)
  obtain ⟨fd_powers_to, F_powers_to0⟩ := c.t.d.def_ 3 (d := dd_powers_to) rfl
  have F_powers_to : FunD K "powers_to" "powers_to" (defArgs s_powers_to) (defBody s_powers_to) (defScope s_powers_to) [] [] (He.ga K "powers_to") fd_powers_to := F_powers_to0
  have o_powers_to := He.glo_ok X G (c.t.d.fact 3 (f := .glo "powers_to") rfl)
  obtain ⟨fd_doubled_below, F_doubled_below0⟩ := c.t.d.def_ 4 (d := dd_doubled_below) rfl
  have F_doubled_below : FunD K "doubled_below" "doubled_below" (defArgs s_doubled_below) (defBody s_doubled_below) (defScope s_doubled_below) [] [] (He.ga K "doubled_below") fd_doubled_below := F_doubled_below0
  have o_doubled_below := He.glo_ok X G (c.t.d.fact 4 (f := .glo "doubled_below") rfl)
  obtain ⟨fd_Context_ways, F_Context_ways0⟩ := c.t.d.def_ 5 (d := dd_Context_ways) rfl
  have F_Context_ways : FunD K "ways" "Context.ways" (defArgs s_Context_ways) (defBody s_Context_ways) (defScope s_Context_ways) [] [] (He.ma K (He.ga K "Context") "ways") fd_Context_ways := F_Context_ways0
  obtain ⟨fd__law_cell, F__law_cell0⟩ := c.t.d.def_ 6 (d := dd__law_cell) rfl
  have F__law_cell : FunD K "_law_cell" "_law_cell" (defArgs s__law_cell) (defBody s__law_cell) (defScope s__law_cell) [] [] (He.ga K "_law_cell") fd__law_cell := F__law_cell0
  have o__law_cell := He.glo_ok X G (c.t.d.fact 5 (f := .glo "_law_cell") rfl)
  obtain ⟨fd__law_pool, F__law_pool0⟩ := c.t.d.def_ 7 (d := dd__law_pool) rfl
  have F__law_pool : FunD K "_law_pool" "_law_pool" (defArgs s__law_pool) (defBody s__law_pool) (defScope s__law_pool) [] [] (He.ga K "_law_pool") fd__law_pool := F__law_pool0
  have o__law_pool := He.glo_ok X G (c.t.d.fact 6 (f := .glo "_law_pool") rfl)
  obtain ⟨fd__law_take, F__law_take0⟩ := c.t.d.def_ 8 (d := dd__law_take) rfl
  have F__law_take : FunD K "_law_take" "_law_take" (defArgs s__law_take) (defBody s__law_take) (defScope s__law_take) [] [] (He.ga K "_law_take") fd__law_take := F__law_take0
  have o__law_take := He.glo_ok X G (c.t.d.fact 7 (f := .glo "_law_take") rfl)
  obtain ⟨fd__law_gcd, F__law_gcd0⟩ := c.t.d.def_ 9 (d := dd__law_gcd) rfl
  have F__law_gcd : FunD K "_law_gcd" "_law_gcd" (defArgs s__law_gcd) (defBody s__law_gcd) (defScope s__law_gcd) [] [] (He.ga K "_law_gcd") fd__law_gcd := F__law_gcd0
  have o__law_gcd := He.glo_ok X G (c.t.d.fact 8 (f := .glo "_law_gcd") rfl)
  obtain ⟨fd__law_power, F__law_power0⟩ := c.t.d.def_ 10 (d := dd__law_power) rfl
  have F__law_power : FunD K "_law_power" "_law_power" (defArgs s__law_power) (defBody s__law_power) (defScope s__law_power) [] [] (He.ga K "_law_power") fd__law_power := F__law_power0
  have o__law_power := He.glo_ok X G (c.t.d.fact 9 (f := .glo "_law_power") rfl)
  obtain ⟨fd__law_whole, F__law_whole0⟩ := c.t.d.def_ 11 (d := dd__law_whole) rfl
  have F__law_whole : FunD K "_law_whole" "_law_whole" (defArgs s__law_whole) (defBody s__law_whole) (defScope s__law_whole) [] [] (He.ga K "_law_whole") fd__law_whole := F__law_whole0
  have o__law_whole := He.glo_ok X G (c.t.d.fact 10 (f := .glo "_law_whole") rfl)
  obtain ⟨fd__law_limbs, F__law_limbs0⟩ := c.t.d.def_ 12 (d := dd__law_limbs) rfl
  have F__law_limbs : FunD K "_law_limbs" "_law_limbs" (defArgs s__law_limbs) (defBody s__law_limbs) (defScope s__law_limbs) [] [] (He.ga K "_law_limbs") fd__law_limbs := F__law_limbs0
  have o__law_limbs := He.glo_ok X G (c.t.d.fact 11 (f := .glo "_law_limbs") rfl)
  obtain ⟨fd__law_small, F__law_small0⟩ := c.t.d.def_ 13 (d := dd__law_small) rfl
  have F__law_small : FunD K "_law_small" "_law_small" (defArgs s__law_small) (defBody s__law_small) (defScope s__law_small) [] [] (He.ga K "_law_small") fd__law_small := F__law_small0
  have o__law_small := He.glo_ok X G (c.t.d.fact 12 (f := .glo "_law_small") rfl)
  obtain ⟨fd_check_number, F_check_number0⟩ := c.t.d.def_ 14 (d := dd_check_number) rfl
  have F_check_number : FunD K "check_number" "check_number" (defArgs s_check_number) (defBody s_check_number) (defScope s_check_number) [] [] (He.ga K "check_number") fd_check_number := F_check_number0
  have o_check_number := He.glo_ok X G (c.t.d.fact 13 (f := .glo "check_number") rfl)
  obtain ⟨fd_check_base, F_check_base0⟩ := c.t.d.def_ 15 (d := dd_check_base) rfl
  have F_check_base : FunD K "check_base" "check_base" (defArgs s_check_base) (defBody s_check_base) (defScope s_check_base) [] [] (He.ga K "check_base") fd_check_base := F_check_base0
  have o_check_base := He.glo_ok X G (c.t.d.fact 14 (f := .glo "check_base") rfl)
  obtain ⟨fd_last_row, F_last_row0⟩ := c.t.d.def_ 16 (d := dd_last_row) rfl
  have F_last_row : FunD K "last_row" "last_row" (defArgs s_last_row) (defBody s_last_row) (defScope s_last_row) [] [] (He.ga K "last_row") fd_last_row := F_last_row0
  have o_last_row := He.glo_ok X G (c.t.d.fact 15 (f := .glo "last_row") rfl)
  obtain ⟨fd_check_modulus, F_check_modulus0⟩ := c.t.d.def_ 17 (d := dd_check_modulus) rfl
  have F_check_modulus : FunD K "check_modulus" "check_modulus" (defArgs s_check_modulus) (defBody s_check_modulus) (defScope s_check_modulus) [] [] (He.ga K "check_modulus") fd_check_modulus := F_check_modulus0
  have o_check_modulus := He.glo_ok X G (c.t.d.fact 16 (f := .glo "check_modulus") rfl)
  obtain ⟨fd_small_of, F_small_of0⟩ := c.t.d.def_ 18 (d := dd_small_of) rfl
  have F_small_of : FunD K "small_of" "small_of" (defArgs s_small_of) (defBody s_small_of) (defScope s_small_of) [] [] (He.ga K "small_of") fd_small_of := F_small_of0
  have o_small_of := He.glo_ok X G (c.t.d.fact 17 (f := .glo "small_of") rfl)
  obtain ⟨fd__law_are_whole, F__law_are_whole0⟩ := c.t.d.def_ 19 (d := dd__law_are_whole) rfl
  have F__law_are_whole : FunD K "_law_are_whole" "_law_are_whole" (defArgs s__law_are_whole) (defBody s__law_are_whole) (defScope s__law_are_whole) [] [] (He.ga K "_law_are_whole") fd__law_are_whole := F__law_are_whole0
  have o__law_are_whole := He.glo_ok X G (c.t.d.fact 18 (f := .glo "_law_are_whole") rfl)
  obtain ⟨fd__law_foot, F__law_foot0⟩ := c.t.d.def_ 20 (d := dd__law_foot) rfl
  have F__law_foot : FunD K "_law_foot" "_law_foot" (defArgs s__law_foot) (defBody s__law_foot) (defScope s__law_foot) [] [] (He.ga K "_law_foot") fd__law_foot := F__law_foot0
  have o__law_foot := He.glo_ok X G (c.t.d.fact 19 (f := .glo "_law_foot") rfl)
  obtain ⟨fd__law_modulus, F__law_modulus0⟩ := c.t.d.def_ 21 (d := dd__law_modulus) rfl
  have F__law_modulus : FunD K "_law_modulus" "_law_modulus" (defArgs s__law_modulus) (defBody s__law_modulus) (defScope s__law_modulus) [] [] (He.ga K "_law_modulus") fd__law_modulus := F__law_modulus0
  have o__law_modulus := He.glo_ok X G (c.t.d.fact 20 (f := .glo "_law_modulus") rfl)
  obtain ⟨fd__law_number, F__law_number0⟩ := c.t.d.def_ 22 (d := dd__law_number) rfl
  have F__law_number : FunD K "_law_number" "_law_number" (defArgs s__law_number) (defBody s__law_number) (defScope s__law_number) [] [] (He.ga K "_law_number") fd__law_number := F__law_number0
  have o__law_number := He.glo_ok X G (c.t.d.fact 21 (f := .glo "_law_number") rfl)
  obtain ⟨fd__law_tables, F__law_tables0⟩ := c.t.d.def_ 23 (d := dd__law_tables) rfl
  have F__law_tables : FunD K "_law_tables" "_law_tables" (defArgs s__law_tables) (defBody s__law_tables) (defScope s__law_tables) [] [] (He.ga K "_law_tables") fd__law_tables := F__law_tables0
  have o__law_tables := He.glo_ok X G (c.t.d.fact 22 (f := .glo "_law_tables") rfl)
  obtain ⟨fd__law_due, F__law_due0⟩ := c.t.d.def_ 24 (d := dd__law_due) rfl
  have F__law_due : FunD K "_law_due" "_law_due" (defArgs s__law_due) (defBody s__law_due) (defScope s__law_due) [] [] (He.ga K "_law_due") fd__law_due := F__law_due0
  have o__law_due := He.glo_ok X G (c.t.d.fact 23 (f := .glo "_law_due") rfl)
  obtain ⟨fd__law_bounds_right, F__law_bounds_right0⟩ := c.t.d.def_ 25 (d := dd__law_bounds_right) rfl
  have F__law_bounds_right : FunD K "_law_bounds_right" "_law_bounds_right" (defArgs s__law_bounds_right) (defBody s__law_bounds_right) (defScope s__law_bounds_right) [] [] (He.ga K "_law_bounds_right") fd__law_bounds_right := F__law_bounds_right0
  have o__law_bounds_right := He.glo_ok X G (c.t.d.fact 24 (f := .glo "_law_bounds_right") rfl)
  obtain ⟨fd_limbs_of, F_limbs_of0⟩ := c.t.d.def_ 26 (d := dd_limbs_of) rfl
  have F_limbs_of : FunD K "limbs_of" "limbs_of" (defArgs s_limbs_of) (defBody s_limbs_of) (defScope s_limbs_of) [] [("base", .int 10)] (He.ga K "limbs_of") fd_limbs_of := F_limbs_of0
  have o_limbs_of := He.glo_ok X G (c.t.d.fact 25 (f := .glo "limbs_of") rfl)
  obtain ⟨fd_division, F_division0⟩ := c.t.d.def_ 27 (d := dd_division) rfl
  have F_division : FunD K "division" "division" (defArgs s_division) (defBody s_division) (defScope s_division) [] [("base", .int 10)] (He.ga K "division") fd_division := F_division0
  have o_division := He.glo_ok X G (c.t.d.fact 26 (f := .glo "division") rfl)
  obtain ⟨fd_gcd_of, F_gcd_of0⟩ := c.t.d.def_ 28 (d := dd_gcd_of) rfl
  have F_gcd_of : FunD K "gcd_of" "gcd_of" (defArgs s_gcd_of) (defBody s_gcd_of) (defScope s_gcd_of) [] [] (He.ga K "gcd_of") fd_gcd_of := F_gcd_of0
  have o_gcd_of := He.glo_ok X G (c.t.d.fact 27 (f := .glo "gcd_of") rfl)
  obtain ⟨fd_Context___init__, F_Context___init__0⟩ := c.t.d.def_ 29 (d := dd_Context___init__) rfl
  have F_Context___init__ : FunD K "__init__" "Context.__init__" (defArgs s_Context___init__) (defBody s_Context___init__) (defScope s_Context___init__) [] [("base", .int 10)] (He.ma K (He.ga K "Context") "__init__") fd_Context___init__ := F_Context___init__0
  obtain ⟨fd_folded, F_folded0⟩ := c.t.d.def_ 30 (d := dd_folded) rfl
  have F_folded : FunD K "folded" "folded" (defArgs s_folded) (defBody s_folded) (defScope s_folded) [] [] (He.ga K "folded") fd_folded := F_folded0
  have o_folded := He.glo_ok X G (c.t.d.fact 28 (f := .glo "folded") rfl)
  obtain ⟨fd_table_rows, F_table_rows0⟩ := c.t.d.def_ 31 (d := dd_table_rows) rfl
  have F_table_rows : FunD K "table_rows" "table_rows" (defArgs s_table_rows) (defBody s_table_rows) (defScope s_table_rows) [] [] (He.ga K "table_rows") fd_table_rows := F_table_rows0
  have o_table_rows := He.glo_ok X G (c.t.d.fact 29 (f := .glo "table_rows") rfl)
  obtain ⟨fd_Context_rows, F_Context_rows0⟩ := c.t.d.def_ 32 (d := dd_Context_rows) rfl
  have F_Context_rows : FunD K "rows" "Context.rows" (defArgs s_Context_rows) (defBody s_Context_rows) (defScope s_Context_rows) [] [("way", .str "plain")] (He.ma K (He.ga K "Context") "rows") fd_Context_rows := F_Context_rows0
  obtain ⟨fd_Context_rest, F_Context_rest0⟩ := c.t.d.def_ 33 (d := dd_Context_rest) rfl
  have F_Context_rest : FunD K "rest" "Context.rest" (defArgs s_Context_rest) (defBody s_Context_rest) (defScope s_Context_rest) [] [("way", .str "plain")] (He.ma K (He.ga K "Context") "rest") fd_Context_rest := F_Context_rest0
  obtain ⟨fd__law_right, F__law_right0⟩ := c.t.d.def_ 34 (d := dd__law_right) rfl
  have F__law_right : FunD K "_law_right" "_law_right" (defArgs s__law_right) (defBody s__law_right) (defScope s__law_right) [] [] (He.ga K "_law_right") fd__law_right := F__law_right0
  have o__law_right := He.glo_ok X G (c.t.d.fact 30 (f := .glo "_law_right") rfl)
  obtain ⟨fd_law, F_law0⟩ := c.t.d.def_ 35 (d := dd_law) rfl
  have F_law : FunD K "law" "law" (defArgs s_law) (defBody s_law) (defScope s_law) [] [] (He.ga K "law") fd_law := F_law0
  have o_law := He.glo_ok X G (c.t.d.fact 31 (f := .glo "law") rfl)
  have B : Blt mg := ⟨He.free_ok X G (c.t.d.fact 32 (f := .free "abs") rfl), He.free_ok X G (c.t.d.fact 33 (f := .free "all") rfl), He.free_ok X G (c.t.d.fact 34 (f := .free "any") rfl), He.free_ok X G (c.t.d.fact 35 (f := .free "bool") rfl), He.free_ok X G (c.t.d.fact 36 (f := .free "dict") rfl), He.free_ok X G (c.t.d.fact 37 (f := .free "divmod") rfl), He.free_ok X G (c.t.d.fact 38 (f := .free "enumerate") rfl), He.free_ok X G (c.t.d.fact 39 (f := .free "int") rfl), He.free_ok X G (c.t.d.fact 40 (f := .free "isinstance") rfl), He.free_ok X G (c.t.d.fact 41 (f := .free "len") rfl), He.free_ok X G (c.t.d.fact 42 (f := .free "list") rfl), He.free_ok X G (c.t.d.fact 43 (f := .free "max") rfl), He.free_ok X G (c.t.d.fact 44 (f := .free "min") rfl), He.free_ok X G (c.t.d.fact 45 (f := .free "range") rfl), He.free_ok X G (c.t.d.fact 46 (f := .free "repr") rfl), He.free_ok X G (c.t.d.fact 47 (f := .free "reversed") rfl), He.free_ok X G (c.t.d.fact 48 (f := .free "sorted") rfl), He.free_ok X G (c.t.d.fact 49 (f := .free "str") rfl), He.free_ok X G (c.t.d.fact 50 (f := .free "sum") rfl), He.free_ok X G (c.t.d.fact 51 (f := .free "tuple") rfl), He.free_ok X G (c.t.d.fact 52 (f := .free "zip") rfl)⟩
  have a_has_mont : ∀ C ∈ ([(He.ga K) "Context"] : List Addr), ClF K C "has_mont" := fun C hC => by
    simp only [List.mem_cons, List.not_mem_nil, or_false] at hC
    rcases hC with rfl
    exact ⟨He.cls_ok (c.t.d.fact 56 (f := .cls "Context") rfl), He.noat_ok (c.t.d.fact 57 (f := .noat "Context" "has_mont") rfl)⟩
  have a_great : ∀ C ∈ ([(He.ga K) "Context"] : List Addr), ClF K C "great" := fun C hC => by
    simp only [List.mem_cons, List.not_mem_nil, or_false] at hC
    rcases hC with rfl
    exact ⟨He.cls_ok (c.t.d.fact 56 (f := .cls "Context") rfl), He.noat_ok (c.t.d.fact 58 (f := .noat "Context" "great") rfl)⟩
  have a_tables : ∀ C ∈ ([(He.ga K) "Context"] : List Addr), ClF K C "tables" := fun C hC => by
    simp only [List.mem_cons, List.not_mem_nil, or_false] at hC
    rcases hC with rfl
    exact ⟨He.cls_ok (c.t.d.fact 56 (f := .cls "Context") rfl), He.noat_ok (c.t.d.fact 59 (f := .noat "Context" "tables") rfl)⟩
  have a_raised : ∀ C ∈ ([(He.ga K) "Context"] : List Addr), ClF K C "raised" := fun C hC => by
    simp only [List.mem_cons, List.not_mem_nil, or_false] at hC
    rcases hC with rfl
    exact ⟨He.cls_ok (c.t.d.fact 56 (f := .cls "Context") rfl), He.noat_ok (c.t.d.fact 60 (f := .noat "Context" "raised") rfl)⟩
  have a_size : ∀ C ∈ ([(He.ga K) "Context"] : List Addr), ClF K C "size" := fun C hC => by
    simp only [List.mem_cons, List.not_mem_nil, or_false] at hC
    rcases hC with rfl
    exact ⟨He.cls_ok (c.t.d.fact 56 (f := .cls "Context") rfl), He.noat_ok (c.t.d.fact 61 (f := .noat "Context" "size") rfl)⟩
  have a_base : ∀ C ∈ ([(He.ga K) "Context"] : List Addr), ClF K C "base" := fun C hC => by
    simp only [List.mem_cons, List.not_mem_nil, or_false] at hC
    rcases hC with rfl
    exact ⟨He.cls_ok (c.t.d.fact 56 (f := .cls "Context") rfl), He.noat_ok (c.t.d.fact 62 (f := .noat "Context" "base") rfl)⟩
  have a_modulus : ∀ C ∈ ([(He.ga K) "Context"] : List Addr), ClF K C "modulus" := fun C hC => by
    simp only [List.mem_cons, List.not_mem_nil, or_false] at hC
    rcases hC with rfl
    exact ⟨He.cls_ok (c.t.d.fact 56 (f := .cls "Context") rfl), He.noat_ok (c.t.d.fact 63 (f := .noat "Context" "modulus") rfl)⟩
  have dt_WALKS : GDict K w mg "WALKS" (tab_WALKS (He.ga K)) := by
    obtain ⟨es, n, kd⟩ := c.t.tab 0 rfl
    refine d_mk (kvs := [("plain", .glo "plain_rows"), ("barrett", .glo "barrett_rows"), ("table", .glo "table_rows"), ("mont", .glo "mont_rows")]) (He.glo_ok X G (c.t.d.fact 64 (f := .glo "WALKS") rfl)) kd c.more fun s d e => ?_
    have e2 := lookup_mem e
    simp only [tab_WALKS, List.mem_cons, List.not_mem_nil, or_false, Prod.mk.injEq] at e2
    rcases e2 with ⟨rfl, rfl⟩ | ⟨rfl, rfl⟩ | ⟨rfl, rfl⟩ | ⟨rfl, rfl⟩
    · exact ⟨.glo "plain_rows", by simp, .ref⟩
    · exact ⟨.glo "barrett_rows", by simp, .ref⟩
    · exact ⟨.glo "table_rows", by simp, .ref⟩
    · exact ⟨.glo "mont_rows", by simp, .ref⟩
  have e := hfa.symm.trans o_law
  cases e
  have hb := FunD.bindsA (ps := ["_law_script"]) F_law fun _ _ _ _ _ _ us hl => match us, hl with | [_], _ => rfl
  refine ⟨fd_law, fun s v => hb s [v] rfl, fun base _ _ => ?_⟩
  have ok_is_whole := d_is_whole (P := P) (w := w) (base := base) (k := 0) F_is_whole B 
  have g_is_whole : GDef P w K mg base 1 "is_whole" c_is_whole := g_mk F_is_whole o_is_whole ok_is_whole fun _ _ _ _ _ _ us hl => match us, hl with | [_], _ => rfl
  have ok_figures_of := d_figures_of (P := P) (w := w) (base := base) (k := 0) F_figures_of B 
  have g_figures_of : GDef P w K mg base 1 "figures_of" c_figures_of := g_mk F_figures_of o_figures_of ok_figures_of fun _ _ _ _ _ _ us hl => match us, hl with | [_, _], _ => rfl
  have ok_rows_of := d_rows_of (P := P) (w := w) (base := base) (k := 0) F_rows_of B 
  have g_rows_of : GDef P w K mg base 1 "rows_of" c_rows_of := g_mk F_rows_of o_rows_of ok_rows_of fun _ _ _ _ _ _ us hl => match us, hl with | [_, _], _ => rfl
  have ok_powers_to := d_powers_to (P := P) (w := w) (base := base) (k := 0) F_powers_to B 
  have g_powers_to : GDef P w K mg base 1 "powers_to" c_powers_to := g_mk F_powers_to o_powers_to ok_powers_to fun _ _ _ _ _ _ us hl => match us, hl with | [_, _], _ => rfl
  have ok_doubled_below := d_doubled_below (P := P) (w := w) (base := base) (k := 0) F_doubled_below B 
  have g_doubled_below : GDef P w K mg base 1 "doubled_below" c_doubled_below := g_mk F_doubled_below o_doubled_below ok_doubled_below fun _ _ _ _ _ _ us hl => match us, hl with | [_, _], _ => rfl
  have ok_Context_ways := d_Context_ways (P := P) (w := w) (base := base) (k := 0) (cl := He.ga K) F_Context_ways B a_has_mont
  have m_Context_ways : GMeth P w K mg base 1 (He.ga K "Context") "ways" (c_ctx_ways (He.ga K)) := m_mk (He.cls_ok (c.t.d.fact 56 (f := .cls "Context") rfl)) (He.meth_ok (c.t.d.fact 65 (f := .meth "Context" "ways") rfl)) F_Context_ways ok_Context_ways fun _ _ _ _ _ _ us hl => match us, hl with | [_], _ => rfl
  have ok__law_cell := d__law_cell (P := P) (w := w) (base := base) (k := 0) F__law_cell B 
  have g__law_cell : GDef P w K mg base 1 "_law_cell" c_cell := g_mk F__law_cell o__law_cell ok__law_cell fun _ _ _ _ _ _ us hl => match us, hl with | [_, _], _ => rfl
  have ok__law_pool := d__law_pool (P := P) (w := w) (base := base) (k := 0) F__law_pool B 
  have g__law_pool : GDef P w K mg base 1 "_law_pool" c_pool := g_mk F__law_pool o__law_pool ok__law_pool fun _ _ _ _ _ _ us hl => match us, hl with | [_], _ => rfl
  have ok__law_take := d__law_take (P := P) (w := w) (base := base) (k := 0) F__law_take B 
  have g__law_take : GDef P w K mg base 1 "_law_take" c_take := g_mk F__law_take o__law_take ok__law_take fun _ _ _ _ _ _ us hl => match us, hl with | [_, _], _ => rfl
  have ok__law_gcd := d__law_gcd (P := P) (w := w) (base := base) (k := 0) F__law_gcd B 
  have g__law_gcd : GDef P w K mg base 1 "_law_gcd" c_lgcd := g_mk F__law_gcd o__law_gcd ok__law_gcd fun _ _ _ _ _ _ us hl => match us, hl with | [_, _], _ => rfl
  have ok__law_power := d__law_power (P := P) (w := w) (base := base) (k := 0) F__law_power B 
  have g__law_power : GDef P w K mg base 1 "_law_power" c_lpow := g_mk F__law_power o__law_power ok__law_power fun _ _ _ _ _ _ us hl => match us, hl with | [_, _], _ => rfl
  have ok__law_whole := d__law_whole (P := P) (w := w) (base := base) (k := 0) F__law_whole B 
  have g__law_whole : GDef P w K mg base 1 "_law_whole" c_whole := g_mk F__law_whole o__law_whole ok__law_whole fun _ _ _ _ _ _ us hl => match us, hl with | [_], _ => rfl
  have ok__law_limbs := d__law_limbs (P := P) (w := w) (base := base) (k := 0) F__law_limbs B 
  have g__law_limbs : GDef P w K mg base 1 "_law_limbs" c_llimbs := g_mk F__law_limbs o__law_limbs ok__law_limbs fun _ _ _ _ _ _ us hl => match us, hl with | [_, _], _ => rfl
  have ok__law_small := d__law_small (P := P) (w := w) (base := base) (k := 0) F__law_small B 
  have g__law_small : GDef P w K mg base 1 "_law_small" c_lsmall := g_mk F__law_small o__law_small ok__law_small fun _ _ _ _ _ _ us hl => match us, hl with | [_, _], _ => rfl
  have ok_check_number := d_check_number (P := P) (w := w) (base := base) (k := 1) F_check_number B (g_is_whole.mono (by decide))
  have g_check_number : GDef P w K mg base 2 "check_number" c_check_number := g_mk F_check_number o_check_number ok_check_number fun _ _ _ _ _ _ us hl => match us, hl with | [_], _ => rfl
  have ok_check_base := d_check_base (P := P) (w := w) (base := base) (k := 1) F_check_base B (g_is_whole.mono (by decide)) v_LEAST_BASE v_GREATEST_BASE
  have g_check_base : GDef P w K mg base 2 "check_base" c_check_base := g_mk F_check_base o_check_base ok_check_base fun _ _ _ _ _ _ us hl => match us, hl with | [_], _ => rfl
  have ok_last_row := d_last_row (P := P) (w := w) (base := base) (k := 1) F_last_row B (g_rows_of.mono (by decide))
  have g_last_row : GDef P w K mg base 2 "last_row" c_last_row := g_mk F_last_row o_last_row ok_last_row fun _ _ _ _ _ _ us hl => match us, hl with | [_, _], _ => rfl
  have ok_check_modulus := d_check_modulus (P := P) (w := w) (base := base) (k := 1) F_check_modulus B (g_is_whole.mono (by decide)) v_MOST_MODULUS
  have g_check_modulus : GDef P w K mg base 2 "check_modulus" c_check_modulus := g_mk F_check_modulus o_check_modulus ok_check_modulus fun _ _ _ _ _ _ us hl => match us, hl with | [_], _ => rfl
  have ok_small_of := d_small_of (P := P) (w := w) (base := base) (k := 1) F_small_of B (g_rows_of.mono (by decide))
  have g_small_of : GDef P w K mg base 2 "small_of" c_small_of := g_mk F_small_of o_small_of ok_small_of fun _ _ _ _ _ _ us hl => match us, hl with | [_, _], _ => rfl
  have ok__law_are_whole := d__law_are_whole (P := P) (w := w) (base := base) (k := 1) F__law_are_whole B (g__law_whole.mono (by decide))
  have g__law_are_whole : GDef P w K mg base 2 "_law_are_whole" c_are_whole := g_mk F__law_are_whole o__law_are_whole ok__law_are_whole fun _ _ _ _ _ _ us hl => match us, hl with | [_], _ => rfl
  have ok__law_foot := d__law_foot (P := P) (w := w) (base := base) (k := 1) F__law_foot B (g__law_take.mono (by decide))
  have g__law_foot : GDef P w K mg base 2 "_law_foot" c_lfoot := g_mk F__law_foot o__law_foot ok__law_foot fun _ _ _ _ _ _ us hl => match us, hl with | [_], _ => rfl
  have ok__law_modulus := d__law_modulus (P := P) (w := w) (base := base) (k := 1) F__law_modulus B (g__law_take.mono (by decide)) (g__law_power.mono (by decide))
  have g__law_modulus : GDef P w K mg base 2 "_law_modulus" c_lmodulus := g_mk F__law_modulus o__law_modulus ok__law_modulus fun _ _ _ _ _ _ us hl => match us, hl with | [_, _], _ => rfl
  have ok__law_number := d__law_number (P := P) (w := w) (base := base) (k := 1) F__law_number B (g__law_take.mono (by decide))
  have g__law_number : GDef P w K mg base 2 "_law_number" c_lnumber := g_mk F__law_number o__law_number ok__law_number fun _ _ _ _ _ _ us hl => match us, hl with | [_, _, _, _], _ => rfl
  have ok__law_tables := d__law_tables (P := P) (w := w) (base := base) (k := 1) F__law_tables B (g__law_gcd.mono (by decide)) (g__law_small.mono (by decide)) (g__law_power.mono (by decide)) (g__law_limbs.mono (by decide))
  have g__law_tables : GDef P w K mg base 2 "_law_tables" c_ltables := g_mk F__law_tables o__law_tables ok__law_tables fun _ _ _ _ _ _ us hl => match us, hl with | [_, _], _ => rfl
  have ok__law_due := d__law_due (P := P) (w := w) (base := base) (k := 1) F__law_due B (g__law_limbs.mono (by decide))
  have g__law_due : GDef P w K mg base 2 "_law_due" (c_due PT F08) := g_mk F__law_due o__law_due ok__law_due fun _ _ _ _ _ _ us hl => match us, hl with | [_, _, _, _], _ => rfl
  have ok__law_bounds_right := d__law_bounds_right (P := P) (w := w) (base := base) (k := 1) F__law_bounds_right B (g__law_limbs.mono (by decide))
  have g__law_bounds_right : GDef P w K mg base 2 "_law_bounds_right" (c_bounds PT F08) := g_mk F__law_bounds_right o__law_bounds_right ok__law_bounds_right fun _ _ _ _ _ _ us hl => match us, hl with | [_, _, _, _, _], _ => rfl
  have ok_limbs_of := d_limbs_of (P := P) (w := w) (base := base) (k := 2) F_limbs_of B (g_figures_of.mono (by decide)) (g_check_base.mono (by decide)) (g_check_number.mono (by decide))
  have g_limbs_of : GDef P w K mg base 3 "limbs_of" c_limbs_of := g_mkD F_limbs_of o_limbs_of ok_limbs_of 1 (by simp) rfl (.cons .int .nil) fun _ _ _ _ _ _ us ks h1 h2 => match us, h1, ks, h2 with | [_], _, [_], _ => ⟨_, _, _, _, _, _, rfl, rfl, rfl⟩
  have k_limbs_of_base : GDefK P w K mg base 3 "limbs_of" 1 ["base"] ck_limbs_of := g_mkK F_limbs_of o_limbs_of ok_limbs_of 1 ["base"] (by simp) fun _ _ _ _ _ _ us ws h1 h2 => match us, h1, ws, h2 with | [_], _, [_], _ => rfl
  have ok_division := d_division (P := P) (w := w) (base := base) (k := 2) F_division B (g_figures_of.mono (by decide)) (g_check_base.mono (by decide)) (g_is_whole.mono (by decide)) (g_check_number.mono (by decide))
  have g_division : GDef P w K mg base 3 "division" c_division := g_mkD F_division o_division ok_division 2 (by simp) rfl (.cons .int .nil) fun _ _ _ _ _ _ us ks h1 h2 => match us, h1, ks, h2 with | [_, _], _, [_], _ => ⟨_, _, _, _, _, _, rfl, rfl, rfl⟩
  have ok_gcd_of := d_gcd_of (P := P) (w := w) (base := base) (k := 2) F_gcd_of B (g_last_row.mono (by decide))
  have g_gcd_of : GDef P w K mg base 3 "gcd_of" c_gcd_of := g_mk F_gcd_of o_gcd_of ok_gcd_of fun _ _ _ _ _ _ us hl => match us, hl with | [_, _], _ => rfl
  have ok_Context___init__ := d_Context___init__ (P := P) (w := w) (base := base) (k := 3) (cl := He.ga K) F_Context___init__ B a_great (g_doubled_below.mono (by decide)) a_tables a_has_mont (g_small_of.mono (by decide)) a_raised a_size (g_gcd_of.mono (by decide)) (g_powers_to.mono (by decide)) (k_limbs_of_base.mono (by decide)) a_base a_modulus (g_check_base.mono (by decide)) (g_check_modulus.mono (by decide))
  have k_Context : GMk P w K mg base 5 "Context" (He.ga K "Context") (defC (c_ctx_init (He.ga K)) [.int 10]) := k_mkD (He.glo_ok X G (c.t.d.fact 66 (f := .glo "Context") rfl)) (He.mkr_ok (c.t.d.fact 67 (f := .mkr "Context") rfl)) F_Context___init__ ok_Context___init__ 2 (by simp) rfl (.cons .int .nil) fun _ _ _ _ _ _ us ks h1 h2 => match us, h1, ks, h2 with | [_, _], _, [_], _ => ⟨_, _, _, _, _, _, rfl, rfl, rfl⟩
  have kk_Context_base : GMkK P w K mg base 5 "Context" (He.ga K "Context") 2 ["base"] (kwC (c_ctx_init (He.ga K)) 2 1) := k_mkK (He.glo_ok X G (c.t.d.fact 66 (f := .glo "Context") rfl)) (He.mkr_ok (c.t.d.fact 67 (f := .mkr "Context") rfl)) F_Context___init__ ok_Context___init__ 2 ["base"] (by simp) fun _ _ _ _ _ _ us ws h1 h2 => match us, h1, ws, h2 with | [_, _], _, [_], _ => rfl
  have ok_folded := d_folded (P := P) (w := w) (base := base) (k := 3) (cl := He.ga K) F_folded B a_tables a_great (k_limbs_of_base.mono (by decide)) a_base a_size
  have g_folded : GDef P w K mg base 4 "folded" (c_folded (He.ga K)) := g_mk F_folded o_folded ok_folded fun _ _ _ _ _ _ us hl => match us, hl with | [_, _], _ => rfl
  have ok_table_rows := d_table_rows (P := P) (w := w) (base := base) (k := 4) (cl := He.ga K) F_table_rows B a_tables a_great (g_folded.mono (by decide))
  have g_table_rows : GDef P w K mg base 5 "table_rows" (c_way (He.ga K) PT F08) := g_mk F_table_rows o_table_rows ok_table_rows fun _ _ _ _ _ _ us hl => match us, hl with | [_, _], _ => rfl
  have ok_Context_rows := d_Context_rows (P := P) (w := w) (base := base) (k := 5) (cl := He.ga K) F_Context_rows B (fun pr hp => by
    simp only [ws_k08, List.mem_cons, List.not_mem_nil, or_false] at hp
    rcases hp with rfl
    exact (h_of o_table_rows g_table_rows).mono (by decide)) dt_WALKS (m_Context_ways.mono (by decide)) (g_is_whole.mono (by decide)) a_great
  have m_Context_rows : GMeth P w K mg base 6 (He.ga K "Context") "rows" (defC (c_ctx_rows (He.ga K) (ws_k08 (He.ga K))) [.str "plain"]) := m_mkD (He.cls_ok (c.t.d.fact 56 (f := .cls "Context") rfl)) (He.meth_ok (c.t.d.fact 68 (f := .meth "Context" "rows") rfl)) F_Context_rows ok_Context_rows 2 (by simp) rfl (.cons .str .nil) fun _ _ _ _ _ _ us ks h1 h2 => match us, h1, ks, h2 with | [_, _], _, [_], _ => ⟨_, _, _, _, _, _, rfl, rfl, rfl⟩
  have mk_Context_rows_way : GMethK P w K mg base 6 (He.ga K "Context") "rows" 2 ["way"] (kwC (c_ctx_rows (He.ga K) (ws_k08 (He.ga K))) 2 1) := m_mkK (He.cls_ok (c.t.d.fact 56 (f := .cls "Context") rfl)) (He.meth_ok (c.t.d.fact 68 (f := .meth "Context" "rows") rfl)) F_Context_rows ok_Context_rows 2 ["way"] (by simp) fun _ _ _ _ _ _ us ws h1 h2 => match us, h1, ws, h2 with | [_, _], _, [_], _ => rfl
  have ok_Context_rest := d_Context_rest (P := P) (w := w) (base := base) (k := 6) (cl := He.ga K) F_Context_rest B (mk_Context_rows_way.mono (by decide))
  have m_Context_rest : GMeth P w K mg base 7 (He.ga K "Context") "rest" (defC (c_ctx_rest (He.ga K) (ws_k08 (He.ga K))) [.str "plain"]) := m_mkD (He.cls_ok (c.t.d.fact 56 (f := .cls "Context") rfl)) (He.meth_ok (c.t.d.fact 69 (f := .meth "Context" "rest") rfl)) F_Context_rest ok_Context_rest 2 (by simp) rfl (.cons .str .nil) fun _ _ _ _ _ _ us ks h1 h2 => match us, h1, ks, h2 with | [_, _], _, [_], _ => ⟨_, _, _, _, _, _, rfl, rfl, rfl⟩
  have mk_Context_rest_way : GMethK P w K mg base 7 (He.ga K "Context") "rest" 2 ["way"] (kwC (c_ctx_rest (He.ga K) (ws_k08 (He.ga K))) 2 1) := m_mkK (He.cls_ok (c.t.d.fact 56 (f := .cls "Context") rfl)) (He.meth_ok (c.t.d.fact 69 (f := .meth "Context" "rest") rfl)) F_Context_rest ok_Context_rest 2 ["way"] (by simp) fun _ _ _ _ _ _ us ws h1 h2 => match us, h1, ws, h2 with | [_, _], _, [_], _ => rfl
  have ok__law_right := d__law_right (P := P) (w := w) (base := base) (k := 7) (cl := He.ga K) F__law_right B (g__law_whole.mono (by decide)) (g__law_bounds_right.mono (by decide)) (mk_Context_rest_way.mono (by decide)) (g__law_are_whole.mono (by decide)) (mk_Context_rows_way.mono (by decide)) (g__law_due.mono (by decide))
  have g__law_right : GDef P w K mg base 8 "_law_right" (c_right (He.ga K) PT) := g_mk F__law_right o__law_right ok__law_right fun _ _ _ _ _ _ us hl => match us, hl with | [_, _, _, _, _], _ => rfl
  have ok_law := d_law (P := P) (w := w) (base := base) (k := 8) (cl := He.ga K) F_law B (g__law_right.mono (by decide)) (g__law_number.mono (by decide)) (kk_Context_base.mono (by decide)) (g__law_tables.mono (by decide)) (g__law_modulus.mono (by decide)) (g__law_foot.mono (by decide)) (g__law_cell.mono (by decide)) (g__law_pool.mono (by decide))
  exact ok_law
end Zed
open PySem PySem.W PySem.Calls PyProof.Rows
theorem PySem.Challenge.cw_restarith_k08_by_a_table_holds : PySem.Challenge.rw_restarith_k08_by_a_table.Holds := by
  w_on; o_law
  refine HandSHeadRun.head_any (r := OpenLaw.row PySem.Challenge.rw_restarith_k08_by_a_table) (q := view (OpenLaw.row PySem.Challenge.rw_restarith_k08_by_a_table).prog [53]) (H := Zed.hk_) (ob := Zed.ob_) (M := 5000) (loose := Zed.loose_) (d := HandSHeadRun.topDef (OpenLaw.row PySem.Challenge.rw_restarith_k08_by_a_table).prog 53) (kwd := []) Zed.ob_eq_
    (by kernel_rfl) (fun s => by kernel_rfl) Zed.run_ (by kernel_rfl) (by kernel_rfl) (by kernel_rfl) (by rfl) (by first | assumption | decide +kernel) (by decide +kernel) ⟨rfl, rfl, rfl, rfl, rfl, by decide +kernel⟩ ?hw ?hc
  case hw => w_witness2
  case hc =>
    refine Zed.walk_z (L := PySem.Challenge.rw_restarith_k08_by_a_table) (r := 9) (par := "_law_script") (c := Zed.c_glaw) rfl (by kernel_rfl) ⟨rfl, by decide, by decide⟩ (fun ns m hl => ⟨ns, rfl, hl, fun _ => rfl⟩) ?F
    intro w mg fa h Y G hmg0
    obtain ⟨K, KX, c⟩ := Y
    have hmg : mg ("law" : PySem.Str) = some (.ref fa) := by
      have e : (HandSHeadRun.topDef (OpenLaw.row PySem.Challenge.rw_restarith_k08_by_a_table).prog 53).name = ("law" : PySem.Str) := by kernel_rfl
      rw [← e]
      exact hmg0
    obtain ⟨fd, hb, hF⟩ := Zed.facts_ (P := (PySem.Challenge.rw_restarith_k08_by_a_table).prog) (w := w) KX G hmg c
    exact ⟨K, fd, KX, hb, hF⟩
