import PyProof.Rows.All
import HandS.ForMost
import HandS.Exc
import HandS.TryOnly
import HandS.ExcOwn
import HandS.WordsExc
import HandS.CallSlots
import HandS.Wide
import HandS.WideBits
import HandS.Flow
import HandS.Style
import HandS.EndBits
import HandS.IsInst
import HandS.Defaults
import HandS.TupAny
import HandS.TupMul
import HandS.TupLe
import HandS.Zip
import HandS.Rev
import HandS.WideMore
import KE.GoesEnum
import KE.GoesMore
import HandS.MakeKwOnly
import HandS.Ends
import HandS.HeadEnd
import HandS.Head2
import HandS.HeadHook2
import KE.KUnpackStar
import HandS.SortKw
import KE.GoesEnumKw
import HandS.WrittenGet
import HandS.HeadHook3
import HandS.HeadHook4
import HandS.SortInts
import HandS.SortRule
import PyProof.WalkInts
import PyProof.TupleIter
import PySem.Challenge.RW_restarith_k80_whole_fits_gone_through
set_option Elab.async false
set_option linter.all false
set_option maxRecDepth 100000
section
set_option maxHeartbeats 4000000
/-! Zed: data that never change stand as data, what changes stands in a small store; rules over HandS. -/
namespace Zed
open PySem PySem.Spec PyProof.Rows L2

/-- a value as data -/
inductive D where
  | non | bl (b : Bool) | int (i : Int) | str (x : Str) | ty (n : String) | ref (a : Addr)
  | tup (xs : List D) | fl (xs : List D) | obj (C : Addr) (fs : List (Str × D))

mutual
inductive Rep (K : PySem.W.Frag) (Pi : Hp) : D → V → Prop
  | non : Rep K Pi .non .non
  | bl {b} : Rep K Pi (.bl b) (.bl b)
  | int {i} : Rep K Pi (.int i) (.int i)
  | str {x} : Rep K Pi (.str x) (.str x)
  | ty {n} : Rep K Pi (.ty n) (.ty n)
  | ref {a} : Rep K Pi (.ref a) (.ref a)
  | tup {a vs ds} : SqT K Pi a vs → Reps K Pi ds vs → Rep K Pi (.tup ds) (.ref a)
  | fl {a vs ds} : SqL K Pi a vs → Reps K Pi ds vs → Rep K Pi (.fl ds) (.ref a)
  | obj {a C dx kvs fs} : Pi a = some (.ins C dx kvs) → RepF K Pi fs kvs → Rep K Pi (.obj C fs) (.ref a)
inductive Reps (K : PySem.W.Frag) (Pi : Hp) : List D → List V → Prop
  | nil : Reps K Pi [] []
  | cons {d v ds vs} : Rep K Pi d v → Reps K Pi ds vs → Reps K Pi (d :: ds) (v :: vs)
inductive RepF (K : PySem.W.Frag) (Pi : Hp) : List (Str × D) → List (Str × V) → Prop
  | nil : RepF K Pi [] []
  | cons {n d v fs kvs} : Rep K Pi d v → RepF K Pi fs kvs → RepF K Pi ((n, d) :: fs) ((n, v) :: kvs)
end

def PLe (P Q : Hp) : Prop := ∀ b o, P b = some o → Q b = some o
theorem PLe.refl {P : Hp} : PLe P P := fun _ _ h => h
theorem PLe.trans {P Q R : Hp} (a : PLe P Q) (b : PLe Q R) : PLe P R := fun c o h => b c o (a c o h)
theorem PLe.sqt {K : PySem.W.Frag} {P Q : Hp} {a : Addr} {xs : List V} (l : PLe P Q) (h : SqT K P a xs) : SqT K Q a xs := by
  rcases h with (h | ⟨o, h⟩) | h
  · exact .inl (.inl (l _ _ h))
  · exact .inl (.inr ⟨o, l _ _ h⟩)
  · exact .inr h
theorem PLe.sql {K : PySem.W.Frag} {P Q : Hp} {a : Addr} {xs : List V} (l : PLe P Q) (h : SqL K P a xs) : SqL K Q a xs := by
  rcases h with (h | ⟨o, h⟩) | h
  · exact .inl (.inl (l _ _ h))
  · exact .inl (.inr ⟨o, l _ _ h⟩)
  · exact .inr h
mutual
theorem Rep.mono {K : PySem.W.Frag} {P Q : Hp} (l : PLe P Q) : ∀ {d v}, Rep K P d v → Rep K Q d v
  | _, _, .non => .non
  | _, _, .bl => .bl
  | _, _, .int => .int
  | _, _, .str => .str
  | _, _, .ty => .ty
  | _, _, .ref => .ref
  | _, _, .tup h r => .tup (l.sqt h) (Reps.mono l r)
  | _, _, .fl h r => .fl (l.sql h) (Reps.mono l r)
  | _, _, .obj h r => .obj (l _ _ h) (RepF.mono l r)
theorem Reps.mono {K : PySem.W.Frag} {P Q : Hp} (l : PLe P Q) : ∀ {d v}, Reps K P d v → Reps K Q d v
  | _, _, .nil => .nil
  | _, _, .cons h r => .cons (Rep.mono l h) (Reps.mono l r)
theorem RepF.mono {K : PySem.W.Frag} {P Q : Hp} (l : PLe P Q) : ∀ {d v}, RepF K P d v → RepF K Q d v
  | _, _, .nil => .nil
  | _, _, .cons h r => .cons (Rep.mono l h) (RepF.mono l r)
end
section
variable {K : PySem.W.Frag} {P : Hp}
theorem Reps.length : ∀ {ds vs}, Reps K P ds vs → ds.length = vs.length
  | _, _, .nil => rfl
  | _, _, .cons _ r => congrArg Nat.succ (Reps.length r)
theorem Reps.get : ∀ {ds vs} {i : Nat} {d : D}, Reps K P ds vs → ds[i]? = some d → ∃ v, vs[i]? = some v ∧ Rep K P d v
  | _, _, _, _, .nil, e => by simp at e
  | _, _, 0, _, .cons r _, e => by simp at e; subst e; exact ⟨_, rfl, r⟩
  | _, _, i + 1, d, .cons _ t, e => by
    obtain ⟨u, h1, h2⟩ := Reps.get (i := i) (d := d) t (by simpa using e)
    exact ⟨u, by simpa using h1, h2⟩
theorem Reps.set {d : D} {v : V} (r : Rep K P d v) : ∀ {ds vs} (i : Nat), Reps K P ds vs → Reps K P (ds.set i d) (vs.set i v)
  | _, _, _, .nil => .nil
  | _, _, 0, .cons _ t => .cons r t
  | _, _, i + 1, .cons q t => .cons q (Reps.set r i t)
theorem Reps.append : ∀ {xs ys us ws}, Reps K P xs us → Reps K P ys ws → Reps K P (xs ++ ys) (us ++ ws)
  | _, _, _, _, .nil, s => s
  | _, _, _, _, .cons r t, s => .cons r (Reps.append t s)
theorem Reps.take : ∀ {xs us} (n : Nat), Reps K P xs us → Reps K P (xs.take n) (us.take n)
  | _, _, 0, _ => .nil
  | _, _, _ + 1, .nil => .nil
  | _, _, n + 1, .cons r t => .cons r (Reps.take n t)
theorem Reps.drop : ∀ {xs us} (n : Nat), Reps K P xs us → Reps K P (xs.drop n) (us.drop n)
  | _, _, 0, r => r
  | _, _, _ + 1, .nil => .nil
  | _, _, n + 1, .cons _ t => Reps.drop n t
theorem Reps.reverse : ∀ {xs us}, Reps K P xs us → Reps K P xs.reverse us.reverse
  | _, _, .nil => .nil
  | _, _, .cons r t => by
    rw [List.reverse_cons, List.reverse_cons]
    exact (Reps.reverse t).append (.cons r .nil)
theorem Reps.ints : ∀ (ns : List Int), Reps K P (ns.map D.int) (ns.map V.int)
  | [] => .nil
  | _ :: r => .cons .int (Reps.ints r)
theorem Reps.of_ints : ∀ {ns : List Int} {vs}, Reps K P (ns.map D.int) vs → vs = ns.map V.int
  | [], _, .nil => rfl
  | _ :: r, _, .cons h t => by
    cases h
    rw [Reps.of_ints (ns := r) t]
    rfl
theorem Reps.of_bls : ∀ {bs : List Bool} {vs}, Reps K P (bs.map D.bl) vs → vs = bs.map V.bl
  | [], _, .nil => rfl
  | _ :: r, _, .cons h t => by
    cases h
    rw [Reps.of_bls (bs := r) t]
    rfl
theorem RepF.lookup {n : Str} : ∀ {fs kvs} {d : D}, RepF K P fs kvs → fs.lookup n = some d → ∃ v, kvs.lookup n = some v ∧ Rep K P d v
  | _, _, _, .nil, e => by cases e
  | (m, d') :: fs, (_, v') :: kvs, d, .cons r t, e => by
    rw [List.lookup_cons] at e ⊢
    cases q : n == m with
    | true =>
      rw [q] at e
      cases e
      exact ⟨v', rfl, r⟩
    | false =>
      rw [q] at e
      exact RepF.lookup t e
theorem RepF.lookup_none {n : Str} : ∀ {fs kvs}, RepF K P fs kvs → fs.lookup n = none → kvs.lookup n = none
  | _, _, .nil, _ => rfl
  | (m, d') :: fs, (_, v') :: kvs, .cons r t, e => by
    rw [List.lookup_cons] at e ⊢
    cases q : n == m with
    | true =>
      rw [q] at e
      cases e
    | false =>
      rw [q] at e
      exact RepF.lookup_none t e
theorem RepF.length : ∀ {fs kvs}, RepF K P fs kvs → fs.length = kvs.length
  | _, _, .nil => rfl
  | _, _, .cons _ r => congrArg Nat.succ (RepF.length r)
end

/-! ### the store of what may change -/
inductive MO where
  | lst (xs : List D) | ins (C : Addr) (fs : List (Str × D)) | dct (kvs : List (Key × D))
abbrev Mu := Addr → Option MO
def updM (m : Mu) (a : Addr) (o : MO) : Mu := fun b => if b = a then some o else m b
theorem updM_same {m : Mu} {a : Addr} {o : MO} : updM m a o a = some o := by unfold updM; rw [if_pos rfl]
theorem updM_ne {m : Mu} {a b : Addr} {o : MO} (h : b ≠ a) : updM m a o b = m b := by unfold updM; rw [if_neg h]
theorem updM_upd {m : Mu} {a : Addr} {o u : MO} : updM (updM m a o) a u = updM m a u := by
  funext b; unfold updM; split <;> rfl
theorem ne_fresh {m : Mu} {a b : Addr} {o : MO} (h : m a = some o) (h' : m b = none) : a ≠ b := by
  intro e; subst e; rw [h] at h'; cases h'

def MuOk (K : PySem.W.Frag) (Pi H : Hp) (a : Addr) : MO → Prop
  | .lst ds => ∃ vs, H a = some (.lst vs) ∧ Reps K Pi ds vs
  | .ins C fs => ∃ dx kvs, H a = some (.ins C dx kvs) ∧ RepF K Pi fs kvs
  | .dct kvs => ∃ vs, H a = some (.dK vs) ∧ Paired (fun (p : Key × D) (q : Key × V) => p.1 = q.1 ∧ Rep K Pi p.2 q.2) kvs vs

/-- the store and the data, in the heap -/
structure Zm (K : PySem.W.Frag) (F : Hp) (m : Mu) (Pi H : Hp) : Prop where
  sub : PLe Pi H
  frm : PLe F H
  fdis : ∀ b, m b ≠ none → F b = none
  fpd : ∀ b o, F b = some o → Pi b = none
  dis : ∀ b, m b ≠ none → Pi b = none
  ok : ∀ b o, m b = some o → MuOk K Pi H b o
abbrev ZEnv := List (Option D)
abbrev St := L2.St
def EnvR (K : PySem.W.Frag) (Pi : Hp) (ρ : ZEnv) (σ : St) : Prop := ρ.length = σ.length ∧ ∀ (i : Nat) d, ρ[i]? = some (some d) → ∃ v, σ[i]? = some (some v) ∧ Rep K Pi d v
theorem paired_mono {α β : Type} {F G : α → β → Prop} (h : ∀ a b, F a b → G a b) : ∀ {xs ys}, Paired F xs ys → Paired G xs ys
  | _, _, .nil => .nil
  | _, _, .cons r t => .cons (h _ _ r) (paired_mono h t)
section
variable {K : PySem.W.Frag} {F : Hp} {m : Mu} {Pi P2 H H2 : Hp} {ρ : ZEnv} {σ : St}
theorem EnvR.mono (l : PLe Pi P2) (e : EnvR K Pi ρ σ) : EnvR K P2 ρ σ := ⟨e.1, fun i d q => by
  obtain ⟨v, h1, h2⟩ := e.2 i d q
  exact ⟨v, h1, h2.mono l⟩⟩
theorem EnvR.set {i : Nat} {d : D} {v : V} (e : EnvR K Pi ρ σ) (r : Rep K Pi d v) : EnvR K Pi (ρ.set i (some d)) (σ.set i (some v)) := by
  refine ⟨by rw [List.length_set, List.length_set]; exact e.1, fun j d' q => ?_⟩
  by_cases hj : i = j
  · subst hj
    by_cases hl : i < ρ.length
    · rw [List.getElem?_set_self hl] at q
      cases q
      exact ⟨v, by rw [List.getElem?_set_self (by rw [← e.1]; exact hl)], r⟩
    · rw [List.getElem?_eq_none (by simpa using hl)] at q
      cases q
  · rw [List.getElem?_set_ne hj] at q ⊢
    exact e.2 j d' q
theorem Zm.free (z : Zm K F m Pi H) {a : Addr} (h : H a = none) : m a = none ∧ Pi a = none := by
  constructor
  · cases q : m a with
    | none => rfl
    | some o =>
      have k := z.ok a o q
      cases o with
      | lst ds => obtain ⟨vs, e, _⟩ := k; rw [h] at e; cases e
      | ins C fs => obtain ⟨dx, kvs, e, _⟩ := k; rw [h] at e; cases e
      | dct kvs => obtain ⟨vs, e, _⟩ := k; rw [h] at e; cases e
  · cases q : Pi a with
    | none => rfl
    | some o => rw [z.sub a o q] at h; cases h
theorem Zm.ne_mu (z : Zm K F m Pi H) {a b : Addr} {o : MO} {u : HO} (h : m a = some o) (h2 : Pi b = some u) : b ≠ a := by
  intro e
  subst e
  rw [z.dis _ (by rw [h]; simp)] at h2
  cases h2
theorem MuOk.pi (l : PLe Pi P2) {a : Addr} : ∀ {o : MO}, MuOk K Pi H a o → MuOk K P2 H a o
  | .lst _, ⟨vs, e, r⟩ => ⟨vs, e, r.mono l⟩
  | .ins _ _, ⟨dx, kvs, e, r⟩ => ⟨dx, kvs, e, r.mono l⟩
  | .dct _, ⟨vs, e, r⟩ => ⟨vs, e, paired_mono (fun _ _ q => ⟨q.1, q.2.mono l⟩) r⟩
theorem MuOk.heap {a : Addr} (h : H2 a = H a) : ∀ {o : MO}, MuOk K Pi H a o → MuOk K Pi H2 a o
  | .lst _, ⟨vs, e, r⟩ => ⟨vs, h.trans e, r⟩
  | .ins _ _, ⟨dx, kvs, e, r⟩ => ⟨dx, kvs, h.trans e, r⟩
  | .dct _, ⟨vs, e, r⟩ => ⟨vs, h.trans e, r⟩
theorem MuOk.isSome {a : Addr} : ∀ {o : MO}, MuOk K Pi H a o → H a ≠ none
  | .lst _, ⟨vs, e, r⟩ => by rw [e]; simp
  | .ins _ _, ⟨dx, kvs, e, r⟩ => by rw [e]; simp
  | .dct _, ⟨vs, e, r⟩ => by rw [e]; simp
/-- a new thing that never changes -/
theorem Zm.newPi (z : Zm K F m Pi H) {p : Addr} (hp : H p = none) (o : HO) : Zm K F m (upd Pi p o) (upd H p o) ∧ PLe Pi (upd Pi p o) := by
  obtain ⟨n1, n2⟩ := z.free hp
  have l : PLe Pi (upd Pi p o) := fun b u e => by rw [upd_ne (ne_of_none e n2)]; exact e
  refine ⟨⟨fun b u e => ?_, fun b u e => ?_, z.fdis, fun b u e => by rw [upd_ne (ne_of_none (z.frm b u e) hp)]; exact z.fpd b u e, fun b e => ?_, fun b u e => ?_⟩, l⟩
  · by_cases hb : b = p
    · subst hb; rw [upd_same] at e ⊢; exact e
    · rw [upd_ne hb] at e ⊢; exact z.sub b u e
  · rw [upd_ne (ne_of_none (z.frm b u e) hp)]; exact z.frm b u e
  · by_cases hb : b = p
    · subst hb; exact absurd n1 e
    · rw [upd_ne hb]; exact z.dis b e
  · have hb : b ≠ p := fun q => by subst q; rw [n1] at e; cases e
    exact ((z.ok b u e).pi l).heap (upd_ne hb)
theorem Zm.ffree (z : Zm K F m Pi H) {p : Addr} (hp : H p = none) : F p = none := by
  cases q : F p with
  | none => rfl
  | some o => rw [z.frm p o q] at hp; cases hp
/-- a new thing that may change -/
theorem Zm.newMu (z : Zm K F m Pi H) {p : Addr} (hp : H p = none) {o : HO} {u : MO} (ho : MuOk K Pi (upd H p o) p u) : Zm K F (updM m p u) Pi (upd H p o) := by
  obtain ⟨n1, n2⟩ := z.free hp
  refine ⟨fun b v e => ?_, fun b v e => ?_, fun b e => ?_, z.fpd, fun b e => ?_, fun b v e => ?_⟩
  · rw [upd_ne (ne_of_none e n2)]; exact z.sub b v e
  · rw [upd_ne (ne_of_none (z.frm b v e) hp)]; exact z.frm b v e
  · by_cases hb : b = p
    · subst hb; exact z.ffree hp
    · rw [updM_ne hb] at e; exact z.fdis b e
  · by_cases hb : b = p
    · subst hb; exact n2
    · rw [updM_ne hb] at e; exact z.dis b e
  · by_cases hb : b = p
    · subst hb; rw [updM_same] at e; cases e; exact ho
    · rw [updM_ne hb] at e; exact (z.ok b v e).heap (upd_ne hb)
/-- it changes -/
theorem Zm.setMu (z : Zm K F m Pi H) {p : Addr} {w : MO} (hp : m p = some w) {o : HO} {u : MO} (ho : MuOk K Pi (upd H p o) p u) : Zm K F (updM m p u) Pi (upd H p o) := by
  refine ⟨fun b v e => ?_, fun b v e => ?_, fun b e => ?_, z.fpd, fun b e => ?_, fun b v e => ?_⟩
  · rw [upd_ne (z.ne_mu hp e)]; exact z.sub b v e
  · have hb : b ≠ p := fun q => by
      subst q
      rw [z.fdis _ (by rw [hp]; simp)] at e
      cases e
    rw [upd_ne hb]; exact z.frm b v e
  · by_cases hb : b = p
    · subst hb; exact z.fdis _ (by rw [hp]; simp)
    · rw [updM_ne hb] at e; exact z.fdis b e
  · by_cases hb : b = p
    · subst hb; exact z.dis _ (by rw [hp]; simp)
    · rw [updM_ne hb] at e; exact z.dis b e
  · by_cases hb : b = p
    · subst hb; rw [updM_same] at e; cases e; exact ho
    · rw [updM_ne hb] at e; exact (z.ok b v e).heap (upd_ne hb)
/-- the store forgets -/
def dropM (m : Mu) (a : Addr) : Mu := fun b => if b = a then none else m b
theorem dropM_none {m : Mu} {a b : Addr} {o : MO} (h : dropM m a b = some o) : b ≠ a ∧ m b = some o := by
  unfold dropM at h
  by_cases hb : b = a
  · rw [if_pos hb] at h; cases h
  · rw [if_neg hb] at h; exact ⟨hb, h⟩
theorem Zm.less {m2 : Mu} (z : Zm K F m Pi H) (h : ∀ b o, m2 b = some o → m b = some o) : Zm K F m2 Pi H := by
  have n : ∀ b, m2 b ≠ none → m b ≠ none := fun b e => by
    cases q : m2 b with
    | none => exact absurd q e
    | some o => rw [h b o q]; simp
  exact ⟨z.sub, z.frm, fun b e => z.fdis b (n b e), z.fpd, fun b e => z.dis b (n b e), fun b o e => z.ok b o (h b o e)⟩
/-- what will change no more: its cell goes to the data -/
theorem Zm.seal (z : Zm K F m Pi H) {p : Addr} {w : MO} {o : HO} (hp : m p = some w) (ho : H p = some o) : Zm K F (dropM m p) (upd Pi p o) H ∧ PLe Pi (upd Pi p o) := by
  have n2 : Pi p = none := z.dis p (by rw [hp]; simp)
  have l : PLe Pi (upd Pi p o) := fun b u e => by rw [upd_ne (ne_of_none e n2)]; exact e
  have n : ∀ b, dropM m p b ≠ none → b ≠ p ∧ m b ≠ none := fun b e => by
    cases q : dropM m p b with
    | none => exact absurd q e
    | some o => obtain ⟨h1, h2⟩ := dropM_none q; exact ⟨h1, by rw [h2]; simp⟩
  have fp : F p = none := z.fdis p (by rw [hp]; simp)
  refine ⟨⟨fun b u e => ?_, z.frm, fun b e => z.fdis b (n b e).2, fun b u e => by rw [upd_ne (ne_of_none e fp)]; exact z.fpd b u e, fun b e => ?_, fun b u e => ?_⟩, l⟩
  · by_cases hb : b = p
    · subst hb; rw [upd_same] at e; cases e; exact ho
    · rw [upd_ne hb] at e; exact z.sub b u e
  · rw [upd_ne (n b e).1]; exact z.dis b (n b e).2
  · exact (z.ok b u (dropM_none e).2).pi l
/-- the frame holds a cell more, or less -/
theorem Zm.frame (z : Zm K F m Pi H) {p : Addr} (h1 : m p = none) (h2 : Pi p = none) {o : HO} (ho : H p = some o) : Zm K (upd F p o) m Pi H := by
  refine ⟨z.sub, fun b u e => ?_, fun b e => ?_, fun b u e => ?_, z.dis, z.ok⟩
  · by_cases hb : b = p
    · subst hb; rw [upd_same] at e; cases e; exact ho
    · rw [upd_ne hb] at e; exact z.frm b u e
  · by_cases hb : b = p
    · subst hb; exact absurd h1 e
    · rw [upd_ne hb]; exact z.fdis b e
  · by_cases hb : b = p
    · subst hb; exact h2
    · rw [upd_ne hb] at e; exact z.fpd b u e
/-- a cell that the frame holds is written by its owner -/
theorem Zm.own {p : Addr} {o o2 : HO} (z : Zm K (upd F p o) m Pi H) : Zm K (upd F p o2) m Pi (upd H p o2) := by
  have np : Pi p = none := z.fpd p o upd_same
  have nm : m p = none := by
    cases q : m p with
    | none => rfl
    | some w => have := z.fdis p (by rw [q]; simp); rw [upd_same] at this; cases this
  refine ⟨fun b u e => ?_, fun b u e => ?_, fun b e => ?_, fun b u e => ?_, z.dis, fun b u e => ?_⟩
  · rw [upd_ne (ne_of_none e np)]; exact z.sub b u e
  · by_cases hb : b = p
    · subst hb; rw [upd_same] at e ⊢; exact e
    · rw [upd_ne hb] at e ⊢; exact z.frm b u (by rw [upd_ne hb]; exact e)
  · by_cases hb : b = p
    · subst hb; exact absurd nm e
    · rw [upd_ne hb]; have := z.fdis b e; rwa [upd_ne hb] at this
  · by_cases hb : b = p
    · subst hb; exact np
    · rw [upd_ne hb] at e; exact z.fpd b u (by rw [upd_ne hb]; exact e)
  · have hb : b ≠ p := fun q => by subst q; rw [nm] at e; cases e
    exact (z.ok b u e).heap (upd_ne hb)
/-- the frame gives a cell to the data -/
theorem Zm.give {p : Addr} {o : HO} (z : Zm K (upd F p o) m Pi H) (hf : F p = none) : Zm K F m (upd Pi p o) H ∧ PLe Pi (upd Pi p o) := by
  have np : Pi p = none := z.fpd p o upd_same
  have l : PLe Pi (upd Pi p o) := fun b u e => by rw [upd_ne (ne_of_none e np)]; exact e
  have ff : ∀ b u, F b = some u → upd F p o b = some u := fun b u e => by rw [upd_ne (ne_of_none e hf)]; exact e
  have nm : m p = none := by
    cases q : m p with
    | none => rfl
    | some w => have := z.fdis p (by rw [q]; simp); rw [upd_same] at this; cases this
  refine ⟨⟨fun b u e => ?_, fun b u e => z.frm b u (ff b u e), fun b e => ?_, fun b u e => ?_, fun b e => ?_, fun b u e => (z.ok b u e).pi l⟩, l⟩
  · by_cases hb : b = p
    · subst hb; rw [upd_same] at e; cases e; exact z.frm _ _ upd_same
    · rw [upd_ne hb] at e; exact z.sub b u e
  · cases q : F b with
    | none => rfl
    | some u => have := z.fdis b e; rw [ff b u q] at this; cases this
  · rw [upd_ne (ne_of_none e hf)]; exact z.fpd b u (ff b u e)
  · by_cases hb : b = p
    · subst hb; exact absurd nm e
    · rw [upd_ne hb]; exact z.dis b e
end

/-! ### wishes -/
structure ZX where
  cls : Value
  fs : Option (List (Str × D))
abbrev QE := D → Mu → Prop
abbrev QX := ZX → Mu → Prop
abbrev QB := Bool → Mu → Prop
abbrev QL := List D → Mu → Prop
abbrev ZTE := ZEnv → Mu → QE → QX → Prop
abbrev ZTT := ZEnv → Mu → QB → QX → Prop
abbrev ZTA := ZEnv → Mu → QL → QX → Prop
structure ZEnds where
  nx : ZEnv → Mu → Prop
  rt : QE
  ex : ZX → ZEnv → Mu → Prop
abbrev ZTS := ZEnds → ZEnv → Mu → Prop
/-- a def's promise -/
abbrev ZSp := List D → Mu → QE → QX → Prop

def ExR (K : PySem.W.Frag) (Pi H : Hp) (x : ZX) (c : Value) (dd : Option Addr) : Prop :=
  x.cls = c ∧ match x.fs, dd with
    | none, none => True
    | some fs, some a => ∃ kvs, H a = some (.xd kvs) ∧ RepF K Pi fs kvs
    | _, _ => False
def ContE (K : PySem.W.Frag) (F Pi : Hp) (Qz : QE) (Q : VK) : Prop := ∀ d m' P' v H', PLe Pi P' → Zm K F m' P' H' → Rep K P' d v → Qz d m' → Q v H'
def ContB (K : PySem.W.Frag) (F Pi : Hp) (Qz : QB) (Q : Bool → Hp → Prop) : Prop := ∀ d m' P' H', PLe Pi P' → Zm K F m' P' H' → Qz d m' → Q d H'
def ContL (K : PySem.W.Frag) (F Pi : Hp) (Qz : QL) (Q : List V → Hp → Prop) : Prop := ∀ d m' P' v H', PLe Pi P' → Zm K F m' P' H' → Reps K P' d v → Qz d m' → Q v H'
def ContX (K : PySem.W.Frag) (F Pi : Hp) (Ez : QX) (E : XK) : Prop := ∀ x m' P' c dd H', PLe Pi P' → Zm K F m' P' H' → ExR K P' H' x c dd → Ez x m' → E c dd H'
def ContS (K : PySem.W.Frag) (F Pi : Hp) (Qz : ZEnv → Mu → Prop) (Q : St → Hp → Prop) : Prop := ∀ ρ' m' P' σ' H', PLe Pi P' → Zm K F m' P' H' → EnvR K P' ρ' σ' → Qz ρ' m' → Q σ' H'
def ContW (K : PySem.W.Frag) (F Pi : Hp) (Ez : ZX → ZEnv → Mu → Prop) (W : WX) : Prop := ∀ x ρ' m' P' c dd σ' H', PLe Pi P' → Zm K F m' P' H' → EnvR K P' ρ' σ' → ExR K P' H' x c dd → Ez x ρ' m' → W c dd σ' H'
section
variable {K : PySem.W.Frag} {F Pi P2 : Hp}
theorem ContE.mono {a b} (h : ContE K F Pi a b) (l : PLe Pi P2) : ContE K F P2 a b := fun d m' P' v H' q => h d m' P' v H' (l.trans q)
theorem ContB.mono {a b} (h : ContB K F Pi a b) (l : PLe Pi P2) : ContB K F P2 a b := fun d m' P' H' q => h d m' P' H' (l.trans q)
theorem ContL.mono {a b} (h : ContL K F Pi a b) (l : PLe Pi P2) : ContL K F P2 a b := fun d m' P' v H' q => h d m' P' v H' (l.trans q)
theorem ContX.mono {a b} (h : ContX K F Pi a b) (l : PLe Pi P2) : ContX K F P2 a b := fun x m' P' c dd H' q => h x m' P' c dd H' (l.trans q)
theorem ContS.mono {a b} (h : ContS K F Pi a b) (l : PLe Pi P2) : ContS K F P2 a b := fun x m' P' c H' q => h x m' P' c H' (l.trans q)
theorem ContW.mono {a b} (h : ContW K F Pi a b) (l : PLe Pi P2) : ContW K F P2 a b := fun x ρ' m' P' c dd σ' H' q => h x ρ' m' P' c dd σ' H' (l.trans q)
end
def LE (K : PySem.W.Frag) (W : WX) (z : ZTE) : TE := fun σ H Q => ∃ F ρ m Pi Qz Ez, Zm K F m Pi H ∧ EnvR K Pi ρ σ ∧ z ρ m Qz Ez ∧ ContE K F Pi Qz Q ∧ ContX K F Pi Ez (fun c d H' => W c d σ H')
def LT (K : PySem.W.Frag) (W : WX) (z : ZTT) : TT := fun σ H Q => ∃ F ρ m Pi Qz Ez, Zm K F m Pi H ∧ EnvR K Pi ρ σ ∧ z ρ m Qz Ez ∧ ContB K F Pi Qz Q ∧ ContX K F Pi Ez (fun c d H' => W c d σ H')
def LA (K : PySem.W.Frag) (W : WX) (z : ZTA) : TA := fun σ H Q => ∃ F ρ m Pi Qz Ez, Zm K F m Pi H ∧ EnvR K Pi ρ σ ∧ z ρ m Qz Ez ∧ ContL K F Pi Qz Q ∧ ContX K F Pi Ez (fun c d H' => W c d σ H')
def LS (K : PySem.W.Frag) (W : WX) (z : ZTS) : TS := fun D σ H => ∃ F ρ m Pi Dz, Zm K F m Pi H ∧ EnvR K Pi ρ σ ∧ z Dz ρ m ∧ ContS K F Pi Dz.nx D.nx ∧ ContE K F Pi Dz.rt D.rt ∧ ContW K F Pi Dz.ex W

theorem pe_imp {X : Cx} {e : Expr} {t t' : TE} (h : PE X e t) (i : ∀ σ H Q, t' σ H Q → t σ H Q) : PE X e t' := ⟨fun pins s σ H Q I q => h.run pins s σ H Q I (i σ H Q q)⟩
theorem pt_imp {X : Cx} {e : Expr} {t t' : TT} (h : PT X e t) (i : ∀ σ H Q, t' σ H Q → t σ H Q) : PT X e t' := ⟨fun pins s σ H Q I q => h.run pins s σ H Q I (i σ H Q q)⟩
theorem pw_imp {X : Cx} {e : Expr} {t t' : TT} (h : PW X e t) (i : ∀ σ H Q, t' σ H Q → t σ H Q) : PW X e t' := ⟨fun wh pins s σ H Q I q => h.run wh pins s σ H Q I (i σ H Q q)⟩
theorem pa_imp {X : Cx} {e : List Expr} {t t' : TA} (h : PA X e t) (i : ∀ σ H Q, t' σ H Q → t σ H Q) : PA X e t' := ⟨fun pos pins s σ H Q I q => h.run pos pins s σ H Q I (i σ H Q q)⟩
theorem ps_imp {X : Cx} {e : Stmt} {t t' : TS} (h : PS X e t) (i : ∀ D σ H, t' D σ H → t D σ H) : PS X e t' := ⟨fun pins s σ H D I q => h.run pins s σ H D I (i D σ H q)⟩
theorem pss_imp {X : Cx} {e : List Stmt} {t t' : TS} (h : PSs X e t) (i : ∀ D σ H, t' D σ H → t D σ H) : PSs X e t' := ⟨fun pins s σ H D I q => h.run pins s σ H D I (i D σ H q)⟩
end Zed
end
section
set_option maxHeartbeats 4000000
/-! Zed2: expressions. -/
namespace Zed
open PySem PySem.Spec PyProof.Rows L2

/-! ### combinators -/
def zv (i : Nat) : ZTE := fun ρ m Q _ => match ρ[i]? with
  | some (some d) => Q d m
  | _ => False
def zc (d : D) : ZTE := fun _ m Q _ => Q d m
abbrev ZOp := D → D → Mu → QE → Prop
abbrev ZUn := D → Mu → QE → Prop
abbrev ZCl := List D → Mu → QE → Prop
def zop (o : ZOp) (a b : ZTE) : ZTE := fun ρ m Q E => a ρ m (fun x m1 => b ρ m1 (fun y m2 => o x y m2 Q) E) E
def zun (o : ZUn) (a : ZTE) : ZTE := fun ρ m Q E => a ρ m (fun x m1 => o x m1 Q) E
def anil : ZTA := fun _ m Q _ => Q [] m
def acons (a : ZTE) (t : ZTA) : ZTA := fun ρ m Q E => a ρ m (fun x m1 => t ρ m1 (fun xs m2 => Q (x :: xs) m2) E) E
def ztup (t : ZTA) : ZTE := fun ρ m Q E => t ρ m (fun xs m1 => xs.length ≤ sizeLine ∧ Q (.tup xs) m1) E
/-- a list that never changes -/
def zfl (t : ZTA) : ZTE := fun ρ m Q E => t ρ m (fun xs m1 => xs.length ≤ sizeLine ∧ Q (.fl xs) m1) E
/-- a list that may change -/
def zlst (t : ZTA) : ZTE := fun ρ m Q E => t ρ m (fun xs m1 => xs.length ≤ sizeLine ∧ ∀ p, m1 p = none → Q (.ref p) (updM m1 p (.lst xs))) E
def zbl (t : ZTA) (c : ZCl) : ZTE := fun ρ m Q E => t ρ m (fun xs m1 => c xs m1 Q) E
def zcall (c : ZSp) (t : ZTA) : ZTE := fun ρ m Q E => t ρ m (fun xs m1 => c xs m1 Q E) E
/-- tests -/
def truD : D → Mu → Option Bool
  | .non, _ => some false
  | .bl b, _ => some b
  | .int i, _ => some (i != 0)
  | .str x, _ => if x.length ≤ sizeLine then some ((x.length : Int) != 0) else none
  | .tup xs, _ => some (!xs.isEmpty)
  | .fl xs, _ => some (!xs.isEmpty)
  | .ref a, m => match m a with
    | some (.lst xs) => some (!xs.isEmpty)
    | some (.dct xs) => some (!xs.isEmpty)
    | _ => none
  | _, _ => none
def tvl (a : ZTE) : ZTT := fun ρ m Q E => a ρ m (fun x m1 => match x with
  | .bl b => Q b m1
  | _ => False) E
def ttr (a : ZTE) : ZTT := fun ρ m Q E => a ρ m (fun x m1 => match truD x m1 with
  | some b => Q b m1
  | none => False) E
def tand (a b : ZTT) : ZTT := fun ρ m Q E => a ρ m (fun c m1 => if c = true then b ρ m1 Q E else Q false m1) E
def tor (a b : ZTT) : ZTT := fun ρ m Q E => a ρ m (fun c m1 => if c = true then Q true m1 else b ρ m1 Q E) E
def tnot (a : ZTT) : ZTT := fun ρ m Q E => a ρ m (fun c m1 => Q (!c) m1) E
/-- as values -/
def zand (a b : ZTE) : ZTE := fun ρ m Q E => a ρ m (fun x m1 => match x with
  | .bl c => if c = true then b ρ m1 Q E else Q (.bl false) m1
  | _ => False) E
def zor (a b : ZTE) : ZTE := fun ρ m Q E => a ρ m (fun x m1 => match x with
  | .bl c => if c = true then Q (.bl true) m1 else b ρ m1 Q E
  | _ => False) E
def zorT (a b : ZTE) : ZTE := fun ρ m Q E => a ρ m (fun x m1 => match truD x m1 with
  | some c => if c = true then Q x m1 else b ρ m1 Q E
  | none => False) E
def znot (a : ZTE) : ZTE := fun ρ m Q E => a ρ m (fun x m1 => match truD x m1 with
  | some c => Q (.bl (!c)) m1
  | none => False) E
def zif (t : ZTT) (a b : ZTE) : ZTE := fun ρ m Q E => t ρ m (fun c m1 => if c = true then a ρ m1 Q E else b ρ m1 Q E) E
/-- a chain of two comparisons -/
def zchn (o o' : ZOp) (a b c : ZTE) : ZTE := fun ρ m Q E => a ρ m (fun x m1 => b ρ m1 (fun y m2 => o x y m2 fun z m3 => match z with
  | .bl k => if k = true then c ρ m3 (fun w m4 => o' y w m4 Q) E else Q (.bl false) m3
  | _ => False) E) E

/-! ### from the values' rules -/
def RS (K : PySem.W.Frag) (o : ZOp) : R2 := fun x y H Q => ∃ d e F m Pi Qz, Zm K F m Pi H ∧ Rep K Pi d x ∧ Rep K Pi e y ∧ o d e m Qz ∧ ContE K F Pi Qz Q
def RU (K : PySem.W.Frag) (o : ZUn) : V → Hp → VK → Prop := fun x H Q => ∃ d F m Pi Qz, Zm K F m Pi H ∧ Rep K Pi d x ∧ o d m Qz ∧ ContE K F Pi Qz Q
def RC (K : PySem.W.Frag) (o : ZCl) : List V → Hp → VK → Prop := fun xs H Q => ∃ ds F m Pi Qz, Zm K F m Pi H ∧ Reps K Pi ds xs ∧ o ds m Qz ∧ ContE K F Pi Qz Q
theorem PLe.bot {Q : Hp} : PLe (fun _ => none) Q := fun _ _ z => by
  have z' : (none : Option HO) = some _ := z
  cases z'
section
variable {X : Cx} {W : WX} {a b c e : Expr} {pos p : Pos} {za zb zc' ze : ZTE} {es : List Expr} {t : ZTA}
theorem r_v {x : Str} (i : Nat) (hN : X.N[i]? = some x := by rfl) (hv : Vis X.env.scope x := by first | exact Or.inl rfl | exact Or.inr (Or.inl rfl) | exact Or.inr (Or.inr rfl)) (hd : (x == ("__debug__" : Str)) = false := by decide)
    (hcd : (x == ("__classdict__" : Str)) = false := by decide) : PE X (.Name x pos) (LE X.K W (zv i)) := by
  refine pe_imp (pe_var hN hv hd hcd) fun σ H Q ⟨F, ρ, m, Pi, Qz, Ez, hz, he, h, k, _⟩ => ?_
  unfold zv at h
  cases q : ρ[i]? with
  | none => rw [q] at h; exact h.elim
  | some o =>
    cases o with
    | none => rw [q] at h; exact h.elim
    | some d =>
      rw [q] at h
      obtain ⟨v, h1, h2⟩ := he.2 i d q
      exact ⟨v, h1, k d m Pi v H PLe.refl hz h2 h⟩
theorem r_int {i j} : PE X (.Constant (.int i) j pos) (LE X.K W (zc (.int i))) := pe_imp pe_int fun σ H Q ⟨F, ρ, m, Pi, Qz, Ez, hz, he, h, k, _⟩ => k _ m Pi _ H PLe.refl hz .int h
theorem r_bl {i j} : PE X (.Constant (.bool i) j pos) (LE X.K W (zc (.bl i))) := pe_imp pe_bl fun σ H Q ⟨F, ρ, m, Pi, Qz, Ez, hz, he, h, k, _⟩ => k _ m Pi _ H PLe.refl hz .bl h
theorem r_non {j} : PE X (.Constant .none j pos) (LE X.K W (zc .non)) := pe_imp pe_non fun σ H Q ⟨F, ρ, m, Pi, Qz, Ez, hz, he, h, k, _⟩ => k _ m Pi _ H PLe.refl hz .non h
theorem r_str {i j} : PE X (.Constant (.str i) j pos) (LE X.K W (zc (.str i))) := pe_imp pe_str fun σ H Q ⟨F, ρ, m, Pi, Qz, Ez, hz, he, h, k, _⟩ => k _ m Pi _ H PLe.refl hz .str h
/-- what a name of the module stands for -/
def GVal (K : PySem.W.Frag) (mg : Str → Option Value) (x : Str) (d : D) : Prop := ∃ v u, mg x = some u ∧ RelV v u ∧ Rep K (fun _ => none) d v
theorem r_g {x : Str} {d : D} (g : GVal X.K X.mg x d) (hg : Gl X x := by rfl) (hd : (x == ("__debug__" : Str)) = false := by decide) : PE X (.Name x pos) (LE X.K W (zc d)) := by
  obtain ⟨v, u, g1, g2, g3⟩ := g
  exact pe_imp (pe_glob hg g1 g2 hd) fun σ H Q ⟨F, ρ, m, Pi, Qz, Ez, hz, he, h, k, _⟩ => k _ m Pi _ H PLe.refl hz (g3.mono PLe.bot) h
theorem r_bltn {x : Str} {n : String} (hm : X.mg x = none) (hv : bootBuiltins x = some (.type n)) (hg : Gl X x := by rfl) (hn : x ≠ "__name__" := by decide) (hd : (x == ("__debug__" : Str)) = false := by decide) : PE X (.Name x pos) (LE X.K W (zc (.ty n))) :=
  pe_imp (pe_bltn (v := .ty n) hg hm hv rfl hn hd) fun σ H Q ⟨F, ρ, m, Pi, Qz, Ez, hz, he, h, k, _⟩ => k _ m Pi _ H PLe.refl hz .ty h

theorem r_op {op : Operator} {o : ZOp} (ho : OpR X (binaryOp op) (RS X.K o)) (ha : PE X a (LE X.K W za)) (hb : PE X b (LE X.K W zb)) : PE X (.BinOp a op b pos) (LE X.K W (zop o za zb)) := by
  refine pe_imp (pe_op ho ha hb) fun σ H Q ⟨F, ρ, m, Pi, Qz, Ez, hz, he, h, k, kx⟩ => ?_
  exact ⟨F, ρ, m, Pi, _, Ez, hz, he, h, fun x m1 P1 v H1 l1 z1 r1 q1 => ⟨F, ρ, m1, P1, _, Ez, z1, he.mono l1, q1, fun y m2 P2 u H2 l2 z2 r2 q2 => ⟨x, y, F, m2, P2, Qz, z2, r1.mono l2, r2, q2, k.mono (l1.trans l2)⟩, kx.mono l1⟩, kx⟩
theorem r_cmp {op : CmpOp} {o : ZOp} (ho : OpR X (compareOp op) (RS X.K o)) (ha : PE X a (LE X.K W za)) (hb : PE X b (LE X.K W zb)) (hm : behindInMarks op b = false := by rfl) : PE X (.Compare a [op] [b] pos) (LE X.K W (zop o za zb)) := by
  refine pe_imp (pe_cmpR ho ha hb hm) fun σ H Q ⟨F, ρ, m, Pi, Qz, Ez, hz, he, h, k, kx⟩ => ?_
  exact ⟨F, ρ, m, Pi, _, Ez, hz, he, h, fun x m1 P1 v H1 l1 z1 r1 q1 => ⟨F, ρ, m1, P1, _, Ez, z1, he.mono l1, q1, fun y m2 P2 u H2 l2 z2 r2 q2 => ⟨x, y, F, m2, P2, Qz, z2, r1.mono l2, r2, q2, k.mono (l1.trans l2)⟩, kx.mono l1⟩, kx⟩
theorem r_chn {op op' : CmpOp} {o o' : ZOp} (ho : OpR X (compareOp op) (RS X.K o)) (ho' : OpR X (compareOp op') (RS X.K o')) (ha : PE X a (LE X.K W za)) (hb : PE X b (LE X.K W zb)) (hc : PE X c (LE X.K W zc')) (hm : lastMarks [op, op'] [b, c] = false := by with_unfolding_all rfl) :
    PE X (.Compare a [op, op'] [b, c] pos) (LE X.K W (zchn o o' za zb zc')) := by
  refine pe_imp (pe_chain ho ho' ha hb hc hm) fun σ H Q ⟨F, ρ, m, Pi, Qz, Ez, hz, he, h, k, kx⟩ => ?_
  refine ⟨F, ρ, m, Pi, _, Ez, hz, he, h, fun x m1 P1 v H1 l1 z1 r1 q1 => ⟨F, ρ, m1, P1, _, Ez, z1, he.mono l1, q1, fun y m2 P2 u H2 l2 z2 r2 q2 => ⟨x, y, F, m2, P2, _, z2, r1.mono l2, r2, q2, fun d m3 P3 v3 H3 l3 z3 r3 q3 => ?_⟩, kx.mono l1⟩, kx⟩
  cases r3 with
  | bl =>
    rename_i kb
    refine ⟨kb, rfl, ?_⟩
    cases kb with
    | true =>
      simp only [if_true] at q3 ⊢
      exact ⟨F, ρ, m3, P3, _, Ez, z3, (he.mono l1).mono (l2.trans l3), q3, fun w m4 P4 u4 H4 l4 z4 r4 q4 => ⟨y, w, F, m4, P4, Qz, z4, (r2.mono l3).mono l4, r4, q4, k.mono (((l1.trans l2).trans l3).trans l4)⟩, kx.mono ((l1.trans l2).trans l3)⟩
    | false =>
      simp only [Bool.false_eq_true, if_false] at q3 ⊢
      exact k _ m3 P3 _ H3 ((l1.trans l2).trans l3) z3 .bl q3
  | _ => exact q3.elim
theorem r_un {op : UnaryOp} {o : ZUn} (ho : UnR X (unaryOp op) (RU X.K o)) (ha : PE X a (LE X.K W za)) : PE X (.UnaryOp op a pos) (LE X.K W (zun o za)) := by
  refine pe_imp (pe_un ho ha) fun σ H Q ⟨F, ρ, m, Pi, Qz, Ez, hz, he, h, k, kx⟩ => ?_
  exact ⟨F, ρ, m, Pi, _, Ez, hz, he, h, fun x m1 P1 v H1 l1 z1 r1 q1 => ⟨x, F, m1, P1, Qz, z1, r1, q1, k.mono l1⟩, kx⟩
theorem r_anil : PA X [] (LA X.K W anil) := pa_imp pa_nil fun σ H Q ⟨F, ρ, m, Pi, Qz, Ez, hz, he, h, k, _⟩ => k _ m Pi _ H PLe.refl hz .nil h
theorem r_acons (ha : PE X e (LE X.K W ze)) (hr : PA X es (LA X.K W t)) (hs : starEach (e :: es) X.env = (false, eval e X.env) :: starEach es X.env := by rfl) : PA X (e :: es) (LA X.K W (acons ze t)) := by
  refine pa_imp (pa_cons ha hr hs) fun σ H Q ⟨F, ρ, m, Pi, Qz, Ez, hz, he, h, k, kx⟩ => ?_
  exact ⟨F, ρ, m, Pi, _, Ez, hz, he, h, fun x m1 P1 v H1 l1 z1 r1 q1 => ⟨F, ρ, m1, P1, _, Ez, z1, he.mono l1, q1, fun xs m2 P2 vs H2 l2 z2 r2 q2 => k _ m2 P2 _ H2 (l1.trans l2) z2 (.cons (r1.mono l2) r2) q2, kx.mono l1⟩, kx⟩
theorem r_tup {x1} (h : PA X es (LA X.K W t)) : PE X (.Tuple es x1 pos) (LE X.K W (ztup t)) := by
  refine pe_imp (pe_tup h) fun σ H Q ⟨F, ρ, m, Pi, Qz, Ez, hz, he, h, k, kx⟩ => ?_
  refine ⟨F, ρ, m, Pi, _, Ez, hz, he, h, fun xs m1 P1 vs H1 l1 z1 r1 ⟨q1, q2⟩ => ⟨by rw [← r1.length]; exact q1, fun p np => ?_⟩, kx⟩
  obtain ⟨z2, l2⟩ := z1.newPi np (.tup vs)
  exact k _ m1 _ _ _ (l1.trans l2) z2 (.tup (.inl (.inl upd_same)) (r1.mono l2)) q2
theorem r_fl (h : PA X es (LA X.K W t)) : PE X (.List es pos) (LE X.K W (zfl t)) := by
  refine pe_imp (pe_lst h) fun σ H Q ⟨F, ρ, m, Pi, Qz, Ez, hz, he, h, k, kx⟩ => ?_
  refine ⟨F, ρ, m, Pi, _, Ez, hz, he, h, fun xs m1 P1 vs H1 l1 z1 r1 ⟨q1, q2⟩ => ⟨by rw [← r1.length]; exact q1, fun p np => ?_⟩, kx⟩
  obtain ⟨z2, l2⟩ := z1.newPi np (.lst vs)
  exact k _ m1 _ _ _ (l1.trans l2) z2 (.fl (.inl (.inl upd_same)) (r1.mono l2)) q2
theorem r_lst (h : PA X es (LA X.K W t)) : PE X (.List es pos) (LE X.K W (zlst t)) := by
  refine pe_imp (pe_lst h) fun σ H Q ⟨F, ρ, m, Pi, Qz, Ez, hz, he, h, k, kx⟩ => ?_
  refine ⟨F, ρ, m, Pi, _, Ez, hz, he, h, fun xs m1 P1 vs H1 l1 z1 r1 ⟨q1, q2⟩ => ⟨by rw [← r1.length]; exact q1, fun p np => ?_⟩, kx⟩
  exact k _ _ P1 _ _ l1 (z1.newMu (u := .lst xs) np ⟨vs, upd_same, r1⟩) .ref (q2 p (z1.free np).1)
/-- a built-in by its name -/
theorem r_blt {x : Str} {id : String} {o : ZCl} (hc : CallR X (.builtin id) (RC X.K o)) (hm : X.mg x = none) (hv : bootBuiltins x = some (.builtin id)) (ha : PA X (e :: es) (LA X.K W t)) (hg : Gl X x := by rfl) (hn : x ≠ "__name__" := by decide) (hdb : (x == ("__debug__" : Str)) = false := by decide)
    (he : starEach (e :: es) X.env = (false, eval e X.env) :: starEach es X.env := by rfl) (hpl : (backTo pos (starEach es X.env)).any (·.1) = false := by rfl) : PE X (.Call (.Name x p) (e :: es) [] pos) (LE X.K W (zbl t o)) := by
  refine pe_imp (pe_callB hc hg hm hv ha hn hdb he hpl) fun σ H Q ⟨F, ρ, m, Pi, Qz, Ez, hz, he, h, k, kx⟩ => ?_
  exact ⟨F, ρ, m, Pi, _, Ez, hz, he, h, fun xs m1 P1 vs H1 l1 z1 r1 q1 => ⟨xs, F, m1, P1, Qz, z1, r1, q1, k.mono l1⟩, kx⟩
theorem r_bty {x : Str} {id : String} {o : ZCl} (hc : CallR X (.type id) (RC X.K o)) (hm : X.mg x = none) (hv : bootBuiltins x = some (.type id)) (ha : PA X (e :: es) (LA X.K W t)) (hg : Gl X x := by rfl) (hn : x ≠ "__name__" := by decide) (hdb : (x == ("__debug__" : Str)) = false := by decide)
    (he : starEach (e :: es) X.env = (false, eval e X.env) :: starEach es X.env := by rfl) (hpl : (backTo pos (starEach es X.env)).any (·.1) = false := by rfl) : PE X (.Call (.Name x p) (e :: es) [] pos) (LE X.K W (zbl t o)) := by
  refine pe_imp (pe_callTy hc hg hm hv ha hn hdb he hpl) fun σ H Q ⟨F, ρ, m, Pi, Qz, Ez, hz, he, h, k, kx⟩ => ?_
  exact ⟨F, ρ, m, Pi, _, Ez, hz, he, h, fun xs m1 P1 vs H1 l1 z1 r1 q1 => ⟨xs, F, m1, P1, Qz, z1, r1, q1, k.mono l1⟩, kx⟩

/-! ### tests -/
theorem tru_of {K : PySem.W.Frag} {F : Hp} {m : Mu} {Pi H : Hp} (z : Zm K F m Pi H) {d : D} {v : V} {k : Bool} (r : Rep K Pi d v) (h : truD d m = some k) : TruV K v H k := by
  cases r with
  | non => exact (Option.some.inj h).symm
  | bl => exact (Option.some.inj h).symm
  | int => exact (Option.some.inj h).symm
  | str =>
    rename_i x
    simp only [truD] at h
    by_cases hx : x.length ≤ sizeLine
    · rw [if_pos hx] at h
      exact ⟨hx, (Option.some.inj h).symm⟩
    · rw [if_neg hx] at h; cases h
  | ty => cases h
  | obj _ _ => cases h
  | tup hs rs =>
    rename_i a vs ds
    refine .inr (.inl ⟨vs, z.sub.sqt hs, ?_⟩)
    have e := rs.length
    have h' := Option.some.inj h
    rw [← h']
    cases ds <;> cases vs <;> first | rfl | (simp at e)
  | fl hs rs =>
    rename_i a vs ds
    refine .inl ⟨vs, z.sub.sql hs, ?_⟩
    have e := rs.length
    have h' := Option.some.inj h
    rw [← h']
    cases ds <;> cases vs <;> first | rfl | (simp at e)
  | ref =>
    rename_i a
    simp only [truD] at h
    cases q : m a with
    | none => rw [q] at h; cases h
    | some o =>
      rw [q] at h
      have k := z.ok a o q
      cases o with
      | lst ds =>
        obtain ⟨vs, e1, rs⟩ := k
        refine .inl ⟨vs, .inl (.inl e1), ?_⟩
        have e := rs.length
        have h' := Option.some.inj h
        rw [← h']
        cases ds <;> cases vs <;> first | rfl | (simp at e)
      | dct ds =>
        obtain ⟨vs, e1, rs⟩ := k
        refine .inr (.inr ⟨vs, e1, ?_⟩)
        have h' := Option.some.inj h
        rw [← h']
        cases rs <;> rfl
      | ins C fs => cases h
theorem r_tvl (h : PE X e (LE X.K W ze)) (he : ∀ whole, isTrue e X.env whole = (do let v ← whole; standAt e.pos; holding [v] (truthy v)) := by intro _; rfl) : PT X e (LT X.K W (tvl ze)) := by
  refine pt_imp (pt_val h he) fun σ H Q ⟨F, ρ, m, Pi, Qz, Ez, hz, he, h, k, kx⟩ => ?_
  refine ⟨F, ρ, m, Pi, _, Ez, hz, he, h, fun x m1 P1 v H1 l1 z1 r1 q1 => ?_, kx⟩
  cases r1 with
  | bl => exact ⟨_, rfl, k _ m1 P1 H1 l1 z1 q1⟩
  | _ => exact q1.elim
theorem r_ttr (h : PE X e (LE X.K W ze)) (he : ∀ whole, isTrue e X.env whole = (do let v ← whole; standAt e.pos; holding [v] (truthy v)) := by intro _; rfl) : PT X e (LT X.K W (ttr ze)) := by
  refine pt_imp (pt_truth h he) fun σ H Q ⟨F, ρ, m, Pi, Qz, Ez, hz, he, h, k, kx⟩ => ?_
  refine ⟨F, ρ, m, Pi, _, Ez, hz, he, h, fun x m1 P1 v H1 l1 z1 r1 q1 => ?_, kx⟩
  dsimp only at q1
  cases q : truD x m1 with
  | none => rw [q] at q1; exact q1.elim
  | some b =>
    rw [q] at q1
    exact ⟨b, tru_of z1 r1 q, k _ m1 P1 H1 l1 z1 q1⟩
variable {ta tb : ZTT} {rest : List Expr}
theorem r_and1 (ha : PT X a (LT X.K W ta)) : PW X (.BoolOp .And [a] pos) (LT X.K W ta) := pw_and1 ha
theorem r_or1 (ha : PT X a (LT X.K W ta)) : PW X (.BoolOp .Or [a] pos) (LT X.K W ta) := pw_or1 ha
theorem r_tand (ha : PT X a (LT X.K W ta)) (hb : PW X (.BoolOp .And (b :: rest) pos) (LT X.K W tb)) : PW X (.BoolOp .And (a :: b :: rest) pos) (LT X.K W (tand ta tb)) := by
  refine pw_imp (pw_and ha hb) fun σ H Q ⟨F, ρ, m, Pi, Qz, Ez, hz, he, h, k, kx⟩ => ?_
  refine ⟨F, ρ, m, Pi, _, Ez, hz, he, h, fun c m1 P1 H1 l1 z1 q1 => ?_, kx⟩
  cases c with
  | true => exact ⟨F, ρ, m1, P1, Qz, Ez, z1, he.mono l1, q1, k.mono l1, kx.mono l1⟩
  | false => exact k _ m1 P1 H1 l1 z1 q1
theorem r_tor (ha : PT X a (LT X.K W ta)) (hb : PW X (.BoolOp .Or (b :: rest) pos) (LT X.K W tb)) : PW X (.BoolOp .Or (a :: b :: rest) pos) (LT X.K W (tor ta tb)) := by
  refine pw_imp (pw_or ha hb) fun σ H Q ⟨F, ρ, m, Pi, Qz, Ez, hz, he, h, k, kx⟩ => ?_
  refine ⟨F, ρ, m, Pi, _, Ez, hz, he, h, fun c m1 P1 H1 l1 z1 q1 => ?_, kx⟩
  cases c with
  | true => exact k _ m1 P1 H1 l1 z1 q1
  | false => exact ⟨F, ρ, m1, P1, Qz, Ez, z1, he.mono l1, q1, k.mono l1, kx.mono l1⟩
theorem r_tnot (ha : PT X a (LT X.K W ta)) : PT X (.UnaryOp .Not a pos) (LT X.K W (tnot ta)) := by
  refine pt_imp (pt_not ha) fun σ H Q ⟨F, ρ, m, Pi, Qz, Ez, hz, he, h, k, kx⟩ => ?_
  exact ⟨F, ρ, m, Pi, _, Ez, hz, he, h, fun c m1 P1 H1 l1 z1 q1 => k _ m1 P1 H1 l1 z1 q1, kx⟩
theorem r_one {op} (h : PE X a (LE X.K W za)) : PE X (.BoolOp op [a] pos) (LE X.K W za) := pe_one h
theorem r_and (ha : PE X a (LE X.K W za)) (hb : PE X (.BoolOp .And (b :: rest) pos) (LE X.K W zb)) : PE X (.BoolOp .And (a :: b :: rest) pos) (LE X.K W (zand za zb)) := by
  refine pe_imp (pe_and ha hb) fun σ H Q ⟨F, ρ, m, Pi, Qz, Ez, hz, he, h, k, kx⟩ => ?_
  refine ⟨F, ρ, m, Pi, _, Ez, hz, he, h, fun x m1 P1 v H1 l1 z1 r1 q1 => ?_, kx⟩
  cases r1 with
  | bl =>
    rename_i c
    refine ⟨c, rfl, ?_⟩
    cases c with
    | true => exact ⟨F, ρ, m1, P1, Qz, Ez, z1, he.mono l1, q1, k.mono l1, kx.mono l1⟩
    | false => exact k _ m1 P1 _ H1 l1 z1 .bl q1
  | _ => exact q1.elim
theorem r_or (ha : PE X a (LE X.K W za)) (hb : PE X (.BoolOp .Or (b :: rest) pos) (LE X.K W zb)) : PE X (.BoolOp .Or (a :: b :: rest) pos) (LE X.K W (zor za zb)) := by
  refine pe_imp (pe_or ha hb) fun σ H Q ⟨F, ρ, m, Pi, Qz, Ez, hz, he, h, k, kx⟩ => ?_
  refine ⟨F, ρ, m, Pi, _, Ez, hz, he, h, fun x m1 P1 v H1 l1 z1 r1 q1 => ?_, kx⟩
  cases r1 with
  | bl =>
    rename_i c
    refine ⟨c, rfl, ?_⟩
    cases c with
    | true => exact k _ m1 P1 _ H1 l1 z1 .bl q1
    | false => exact ⟨F, ρ, m1, P1, Qz, Ez, z1, he.mono l1, q1, k.mono l1, kx.mono l1⟩
  | _ => exact q1.elim
theorem r_orT (ha : PE X a (LE X.K W za)) (hb : PE X (.BoolOp .Or (b :: rest) pos) (LE X.K W zb)) : PE X (.BoolOp .Or (a :: b :: rest) pos) (LE X.K W (zorT za zb)) := by
  refine pe_imp (pe_orT ha hb) fun σ H Q ⟨F, ρ, m, Pi, Qz, Ez, hz, he, h, k, kx⟩ => ?_
  refine ⟨F, ρ, m, Pi, _, Ez, hz, he, h, fun x m1 P1 v H1 l1 z1 r1 q1 => ?_, kx⟩
  dsimp only at q1
  cases q : truD x m1 with
  | none => rw [q] at q1; exact q1.elim
  | some c =>
    rw [q] at q1
    refine ⟨c, tru_of z1 r1 q, ?_⟩
    cases c with
    | true => exact k _ m1 P1 _ H1 l1 z1 r1 q1
    | false => exact ⟨F, ρ, m1, P1, Qz, Ez, z1, he.mono l1, q1, k.mono l1, kx.mono l1⟩
theorem r_not (ha : PE X a (LE X.K W za)) : PE X (.UnaryOp .Not a pos) (LE X.K W (znot za)) := by
  refine pe_imp (pe_notT ha) fun σ H Q ⟨F, ρ, m, Pi, Qz, Ez, hz, he, h, k, kx⟩ => ?_
  refine ⟨F, ρ, m, Pi, _, Ez, hz, he, h, fun x m1 P1 v H1 l1 z1 r1 q1 => ?_, kx⟩
  dsimp only at q1
  cases q : truD x m1 with
  | none => rw [q] at q1; exact q1.elim
  | some c =>
    rw [q] at q1
    exact ⟨c, tru_of z1 r1 q, k _ m1 P1 _ H1 l1 z1 .bl q1⟩
theorem r_if (hc : PT X c (LT X.K W ta)) (ha : PE X a (LE X.K W za)) (hb : PE X b (LE X.K W zb)) : PE X (.IfExp c a b pos) (LE X.K W (zif ta za zb)) := by
  refine pe_imp (pe_ifExp hc ha hb) fun σ H Q ⟨F, ρ, m, Pi, Qz, Ez, hz, he, h, k, kx⟩ => ?_
  refine ⟨F, ρ, m, Pi, _, Ez, hz, he, h, fun c m1 P1 H1 l1 z1 q1 => ?_, kx⟩
  cases c with
  | true => exact ⟨F, ρ, m1, P1, Qz, Ez, z1, he.mono l1, q1, k.mono l1, kx.mono l1⟩
  | false => exact ⟨F, ρ, m1, P1, Qz, Ez, z1, he.mono l1, q1, k.mono l1, kx.mono l1⟩
end
end Zed
end
section
set_option maxHeartbeats 4000000
/-! Zed3: operators, built-ins, subscripts, methods. -/
namespace Zed
open PySem PySem.Spec PyProof.Rows L2

def oAdd : ZOp
  | .int i, .int j, m, Q => Q (.int (i + j)) m
  | .str x, .str y, m, Q => x.length + y.length ≤ sizeLine ∧ Q (.str (x ++ y)) m
  | .tup xs, .tup ys, m, Q => xs.length + ys.length ≤ sizeLine ∧ Q (.tup (xs ++ ys)) m
  | .int i, .bl k, m, Q => Q (.int (i + b2i k)) m
  | .ref a, .ref b, m, Q => match m a, m b with
    | some (.lst xs), some (.lst ys) => xs.length + ys.length ≤ sizeLine ∧ ∀ p, m p = none → Q (.ref p) (updM m p (.lst (xs ++ ys)))
    | _, _ => False
  | _, _, _, _ => False
def oInt (C : Int → Int → Prop) (f : Int → Int → Int) : ZOp
  | .int i, .int j, m, Q => C i j ∧ Q (.int (f i j)) m
  | _, _, _, _ => False
def oSub : ZOp
  | .int i, .int j, m, Q => Q (.int (i - j)) m
  | _, _, _, _ => False
abbrev oMul : ZOp := oInt CMulW fun i j => i * j
/-- floor division and rest by a divisor above 0 -/
abbrev oFdv : ZOp := oInt CDivW fun i j => i / j
abbrev oMod : ZOp := oInt (fun _ j => 0 < j) fun i j => i % j
abbrev oModN : ZOp := oInt (fun _ j => j ≠ 0) fun i j => i.fmod j
abbrev oPow : ZOp := oInt CPow fun i j => i ^ j.toNat
abbrev oShl : ZOp := oInt CShl fun i j => i * 2 ^ j.toNat
abbrev oShr : ZOp := oInt (fun _ j => 0 ≤ j) fun i j => i / 2 ^ j.toNat
abbrev oBand : ZOp := oInt (fun _ _ => True) fun i j => Builtin.bitAnd i j
def oLt' (f : Int → Int → Bool) : ZOp
  | .int i, .int j, m, Q => Q (.bl (f i j)) m
  | _, _, _, _ => False
abbrev oLt : ZOp := oLt' fun i j => decide (i < j)
abbrev oLe : ZOp := oLt' fun i j => decide (i ≤ j)
abbrev oGt : ZOp := oLt' fun i j => decide (j < i)
abbrev oGe : ZOp := oLt' fun i j => decide (j ≤ i)
mutual
def D.toP : D → PyData
  | .non => .none
  | .bl b => .bool b
  | .int i => .int i
  | .str x => .str x
  | .tup xs => .tuple (toPs xs)
  | .fl xs => .list (toPs xs)
  | .ty _ => .dict []
  | .ref _ => .dict []
  | .obj _ _ => .dict []
def toPs : List D → List PyData
  | [] => []
  | x :: xs => D.toP x :: toPs xs
end
def rsD (m : Mu) : D → D
  | .ref a => match m a with
    | some (.lst xs) => .fl xs
    | _ => .ref a
  | d => d
def oEq : ZOp
  | .int i, .int j, m, Q => Q (.bl (decide (i = j))) m
  | d, e, m, Q => SeqAt.shaped (rsD m d).toP = true ∧ SeqAt.shaped (rsD m e).toP = true ∧ Q (.bl (PyData.eqv (rsD m d).toP (rsD m e).toP)) m
def oNe : ZOp
  | .int i, .int j, m, Q => Q (.bl (!decide (i = j))) m
  | d, e, m, Q => SeqAt.shaped (rsD m d).toP = true ∧ SeqAt.shaped (rsD m e).toP = true ∧ Q (.bl (!PyData.eqv (rsD m d).toP (rsD m e).toP)) m
/-- x is None, x is True where x is a truth -/
def isNon : D → Bool
  | .non => true
  | _ => false
def oIs : ZOp
  | d, .non, m, Q => Q (.bl (isNon d)) m
  | .bl a, .bl b, m, Q => Q (.bl (decide (a = b))) m
  | _, _, _, _ => False
def oIsNot : ZOp
  | d, .non, m, Q => Q (.bl (!isNon d)) m
  | .bl a, .bl b, m, Q => Q (.bl (!decide (a = b))) m
  | _, _, _, _ => False

theorem dec_int' {i j : Int} : decide (V.int i = V.int j) = decide (i = j) := by
  by_cases h : i = j
  · subst h; simp
  · rw [decide_eq_false h, decide_eq_false fun e => h (V.int.inj e)]
section
variable {X : Cx}
theorem fin_int {K : PySem.W.Frag} {F Pi H : Hp} {m : Mu} {Qz : QE} {Q : VK} {i : Int} (k : ContE K F Pi Qz Q) (z : Zm K F m Pi H) (h : Qz (.int i) m) : Q (.int i) H := k _ m Pi _ H PLe.refl z .int h
theorem fin_bl {K : PySem.W.Frag} {F Pi H : Hp} {m : Mu} {Qz : QE} {Q : VK} {i : Bool} (k : ContE K F Pi Qz Q) (z : Zm K F m Pi H) (h : Qz (.bl i) m) : Q (.bl i) H := k _ m Pi _ H PLe.refl z .bl h
theorem fin_str {K : PySem.W.Frag} {F Pi H : Hp} {m : Mu} {Qz : QE} {Q : VK} {i : Str} (k : ContE K F Pi Qz Q) (z : Zm K F m Pi H) (h : Qz (.str i) m) : Q (.str i) H := k _ m Pi _ H PLe.refl z .str h
theorem fin_tup {K : PySem.W.Frag} {F Pi H : Hp} {m : Mu} {Qz : QE} {Q : VK} {ds : List D} {vs : List V} {p : Addr} (k : ContE K F Pi Qz Q) (z : Zm K F m Pi H) (r : Reps K Pi ds vs) (np : H p = none) (h : Qz (.tup ds) m) : Q (.ref p) (upd H p (.tup vs)) := by
  obtain ⟨z2, l2⟩ := z.newPi np (.tup vs)
  exact k _ m _ _ _ l2 z2 (.tup (.inl (.inl upd_same)) (r.mono l2)) h
theorem fin_fl {K : PySem.W.Frag} {F Pi H : Hp} {m : Mu} {Qz : QE} {Q : VK} {ds : List D} {vs : List V} {p : Addr} (k : ContE K F Pi Qz Q) (z : Zm K F m Pi H) (r : Reps K Pi ds vs) (np : H p = none) (h : Qz (.fl ds) m) : Q (.ref p) (upd H p (.lst vs)) := by
  obtain ⟨z2, l2⟩ := z.newPi np (.lst vs)
  exact k _ m _ _ _ l2 z2 (.fl (.inl (.inl upd_same)) (r.mono l2)) h
theorem fin_lst {K : PySem.W.Frag} {F Pi H : Hp} {m : Mu} {Qz : QE} {Q : VK} {ds : List D} {vs : List V} {p : Addr} (k : ContE K F Pi Qz Q) (z : Zm K F m Pi H) (r : Reps K Pi ds vs) (np : H p = none) (h : ∀ p, m p = none → Qz (.ref p) (updM m p (.lst ds))) : Q (.ref p) (upd H p (.lst vs)) :=
  k _ _ Pi _ _ PLe.refl (z.newMu (u := .lst ds) np ⟨vs, upd_same, r⟩) .ref (h p (z.free np).1)
theorem fin_same {K : PySem.W.Frag} {F Pi H : Hp} {m : Mu} {Qz : QE} {Q : VK} {d : D} {v : V} (k : ContE K F Pi Qz Q) (z : Zm K F m Pi H) (r : Rep K Pi d v) (h : Qz d m) : Q v H := k _ m Pi _ H PLe.refl z r h

theorem op_of_int {f : Value → Value → Sem Value} {C : Int → Int → Prop} {g : Int → Int → Int} (ho : OpR X f (rI C fun i j => .int (g i j))) : OpR X f (RS X.K (oInt C g)) := by
  intro pins s σ H x y v u Q I rx ry ⟨d, e, F, m, Pi, Qz, z, r1, r2, h, k⟩
  cases r1 with
  | int =>
    cases r2 with
    | int =>
      obtain ⟨h1, h2⟩ := h
      exact ho pins s σ H _ _ v u Q I rx ry ⟨_, _, rfl, rfl, h1, fin_int k z h2⟩
    | _ => exact h.elim
  | _ => exact h.elim
theorem op_of_cmp {f : Value → Value → Sem Value} {g : Int → Int → Bool} (ho : OpR X f (rI0 fun i j => .bl (g i j))) : OpR X f (RS X.K (oLt' g)) := by
  intro pins s σ H x y v u Q I rx ry ⟨d, e, F, m, Pi, Qz, z, r1, r2, h, k⟩
  cases r1 with
  | int =>
    cases r2 with
    | int => exact ho pins s σ H _ _ v u Q I rx ry ⟨_, _, rfl, rfl, fin_bl k z h⟩
    | _ => exact h.elim
  | _ => exact h.elim
theorem oi0 {f : Value → Value → Sem Value} {g : Int → Int → Int} (ho : OpR X f (rI0 fun i j => .int (g i j))) : OpR X f (rI (fun _ _ => True) fun i j => .int (g i j)) := by
  intro pins s σ H x y v u Q I rx ry ⟨i, j, e1, e2, _, q⟩
  exact ho pins s σ H x y v u Q I rx ry ⟨i, j, e1, e2, q⟩
theorem o_mul : OpR X (binaryOp .Mult) (RS X.K oMul) := op_of_int op_mulW
theorem o_fdv : OpR X (binaryOp .FloorDiv) (RS X.K oFdv) := op_of_int op_fdivW
theorem o_mod : OpR X (binaryOp .Mod) (RS X.K oMod) := op_of_int op_mod
theorem o_modN : OpR X (binaryOp .Mod) (RS X.K oModN) := op_of_int op_modN
theorem o_pow : OpR X (binaryOp .Pow) (RS X.K oPow) := op_of_int op_pow
theorem o_shl : OpR X (binaryOp .LShift) (RS X.K oShl) := op_of_int op_shlW
theorem o_shr : OpR X (binaryOp .RShift) (RS X.K oShr) := op_of_int op_shr
theorem o_band : OpR X (binaryOp .BitAnd) (RS X.K oBand) := op_of_int (oi0 op_and)
theorem o_sub : OpR X (binaryOp .Sub) (RS X.K oSub) := by
  intro pins s σ H x y v u Q I rx ry ⟨d, e, F, m, Pi, Qz, z, r1, r2, h, k⟩
  cases r1 with
  | int =>
    cases r2 with
    | int => exact op_sub pins s σ H _ _ v u Q I rx ry ⟨_, _, rfl, rfl, fin_int k z h⟩
    | _ => exact h.elim
  | _ => exact h.elim
theorem o_add : OpR X (binaryOp .Add) (RS X.K oAdd) := by
  intro pins s σ H x y v u Q I rx ry ⟨d, e, F, m, Pi, Qz, z, r1, r2, h, k⟩
  cases r1 with
  | int =>
    cases r2 with
    | int => exact op_add pins s σ H _ _ v u Q I rx ry ⟨_, _, rfl, rfl, fin_int k z h⟩
    | bl => exact op_add_ib pins s σ H _ _ v u Q I rx ry ⟨_, _, rfl, rfl, fin_int k z h⟩
    | _ => exact h.elim
  | str =>
    cases r2 with
    | str => exact op_add_str pins s σ H _ _ v u Q I rx ry ⟨_, _, rfl, rfl, h.1, fin_str k z h.2⟩
    | _ => exact h.elim
  | tup h1 q1 =>
    cases r2 with
    | tup h2 q2 =>
      rename_i a vs ds b vs2 ds2
      refine op_catA pins s σ H _ _ v u Q I rx ry ⟨a, b, vs, vs2, rfl, rfl, z.sub.sqt h1, z.sub.sqt h2, by rw [← q1.length, ← q2.length]; exact h.1, fun e => ?_, fun _ e => ?_, fun _ _ p np => ?_⟩
      · subst e
        cases q1
        exact fin_same k z (.tup h2 q2) h.2
      · subst e
        cases q2
        have h' := h.2
        rw [List.append_nil] at h'
        exact fin_same k z (.tup h1 q1) h'
      · exact fin_tup k z (q1.append q2) np h.2
    | _ => exact h.elim
  | ref =>
    cases r2 with
    | ref =>
      rename_i a b
      simp only [oAdd] at h
      cases ea : m a with
      | none => rw [ea] at h; exact h.elim
      | some oa =>
        cases eb : m b with
        | none => rw [ea, eb] at h; cases oa <;> exact h.elim
        | some ob =>
          rw [ea, eb] at h
          cases oa with
          | lst xs =>
            cases ob with
            | lst ys =>
              obtain ⟨vs, g1, q1⟩ := z.ok a _ ea
              obtain ⟨ws, g2, q2⟩ := z.ok b _ eb
              exact op_cat pins s σ H _ _ v u Q I rx ry ⟨a, b, vs, ws, rfl, rfl, g1, g2, by rw [← q1.length, ← q2.length]; exact h.1, fun p np => fin_lst k z (q1.append q2) np h.2⟩
            | _ => exact h.elim
          | _ => exact h.elim
    | _ => exact h.elim
  | _ => exact h.elim
theorem o_lt : OpR X (compareOp .Lt) (RS X.K oLt) := op_of_cmp op_lt
theorem o_le : OpR X (compareOp .LtE) (RS X.K oLe) := op_of_cmp op_le
theorem o_gt : OpR X (compareOp .Gt) (RS X.K oGt) := op_of_cmp op_gt
theorem o_ge : OpR X (compareOp .GtE) (RS X.K oGe) := op_of_cmp op_ge

/-! ### == -/
theorem canLay_dict {l} : PyData.canLay0 (.dict l) = false := by simp [PyData.canLay0]
theorem shaped_dict {l} : SeqAt.shaped (.dict l) = true → False := by
  intro h
  have h1 := (Bool.and_eq_true_iff.mp h).1
  rw [canLay_dict] at h1
  cases h1
mutual
theorem dp_of {K : PySem.W.Frag} {Pi : Hp} : ∀ {d v}, Rep K Pi d v → d.toP.canLay0 = true → Dp K Pi v d.toP
  | _, _, .non, _ => by rw [D.toP]; exact .non
  | _, _, .bl, _ => by rw [D.toP]; exact .bl _
  | _, _, .int, _ => by rw [D.toP]; exact .int _
  | _, _, .str, _ => by rw [D.toP]; exact .str _
  | _, _, .ty, h => by rw [D.toP, canLay_dict] at h; cases h
  | _, _, .ref, h => by rw [D.toP, canLay_dict] at h; cases h
  | _, _, .obj _ _, h => by rw [D.toP, canLay_dict] at h; cases h
  | _, _, .tup hs rs, h => by
    rw [D.toP] at h ⊢
    exact .tup hs (dps_of rs (by simpa only [PyData.canLay0] using h))
  | _, _, .fl hs rs, h => by
    rw [D.toP] at h ⊢
    exact .lst hs (dps_of rs (by simpa only [PyData.canLay0] using h))
theorem dps_of {K : PySem.W.Frag} {Pi : Hp} : ∀ {ds vs}, Reps K Pi ds vs → PyData.canLayAll0 (toPs ds) = true → DpAll K Pi vs (toPs ds)
  | _, _, .nil, _ => by rw [toPs]; exact .nil
  | _, _, .cons r rs, h => by
    rw [toPs] at h ⊢
    simp only [PyData.canLayAll0, Bool.and_eq_true] at h
    exact .cons (dp_of r h.1) (dps_of rs h.2)
end
mutual
theorem Dp.mono' {K : PySem.W.Frag} {P Q : Hp} (l : PLe P Q) : ∀ {v d}, Dp K P v d → Dp K Q v d
  | _, _, .non => .non
  | _, _, .bl _ => .bl _
  | _, _, .int _ => .int _
  | _, _, .str _ => .str _
  | _, _, .lst h r => .lst (l.sql h) (DpAll.mono' l r)
  | _, _, .tup h r => .tup (l.sqt h) (DpAll.mono' l r)
theorem DpAll.mono' {K : PySem.W.Frag} {P Q : Hp} (l : PLe P Q) : ∀ {v d}, DpAll K P v d → DpAll K Q v d
  | _, _, .nil => .nil
  | _, _, .cons h r => .cons (Dp.mono' l h) (DpAll.mono' l r)
end
theorem dp_rs {K : PySem.W.Frag} {F : Hp} {m : Mu} {Pi H : Hp} (z : Zm K F m Pi H) {d : D} {v : V} (r : Rep K Pi d v) (h : SeqAt.shaped (rsD m d).toP = true) : Dp K H v (rsD m d).toP := by
  have hc := SeqAt.canLay_of_shaped h
  cases r with
  | ref =>
    rename_i a
    simp only [rsD] at h hc ⊢
    cases q : m a with
    | none => rw [q] at h; exact (shaped_dict (by simpa only [D.toP] using h)).elim
    | some o =>
      rw [q] at h hc
      cases o with
      | lst xs =>
        obtain ⟨vs, e1, rs⟩ := z.ok a _ q
        simp only [D.toP] at hc ⊢
        exact .lst (.inl (.inl e1)) (DpAll.mono' z.sub (dps_of rs (by simpa only [PyData.canLay0] using hc)))
      | ins C fs => exact (shaped_dict (by simpa only [D.toP] using h)).elim
      | dct kvs => exact (shaped_dict (by simpa only [D.toP] using h)).elim
  | non => exact Dp.mono' z.sub (dp_of .non hc)
  | bl => exact Dp.mono' z.sub (dp_of .bl hc)
  | int => exact Dp.mono' z.sub (dp_of .int hc)
  | str => exact Dp.mono' z.sub (dp_of .str hc)
  | ty => exact Dp.mono' z.sub (dp_of .ty hc)
  | tup a b => exact Dp.mono' z.sub (dp_of (.tup a b) hc)
  | fl a b => exact Dp.mono' z.sub (dp_of (.fl a b) hc)
  | obj a b => exact Dp.mono' z.sub (dp_of (.obj a b) hc)
theorem o_eq (hu : X.A.units + 64 < cLine) : OpR X (compareOp .Eq) (RS X.K oEq) := by
  intro pins s σ H x y v u Q I rx ry ⟨d, e, F, m, Pi, Qz, z, r1, r2, h, k⟩
  have gen : SeqAt.shaped (rsD m d).toP = true ∧ SeqAt.shaped (rsD m e).toP = true ∧ Qz (.bl (PyData.eqv (rsD m d).toP (rsD m e).toP)) m → wpAny (model X.prog X.w) X.A (compareOp .Eq v u) (EP X pins σ Q) X.xe s := fun ⟨h1, h2, h3⟩ =>
    op_eqD hu pins s σ H x y v u Q I rx ry ⟨_, _, dp_rs z r1 h1, dp_rs z r2 h2, h1, h2, fin_bl k z h3⟩
  cases r1 with
  | int =>
    cases r2 with
    | int =>
      refine op_eq pins s σ H _ _ v u Q I rx ry ⟨rfl, fin_bl k z ?_⟩
      rw [dec_int']
      exact h
    | _ => exact gen h
  | _ => exact gen h
theorem o_ne (hu : X.A.units + 64 < cLine) : OpR X (compareOp .NotEq) (RS X.K oNe) := by
  intro pins s σ H x y v u Q I rx ry ⟨d, e, F, m, Pi, Qz, z, r1, r2, h, k⟩
  have gen : SeqAt.shaped (rsD m d).toP = true ∧ SeqAt.shaped (rsD m e).toP = true ∧ Qz (.bl (!PyData.eqv (rsD m d).toP (rsD m e).toP)) m → wpAny (model X.prog X.w) X.A (compareOp .NotEq v u) (EP X pins σ Q) X.xe s := fun ⟨h1, h2, h3⟩ =>
    op_neD hu pins s σ H x y v u Q I rx ry ⟨_, _, dp_rs z r1 h1, dp_rs z r2 h2, h1, h2, fin_bl k z h3⟩
  cases r1 with
  | int =>
    cases r2 with
    | int =>
      refine op_ne pins s σ H _ _ v u Q I rx ry ⟨rfl, fin_bl k z ?_⟩
      rw [dec_int']
      exact h
    | _ => exact gen h
  | _ => exact gen h
theorem isNon_of {K : PySem.W.Frag} {Pi : Hp} {d : D} {v : V} (r : Rep K Pi d v) : decide (v = .non) = isNon d := by
  cases r <;> first | rfl | simp [isNon]
theorem o_is : OpR X (compareOp .Is) (RS X.K oIs) := by
  intro pins s σ H x y v u Q I rx ry ⟨d, e, F, m, Pi, Qz, z, r1, r2, h, k⟩
  cases r2 with
  | non =>
    have h' : Qz (.bl (isNon d)) m := by cases d <;> exact h
    exact op_isN pins s σ H _ _ v u Q I rx ry ⟨rfl, fin_bl k z (by rw [isNon_of r1]; exact h')⟩
  | bl =>
    cases r1 with
    | bl => exact op_isBl pins s σ H _ _ v u Q I rx ry ⟨_, _, rfl, rfl, fin_bl k z h⟩
    | _ => exact h.elim
  | _ => cases r1 <;> exact h.elim
theorem o_isnot : OpR X (compareOp .IsNot) (RS X.K oIsNot) := by
  intro pins s σ H x y v u Q I rx ry ⟨d, e, F, m, Pi, Qz, z, r1, r2, h, k⟩
  cases r2 with
  | non =>
    have h' : Qz (.bl (!isNon d)) m := by cases d <;> exact h
    exact op_notN pins s σ H _ _ v u Q I rx ry ⟨rfl, fin_bl k z (by rw [isNon_of r1]; exact h')⟩
  | bl =>
    cases r1 with
    | bl => exact op_notBl pins s σ H _ _ v u Q I rx ry ⟨_, _, rfl, rfl, fin_bl k z h⟩
    | _ => exact h.elim
  | _ => cases r1 <;> exact h.elim

/-! ### unary -/
def oNeg : ZUn
  | .int i, m, Q => Q (.int (-i)) m
  | _, _, _ => False
theorem o_neg : UnR X (unaryOp .USub) (RU X.K oNeg) := by
  intro pins s σ H x v Q I rx ⟨d, F, m, Pi, Qz, z, r1, h, k⟩
  cases r1 with
  | int => exact un_neg pins s σ H _ v Q I rx ⟨_, rfl, fin_int k z h⟩
  | _ => exact h.elim

/-! ### built-ins -/
def cAbs : ZCl
  | [.int i], m, Q => Q (.int (if i < 0 then -i else i)) m
  | _, _, _ => False
def cMax : ZCl
  | [.int i, .int j], m, Q => Q (.int (if j > i then j else i)) m
  | _, _, _ => False
def cMin : ZCl
  | [.int i, .int j], m, Q => Q (.int (if j < i then j else i)) m
  | _, _, _ => False
def cInt : ZCl
  | [.int i], m, Q => Q (.int i) m
  | [.bl k], m, Q => Q (.int (if k then 1 else 0)) m
  | _, _, _ => False
def cDivmod : ZCl
  | [.int i, .int j], m, Q => CDivP i j ∧ Q (.tup [.int (i / j), .int (i % j)]) m
  | _, _, _ => False
def lenD (m : Mu) : D → Option Nat
  | .str x => if x.length ≤ sizeLine then some x.length else none
  | .tup xs => some xs.length
  | .fl xs => some xs.length
  | .ref a => match m a with
    | some (.lst xs) => some xs.length
    | _ => none
  | _ => none
def cLen : ZCl
  | [d], m, Q => match lenD m d with
    | some n => Q (.int n) m
    | none => False
  | _, _, _ => False
/-- tuple(xs) -/
def cTuple : ZCl
  | [.tup xs], m, Q => Q (.tup xs) m
  | [.fl xs], m, Q => Q (.tup xs) m
  | [.ref a], m, Q => match m a with
    | some (.lst xs) => Q (.tup xs) m
    | _ => False
  | _, _, _ => False
/-- list(xs): one that never changes; one that may -/
def cListF : ZCl
  | [.tup xs], m, Q => Q (.fl xs) m
  | [.fl xs], m, Q => Q (.fl xs) m
  | [.ref a], m, Q => match m a with
    | some (.lst xs) => Q (.fl xs) m
    | _ => False
  | _, _, _ => False
def cList : ZCl
  | [.tup xs], m, Q => ∀ p, m p = none → Q (.ref p) (updM m p (.lst xs))
  | [.fl xs], m, Q => ∀ p, m p = none → Q (.ref p) (updM m p (.lst xs))
  | [.ref a], m, Q => match m a with
    | some (.lst xs) => ∀ p, m p = none → Q (.ref p) (updM m p (.lst xs))
    | _ => False
  | _, _, _ => False
def seqD (m : Mu) : D → Option (List D)
  | .fl xs => some xs
  | .ref a => match m a with
    | some (.lst xs) => some xs
    | _ => none
  | _ => none
theorem seq_of {K : PySem.W.Frag} {F : Hp} {m : Mu} {Pi H : Hp} (z : Zm K F m Pi H) {d : D} {v : V} {xs : List D} (r : Rep K Pi d v) (h : seqD m d = some xs) : ∃ a vs, v = .ref a ∧ SqL K H a vs ∧ Reps K Pi xs vs := by
  cases r with
  | fl hs rs =>
    cases h
    exact ⟨_, _, rfl, z.sub.sql hs, rs⟩
  | ref =>
    rename_i a
    simp only [seqD] at h
    cases q : m a with
    | none => rw [q] at h; cases h
    | some o =>
      rw [q] at h
      cases o with
      | lst ys =>
        cases h
        obtain ⟨vs, e, rs⟩ := z.ok a _ q
        exact ⟨_, _, rfl, .inl (.inl e), rs⟩
      | _ => cases h
  | _ => cases h
def intsD : List D → Option (List Int)
  | [] => some []
  | .int i :: r => (intsD r).map (i :: ·)
  | _ :: _ => none
def blsD : List D → Option (List Bool)
  | [] => some []
  | .bl i :: r => (blsD r).map (i :: ·)
  | _ :: _ => none
theorem intsD_eq : ∀ {ds : List D} {ns}, intsD ds = some ns → ds = ns.map .int
  | [], _, h => by cases h; rfl
  | d :: r, ns, h => by
    cases d with
    | int i =>
      simp only [intsD] at h
      cases q : intsD r with
      | none => rw [q] at h; cases h
      | some ms =>
        rw [q] at h
        cases h
        rw [intsD_eq q]
        rfl
    | _ => cases h
theorem blsD_eq : ∀ {ds : List D} {ns}, blsD ds = some ns → ds = ns.map .bl
  | [], _, h => by cases h; rfl
  | d :: r, ns, h => by
    cases d with
    | bl i =>
      simp only [blsD] at h
      cases q : blsD r with
      | none => rw [q] at h; cases h
      | some ms =>
        rw [q] at h
        cases h
        rw [blsD_eq q]
        rfl
    | _ => cases h
theorem intsD_map : ∀ ns : List Int, intsD (ns.map .int) = some ns
  | [] => rfl
  | n :: r => by
    show (intsD (r.map .int)).map (n :: ·) = _
    rw [intsD_map r]
    rfl
theorem blsD_map : ∀ ns : List Bool, blsD (ns.map .bl) = some ns
  | [] => rfl
  | n :: r => by
    show (blsD (r.map .bl)).map (n :: ·) = _
    rw [blsD_map r]
    rfl
def cInts (f : List Int → QE → Mu → Prop) : ZCl
  | [d], m, Q => match seqD m d with
    | some xs => match intsD xs with
      | some ns => f ns Q m
      | none => False
    | none => False
  | _, _, _ => False
def cBls (f : List Bool → QE → Mu → Prop) : ZCl
  | [d], m, Q => match seqD m d with
    | some xs => match blsD xs with
      | some ns => f ns Q m
      | none => False
    | none => False
  | _, _, _ => False
abbrev cSum : ZCl := cInts fun ns Q m => Q (.int ns.sum) m
abbrev cMaxL : ZCl := cInts fun ns Q m => 0 < ns.length ∧ ∀ k, k ∈ ns → (∀ y, y ∈ ns → y ≤ k) → Q (.int k) m
abbrev cMinL : ZCl := cInts fun ns Q m => 0 < ns.length ∧ ∀ k, k ∈ ns → (∀ y, y ∈ ns → k ≤ y) → Q (.int k) m
abbrev cAny : ZCl := cBls fun ns Q m => Q (.bl (ns.any id)) m
abbrev cAll : ZCl := cBls fun ns Q m => Q (.bl (ns.all id)) m
theorem ints_of {K : PySem.W.Frag} {F : Hp} {m : Mu} {Pi H : Hp} (z : Zm K F m Pi H) {f : List Int → QE → Mu → Prop} {ds : List D} {vs : List V} {Qz : QE} (r : Reps K Pi ds vs) (h : cInts f ds m Qz) : ∃ a ns, vs = [.ref a] ∧ SqL K H a (ns.map V.int) ∧ f ns Qz m := by
  cases r with
  | nil => exact h.elim
  | cons r1 r2 =>
    cases r2 with
    | cons _ _ => exact h.elim
    | nil =>
      simp only [cInts] at h
      rename_i d v
      cases q : seqD m d with
      | none => rw [q] at h; exact h.elim
      | some xs =>
        rw [q] at h
        dsimp only at h
        cases q2 : intsD xs with
        | none => rw [q2] at h; exact h.elim
        | some ns =>
          rw [q2] at h
          obtain ⟨a, vs, rfl, hs, rs⟩ := seq_of z r1 q
          obtain rfl := intsD_eq q2
          rw [Reps.of_ints rs] at hs
          exact ⟨a, ns, rfl, hs, h⟩
theorem bls_of {K : PySem.W.Frag} {F : Hp} {m : Mu} {Pi H : Hp} (z : Zm K F m Pi H) {f : List Bool → QE → Mu → Prop} {ds : List D} {vs : List V} {Qz : QE} (r : Reps K Pi ds vs) (h : cBls f ds m Qz) : ∃ a ns, vs = [.ref a] ∧ SqL K H a (ns.map V.bl) ∧ f ns Qz m := by
  cases r with
  | nil => exact h.elim
  | cons r1 r2 =>
    cases r2 with
    | cons _ _ => exact h.elim
    | nil =>
      simp only [cBls] at h
      rename_i d v
      cases q : seqD m d with
      | none => rw [q] at h; exact h.elim
      | some xs =>
        rw [q] at h
        dsimp only at h
        cases q2 : blsD xs with
        | none => rw [q2] at h; exact h.elim
        | some ns =>
          rw [q2] at h
          obtain ⟨a, vs, rfl, hs, rs⟩ := seq_of z r1 q
          obtain rfl := blsD_eq q2
          rw [Reps.of_bls rs] at hs
          exact ⟨a, ns, rfl, hs, h⟩
theorem reps1 {K : PySem.W.Frag} {Pi : Hp} {d : D} {vs : List V} (r : Reps K Pi [d] vs) : ∃ v, vs = [v] ∧ Rep K Pi d v := by
  cases r with
  | cons r1 r2 => cases r2; exact ⟨_, rfl, r1⟩
theorem reps2 {K : PySem.W.Frag} {Pi : Hp} {d e : D} {vs : List V} (r : Reps K Pi [d, e] vs) : ∃ v u, vs = [v, u] ∧ Rep K Pi d v ∧ Rep K Pi e u := by
  cases r with
  | cons r1 r2 =>
    obtain ⟨u, rfl, r3⟩ := reps1 r2
    exact ⟨_, _, rfl, r1, r3⟩
theorem c_sum (hc : X.calm = true := by rfl) : CallR X (.builtin "sum") (RC X.K cSum) := by
  intro pins s σ H xs us Q I rv ⟨ds, F, m, Pi, Qz, z, r, h, k⟩
  obtain ⟨a, ns, rfl, hs, h⟩ := ints_of z r h
  exact cr_sum hc pins s σ H _ us Q I rv ⟨a, ns, rfl, hs, fin_int k z h⟩
theorem c_maxL (hc : X.calm = true := by rfl) : CallR X (.builtin "max") (RC X.K cMaxL) := by
  intro pins s σ H xs us Q I rv ⟨ds, F, m, Pi, Qz, z, r, h, k⟩
  obtain ⟨a, ns, rfl, hs, h0, h⟩ := ints_of z r h
  exact cr_max hc pins s σ H _ us Q I rv ⟨a, ns, rfl, hs, h0, fun i h1 h2 => fin_int k z (h i h1 h2)⟩
theorem c_minL (hc : X.calm = true := by rfl) : CallR X (.builtin "min") (RC X.K cMinL) := by
  intro pins s σ H xs us Q I rv ⟨ds, F, m, Pi, Qz, z, r, h, k⟩
  obtain ⟨a, ns, rfl, hs, h0, h⟩ := ints_of z r h
  exact cr_min hc pins s σ H _ us Q I rv ⟨a, ns, rfl, hs, h0, fun i h1 h2 => fin_int k z (h i h1 h2)⟩
theorem c_any (hc : X.calm = true := by rfl) : CallR X (.builtin "any") (RC X.K cAny) := by
  intro pins s σ H xs us Q I rv ⟨ds, F, m, Pi, Qz, z, r, h, k⟩
  obtain ⟨a, ns, rfl, hs, h⟩ := bls_of z r h
  exact cr_any hc pins s σ H _ us Q I rv ⟨a, ns, rfl, hs, fin_bl k z h⟩
theorem c_all (hc : X.calm = true := by rfl) : CallR X (.builtin "all") (RC X.K cAll) := by
  intro pins s σ H xs us Q I rv ⟨ds, F, m, Pi, Qz, z, r, h, k⟩
  obtain ⟨a, ns, rfl, hs, h⟩ := bls_of z r h
  exact cr_all hc pins s σ H _ us Q I rv ⟨a, ns, rfl, hs, fin_bl k z h⟩
/-- one argument -/
theorem one_of {K : PySem.W.Frag} {Pi : Hp} {ds : List D} {vs : List V} {P : Prop} (r : Reps K Pi ds vs) (h0 : ds = [] → P) (h2 : ∀ a b c, ds = a :: b :: c → P) (h1 : ∀ d v, ds = [d] → vs = [v] → Rep K Pi d v → P) : P := by
  cases r with
  | nil => exact h0 rfl
  | cons r1 r2 =>
    cases r2 with
    | nil => exact h1 _ _ rfl rfl r1
    | cons _ _ => exact h2 _ _ _ rfl
theorem c_abs : CallR X (.builtin "abs") (RC X.K cAbs) := by
  intro pins s σ H xs us Q I rv ⟨ds, F, m, Pi, Qz, z, r, h, k⟩
  refine one_of r (fun e => by subst e; exact h.elim) (fun a b c e => by subst e; cases a <;> exact h.elim) fun d v e1 e2 r1 => ?_
  subst e1 e2
  cases r1 with
  | int => exact call_abs pins s σ H _ us Q I rv ⟨_, rfl, fin_int k z h⟩
  | _ => exact h.elim
theorem c_int : CallR X (.type "int") (RC X.K cInt) := by
  intro pins s σ H xs us Q I rv ⟨ds, F, m, Pi, Qz, z, r, h, k⟩
  refine one_of r (fun e => by subst e; exact h.elim) (fun a b c e => by subst e; cases a <;> exact h.elim) fun d v e1 e2 r1 => ?_
  subst e1 e2
  cases r1 with
  | int => exact call_int1 pins s σ H _ us Q I rv (.inl ⟨_, rfl, fin_int k z h⟩)
  | bl => exact call_int1 pins s σ H _ us Q I rv (.inr ⟨_, rfl, fin_int k z h⟩)
  | _ => exact h.elim
theorem two_of {K : PySem.W.Frag} {Pi : Hp} {ds : List D} {vs : List V} {P : Prop} (r : Reps K Pi ds vs) (h0 : ds = [] → P) (h1 : ∀ a, ds = [a] → P) (h3 : ∀ a b c e, ds = a :: b :: c :: e → P) (h2 : ∀ d v e u, ds = [d, e] → vs = [v, u] → Rep K Pi d v → Rep K Pi e u → P) : P := by
  cases r with
  | nil => exact h0 rfl
  | cons r1 r2 =>
    cases r2 with
    | nil => exact h1 _ rfl
    | cons r3 r4 =>
      cases r4 with
      | nil => exact h2 _ _ _ _ rfl rfl r1 r3
      | cons _ _ => exact h3 _ _ _ _ rfl
theorem c_max (hc : X.calm = true := by rfl) : CallR X (.builtin "max") (RC X.K cMax) := by
  intro pins s σ H xs us Q I rv ⟨ds, F, m, Pi, Qz, z, r, h, k⟩
  refine two_of r (fun e => by subst e; exact h.elim) (fun a e => by subst e; cases a <;> exact h.elim) (fun a b c _ e => by subst e; cases a <;> first | exact h.elim | (cases b <;> exact h.elim)) fun d v e u e1 e2 r1 r2 => ?_
  subst e1 e2
  cases r1 with
  | int =>
    cases r2 with
    | int => exact call_max2 hc pins s σ H _ us Q I rv ⟨_, _, rfl, fin_int k z h⟩
    | _ => exact h.elim
  | _ => exact h.elim
theorem c_min (hc : X.calm = true := by rfl) : CallR X (.builtin "min") (RC X.K cMin) := by
  intro pins s σ H xs us Q I rv ⟨ds, F, m, Pi, Qz, z, r, h, k⟩
  refine two_of r (fun e => by subst e; exact h.elim) (fun a e => by subst e; cases a <;> exact h.elim) (fun a b c _ e => by subst e; cases a <;> first | exact h.elim | (cases b <;> exact h.elim)) fun d v e u e1 e2 r1 r2 => ?_
  subst e1 e2
  cases r1 with
  | int =>
    cases r2 with
    | int => exact call_min2 hc pins s σ H _ us Q I rv ⟨_, _, rfl, fin_int k z h⟩
    | _ => exact h.elim
  | _ => exact h.elim
theorem c_divmod : CallR X (.builtin "divmod") (RC X.K cDivmod) := by
  intro pins s σ H xs us Q I rv ⟨ds, F, m, Pi, Qz, z, r, h, k⟩
  refine two_of r (fun e => by subst e; exact h.elim) (fun a e => by subst e; cases a <;> exact h.elim) (fun a b c _ e => by subst e; cases a <;> first | exact h.elim | (cases b <;> exact h.elim)) fun d v e u e1 e2 r1 r2 => ?_
  subst e1 e2
  cases r1 with
  | int =>
    cases r2 with
    | int => exact call_divmodW pins s σ H _ us Q I rv ⟨_, _, rfl, h.1, fun p np => fin_tup k z (.cons .int (.cons .int .nil)) np h.2⟩
    | _ => exact h.elim
  | _ => exact h.elim
theorem len_of {K : PySem.W.Frag} {F : Hp} {m : Mu} {Pi H : Hp} (z : Zm K F m Pi H) {d : D} {v : V} {n : Nat} (r : Rep K Pi d v) (h : lenD m d = some n) : LenV K v H n := by
  cases r with
  | str =>
    simp only [lenD] at h
    split at h
    · rename_i hx
      exact ⟨hx, (Option.some.inj h).symm⟩
    · cases h
  | tup hs rs => exact .inr ⟨_, z.sub.sqt hs, by rw [← rs.length]; exact (Option.some.inj h).symm⟩
  | fl hs rs => exact .inl ⟨_, z.sub.sql hs, by rw [← rs.length]; exact (Option.some.inj h).symm⟩
  | ref =>
    rename_i a
    simp only [lenD] at h
    cases q : m a with
    | none => rw [q] at h; cases h
    | some o =>
      rw [q] at h
      cases o with
      | lst ys =>
        obtain ⟨vs, e, rs⟩ := z.ok a _ q
        exact .inl ⟨vs, .inl (.inl e), by rw [← rs.length]; exact (Option.some.inj h).symm⟩
      | _ => cases h
  | _ => cases h
theorem c_len : CallR X (.builtin "len") (RC X.K cLen) := by
  intro pins s σ H xs us Q I rv ⟨ds, F, m, Pi, Qz, z, r, h, k⟩
  refine one_of r (fun e => by subst e; exact h.elim) (fun a b c e => by subst e; exact h.elim) fun d v e1 e2 r1 => ?_
  subst e1 e2
  simp only [cLen] at h
  cases q : lenD m d with
  | none => rw [q] at h; exact h.elim
  | some n =>
    rw [q] at h
    exact call_len pins s σ H _ us Q I rv ⟨v, n, rfl, len_of z r1 q, fin_int k z h⟩
theorem c_tuple : CallR X (.type "tuple") (RC X.K cTuple) := by
  intro pins s σ H xs us Q I rv ⟨ds, F, m, Pi, Qz, z, r, h, k⟩
  refine one_of r (fun e => by subst e; exact h.elim) (fun a b c e => by subst e; cases a <;> exact h.elim) fun d v e1 e2 r1 => ?_
  subst e1 e2
  cases r1 with
  | tup hs rs => exact call_tuple_of pins s σ H _ us Q I rv ⟨_, _, rfl, .inr ⟨z.sub.sqt hs, fin_same k z (.tup hs rs) h⟩⟩
  | fl hs rs => exact call_tuple_of pins s σ H _ us Q I rv ⟨_, _, rfl, .inl ⟨z.sub.sql hs, fun p np => fin_tup k z rs np h⟩⟩
  | ref =>
    rename_i a
    simp only [cTuple] at h
    cases q : m a with
    | none => rw [q] at h; exact h.elim
    | some o =>
      rw [q] at h
      cases o with
      | lst ys =>
        obtain ⟨vs, e, rs⟩ := z.ok a _ q
        exact call_tuple_of pins s σ H _ us Q I rv ⟨_, vs, rfl, .inl ⟨.inl (.inl e), fun p np => fin_tup k z rs np h⟩⟩
      | _ => exact h.elim
  | _ => exact h.elim
theorem c_listF : CallR X (.type "list") (RC X.K cListF) := by
  intro pins s σ H xs us Q I rv ⟨ds, F, m, Pi, Qz, z, r, h, k⟩
  refine one_of r (fun e => by subst e; exact h.elim) (fun a b c e => by subst e; cases a <;> exact h.elim) fun d v e1 e2 r1 => ?_
  subst e1 e2
  cases r1 with
  | tup hs rs => exact call_list_of pins s σ H _ us Q I rv ⟨_, _, rfl, .inr (z.sub.sqt hs), fun p np => fin_fl k z rs np h⟩
  | fl hs rs => exact call_list_of pins s σ H _ us Q I rv ⟨_, _, rfl, .inl (z.sub.sql hs), fun p np => fin_fl k z rs np h⟩
  | ref =>
    rename_i a
    simp only [cListF] at h
    cases q : m a with
    | none => rw [q] at h; exact h.elim
    | some o =>
      rw [q] at h
      cases o with
      | lst ys =>
        obtain ⟨vs, e, rs⟩ := z.ok a _ q
        exact call_list_of pins s σ H _ us Q I rv ⟨_, vs, rfl, .inl (.inl (.inl e)), fun p np => fin_fl k z rs np h⟩
      | _ => exact h.elim
  | _ => exact h.elim
theorem c_list : CallR X (.type "list") (RC X.K cList) := by
  intro pins s σ H xs us Q I rv ⟨ds, F, m, Pi, Qz, z, r, h, k⟩
  refine one_of r (fun e => by subst e; exact h.elim) (fun a b c e => by subst e; cases a <;> exact h.elim) fun d v e1 e2 r1 => ?_
  subst e1 e2
  cases r1 with
  | tup hs rs => exact call_list_of pins s σ H _ us Q I rv ⟨_, _, rfl, .inr (z.sub.sqt hs), fun p np => fin_lst k z rs np h⟩
  | fl hs rs => exact call_list_of pins s σ H _ us Q I rv ⟨_, _, rfl, .inl (z.sub.sql hs), fun p np => fin_lst k z rs np h⟩
  | ref =>
    rename_i a
    simp only [cList] at h
    cases q : m a with
    | none => rw [q] at h; exact h.elim
    | some o =>
      rw [q] at h
      cases o with
      | lst ys =>
        obtain ⟨vs, e, rs⟩ := z.ok a _ q
        exact call_list_of pins s σ H _ us Q I rv ⟨_, vs, rfl, .inl (.inl (.inl e)), fun p np => fin_lst k z rs np h⟩
      | _ => exact h.elim
  | _ => exact h.elim
end
end Zed
end
section
set_option maxHeartbeats 4000000
/-! Zed4: subscripts, statements, loops, comprehensions. -/
namespace Zed
open PySem PySem.Spec PyProof.Rows L2

/-! ### subscripts -/
def oIx : ZOp
  | .tup xs, .int i, m, Q => match atI xs i with
    | some d => Q d m
    | none => False
  | .fl xs, .int i, m, Q => match atI xs i with
    | some d => Q d m
    | none => False
  | .str x, .int i, m, Q => x.length ≤ sizeLine ∧ match atI x.cps.toList i with
    | some c => Q (.str ⟨#[c]⟩) m
    | none => False
  | .ref a, .int i, m, Q => match m a with
    | some (.lst xs) => match atI xs i with
      | some d => Q d m
      | none => False
    | _ => False
  | _, _, _, _ => False
theorem reps_at {K : PySem.W.Frag} {Pi : Hp} {ds : List D} {vs : List V} (r : Reps K Pi ds vs) {i : Int} {d : D} (h : atI ds i = some d) : ∃ v, atI vs i = some v ∧ Rep K Pi d v := by
  unfold atI at h ⊢
  rw [← r.length]
  cases q : ixN ds.length i with
  | none => rw [q] at h; cases h
  | some j =>
    rw [q] at h
    exact r.get h
section
variable {X : Cx} {W : WX}
theorem ix_ok : IxR X (RS X.K oIx) := by
  intro value slice pins s σ H x y v u Q I rx ry ⟨d, e, F, m, Pi, Qz, z, r1, r2, h, k⟩ hs
  cases r1 with
  | tup hq rs =>
    cases r2 with
    | int =>
      rename_i a vs ds i
      simp only [oIx] at h
      cases q : atI ds i with
      | none => rw [q] at h; exact h.elim
      | some d =>
        rw [q] at h
        obtain ⟨w, e1, r⟩ := reps_at rs q
        exact ix_tup value slice pins s σ H _ _ v u Q I rx ry ⟨a, vs, i, w, rfl, rfl, z.sub.sqt hq, e1, fin_same k z r h⟩ hs
    | _ => exact h.elim
  | fl hq rs =>
    cases r2 with
    | int =>
      rename_i a vs ds i
      simp only [oIx] at h
      cases q : atI ds i with
      | none => rw [q] at h; exact h.elim
      | some d =>
        rw [q] at h
        obtain ⟨w, e1, r⟩ := reps_at rs q
        exact ix_list value slice pins s σ H _ _ v u Q I rx ry ⟨a, vs, i, w, rfl, rfl, z.sub.sql hq, e1, fin_same k z r h⟩ hs
    | _ => exact h.elim
  | str =>
    cases r2 with
    | int =>
      rename_i x i
      simp only [oIx] at h
      cases q : atI x.cps.toList i with
      | none => rw [q] at h; exact h.2.elim
      | some c =>
        rw [q] at h
        exact ix_str value slice pins s σ H _ _ v u Q I rx ry ⟨x, i, c, rfl, rfl, h.1, q, fin_str k z h.2⟩ hs
    | _ => exact h.elim
  | ref =>
    cases r2 with
    | int =>
      rename_i a i
      simp only [oIx] at h
      cases q : m a with
      | none => rw [q] at h; exact h.elim
      | some o =>
        rw [q] at h
        cases o with
        | lst xs =>
          dsimp only at h
          obtain ⟨vs, e1, rs⟩ := z.ok a _ q
          cases q : atI xs i with
          | none => rw [q] at h; exact h.elim
          | some d =>
            rw [q] at h
            obtain ⟨w, e2, r⟩ := reps_at rs q
            exact ix_list value slice pins s σ H _ _ v u Q I rx ry ⟨a, vs, i, w, rfl, rfl, .inl (.inl e1), e2, fin_same k z r h⟩ hs
        | _ => exact h.elim
    | _ => exact h.elim
  | _ => exact h.elim
variable {a b c e : Expr} {pos p : Pos} {za zb ze : ZTE} {es : List Expr} {t : ZTA}
theorem r_ix (ha : PE X a (LE X.K W za)) (hb : PE X b (LE X.K W zb)) (hs : PlainIx b := by exact fun _ _ => rfl) : PE X (.Subscript a b pos) (LE X.K W (zop oIx za zb)) := by
  refine pe_imp (pe_ix ix_ok ha hb hs) fun σ H Q ⟨F, ρ, m, Pi, Qz, Ez, hz, he, h, k, kx⟩ => ?_
  exact ⟨F, ρ, m, Pi, _, Ez, hz, he, h, fun x m1 P1 v H1 l1 z1 r1 q1 => ⟨F, ρ, m1, P1, _, Ez, z1, he.mono l1, q1, fun y m2 P2 u H2 l2 z2 r2 q2 => ⟨x, y, F, m2, P2, Qz, z2, r1.mono l2, r2, q2, k.mono (l1.trans l2)⟩, kx.mono l1⟩, kx⟩
end
/-! slices -/
abbrev ZTO := ZEnv → Mu → (Option Int → Mu → Prop) → QX → Prop
def onone : ZTO := fun _ m Q _ => Q none m
def osome (a : ZTE) : ZTO := fun ρ m Q E => a ρ m (fun x m1 => match x with
  | .int i => Q (some i) m1
  | _ => False) E
def cutG {α : Type} (xs : List α) (lo hi : Option Int) : List α := (xs.drop (HT.sIx xs.length 0 lo)).take (HT.sIx xs.length xs.length hi - HT.sIx xs.length 0 lo)
def oSl : D → Option Int → Option Int → Mu → QE → Prop
  | .tup xs, lo, hi, m, Q => Q (.tup (cutG xs lo hi)) m
  | .fl xs, lo, hi, m, Q => Q (.fl (cutG xs lo hi)) m
  | .ref a, lo, hi, m, Q => match m a with
    | some (.lst xs) => Q (.fl (cutG xs lo hi)) m
    | _ => False
  | .str x, lo, hi, m, Q => x.length ≤ sizeLine ∧ Q (.str (cutS x lo hi)) m
  | _, _, _, _, _ => False
def zsl (a : ZTE) (lo hi : ZTO) : ZTE := fun ρ m Q E => a ρ m (fun x m1 => lo ρ m1 (fun l m2 => hi ρ m2 (fun u m3 => oSl x l u m3 Q) E) E) E
def LO (K : PySem.W.Frag) (W : WX) (z : ZTO) : TO := fun σ H Q => ∃ F ρ m Pi Qz Ez, Zm K F m Pi H ∧ EnvR K Pi ρ σ ∧ z ρ m Qz Ez ∧ (∀ o m' P' H', PLe Pi P' → Zm K F m' P' H' → Qz o m' → Q o H') ∧ ContX K F Pi Ez (fun c d H' => W c d σ H')
theorem po_imp {X : Cx} {e : Option Expr} {t t' : TO} (h : PO X e t) (i : ∀ σ H Q, t' σ H Q → t σ H Q) : PO X e t' := ⟨fun pins s σ H Q I q => h.run pins s σ H Q I (i σ H Q q)⟩
theorem reps_cut {K : PySem.W.Frag} {Pi : Hp} {ds : List D} {vs : List V} (r : Reps K Pi ds vs) (lo hi : Option Int) : Reps K Pi (cutG ds lo hi) (cutV vs lo hi) := by
  unfold cutG cutV
  rw [← r.length]
  exact (r.drop _).take _
section
variable {X : Cx} {W : WX} {a b c e : Expr} {pos p p2 : Pos} {za zb ze : ZTE} {es : List Expr} {t : ZTA} {lo hi : Option Expr} {zl zh : ZTO}
theorem r_onone : PO X none (LO X.K W onone) := po_imp po_none fun σ H Q ⟨F, ρ, m, Pi, Qz, Ez, hz, he, h, k, _⟩ => k _ m Pi H PLe.refl hz h
theorem r_osome (h : PE X e (LE X.K W ze)) : PO X (some e) (LO X.K W (osome ze)) := by
  refine po_imp (po_some h) fun σ H Q ⟨F, ρ, m, Pi, Qz, Ez, hz, he, h, k, kx⟩ => ?_
  refine ⟨F, ρ, m, Pi, _, Ez, hz, he, h, fun x m1 P1 v H1 l1 z1 r1 q1 => ?_, kx⟩
  cases r1 with
  | int => exact ⟨_, rfl, k _ m1 P1 H1 l1 z1 q1⟩
  | _ => exact q1.elim
def RSl (K : PySem.W.Frag) : V → Option Int → Option Int → Hp → VK → Prop := fun x lo hi H Q => ∃ d F m Pi Qz, Zm K F m Pi H ∧ Rep K Pi d x ∧ oSl d lo hi m Qz ∧ ContE K F Pi Qz Q
theorem sl_ok : SlR X (RSl X.K) := by
  intro pins s σ H x v vl vu lo hi sl Q I rx hs pl pu ⟨d, F, m, Pi, Qz, z, r1, h, k⟩
  cases r1 with
  | tup hq rs =>
    rename_i a vs ds
    refine sl_tupA pins s σ H _ v vl vu lo hi sl Q I rx hs pl pu ⟨a, vs, rfl, z.sub.sqt hq, fun e => ?_, fun _ p np => fin_tup k z (reps_cut rs lo hi) np h⟩
    have e2 : cutG ds lo hi = ds := by
      unfold cutG
      rw [rs.length, e.1, e.2, ← rs.length]
      simp
    have h' : Qz (.tup (cutG ds lo hi)) m := h
    rw [e2] at h'
    exact fin_same k z (.tup hq rs) h'
  | fl hq rs =>
    rename_i a vs ds
    exact sl_list pins s σ H _ v vl vu lo hi sl Q I rx hs pl pu ⟨a, vs, rfl, z.sub.sql hq, fun p np => fin_fl k z (reps_cut rs lo hi) np h⟩
  | ref =>
    rename_i a
    simp only [oSl] at h
    cases q : m a with
    | none => rw [q] at h; exact h.elim
    | some o =>
      rw [q] at h
      cases o with
      | lst xs =>
        obtain ⟨vs, e1, rs⟩ := z.ok a _ q
        exact sl_list pins s σ H _ v vl vu lo hi sl Q I rx hs pl pu ⟨a, vs, rfl, .inl (.inl e1), fun p np => fin_fl k z (reps_cut rs lo hi) np h⟩
      | _ => exact h.elim
  | str => exact sl_str pins s σ H _ v vl vu lo hi sl Q I rx hs pl pu ⟨_, rfl, h.1, fin_str k z h.2⟩
  | _ => exact h.elim
theorem r_sl (he : PE X e (LE X.K W ze)) (hl : PO X lo (LO X.K W zl)) (hu : PO X hi (LO X.K W zh)) : PE X (.Subscript e (.Slice lo hi none p2) pos) (LE X.K W (zsl ze zl zh)) := by
  refine pe_imp (pe_slice sl_ok he hl hu) fun σ H Q ⟨F, ρ, m, Pi, Qz, Ez, hz, he, h, k, kx⟩ => ?_
  exact ⟨F, ρ, m, Pi, _, Ez, hz, he, h, fun x m1 P1 v H1 l1 z1 r1 q1 => ⟨F, ρ, m1, P1, _, Ez, z1, he.mono l1, q1, fun y m2 P2 H2 l2 z2 q2 => ⟨F, ρ, m2, P2, _, Ez, z2, (he.mono l1).mono l2, q2, fun y3 m3 P3 H3 l3 z3 q3 =>
    ⟨x, F, m3, P3, Qz, z3, (r1.mono l2).mono l3, q3, k.mono ((l1.trans l2).trans l3)⟩, kx.mono (l1.trans l2)⟩, kx.mono l1⟩, kx⟩
/-- xs[::-1] of a list -/
def zrev (a : ZTE) : ZTE := fun ρ m Q E => a ρ m (fun x m1 => match seqD m1 x with
  | some xs => Q (.fl xs.reverse) m1
  | none => False) E
theorem r_rev {k : Nat} {p1 p2 p3 : Pos} (he : PE X e (LE X.K W ze)) : PE X (.Subscript e (.Slice none none (some (.UnaryOp .USub (.Constant (.int 1) k p1) p2)) p3) pos) (LE X.K W (zrev ze)) := by
  refine pe_imp (pe_revL he) fun σ H Q ⟨F, ρ, m, Pi, Qz, Ez, hz, he, h, k, kx⟩ => ?_
  refine ⟨F, ρ, m, Pi, _, Ez, hz, he, h, fun x m1 P1 v H1 l1 z1 r1 q1 => ?_, kx⟩
  dsimp only at q1
  cases q : seqD m1 x with
  | none => rw [q] at q1; exact q1.elim
  | some xs =>
    rw [q] at q1
    obtain ⟨a, vs, rfl, hs, rs⟩ := seq_of z1 r1 q
    exact ⟨a, vs, rfl, hs, fun p np => fin_fl (k.mono l1) z1 rs.reverse np q1⟩
end

/-! ### isinstance of a built-in type -/
inductive Ty7 where | non | bool | int | str | tuple | list | dict
  deriving DecidableEq
def Ty7.nm : Ty7 → String
  | .non => "NoneType" | .bool => "bool" | .int => "int" | .str => "str" | .tuple => "tuple" | .list => "list" | .dict => "dict"
def tyD (m : Mu) : D → Option Ty7
  | .non => some .non
  | .bl _ => some .bool
  | .int _ => some .int
  | .str _ => some .str
  | .tup _ => some .tuple
  | .fl _ => some .list
  | .ref a => match m a with
    | some (.lst _) => some .list
    | some (.dct _) => some .dict
    | _ => none
  | _ => none
def isiB : Ty7 → Ty7 → Bool
  | .bool, .int => true
  | a, b => decide (a = b)
theorem isi_kit (a b : Ty7) (h : b ≠ .non) : kitB a.nm b.nm = some (isiB a b) := by
  cases b <;> first | exact absurd rfl h | (cases a <;> decide +kernel)
def cIsi (T : Ty7) : ZCl
  | [x, .ty n], m, Q => n = T.nm ∧ match tyD m x with
    | some t => Q (.bl (isiB t T)) m
    | none => False
  | _, _, _ => False
def zisi (T : Ty7) (a : ZTE) : ZTE := zbl (acons a (acons (zc (.ty T.nm)) anil)) (cIsi T)
theorem ty_of {K : PySem.W.Frag} {F : Hp} {m : Mu} {Pi H : Hp} (z : Zm K F m Pi H) {d : D} {v : V} {t : Ty7} (r : Rep K Pi d v) (h : tyD m d = some t) : TyX K H v (.type t.nm) := by
  cases r with
  | non => cases h; exact .base .non
  | bl => cases h; exact .base (.bl _)
  | int => cases h; exact .base (.int _)
  | str => cases h; exact .base (.str _)
  | ty => cases h
  | obj _ _ => cases h
  | tup hs _ =>
    cases h
    rcases hs with (q | ⟨o, q⟩) | ⟨o, _, _, q, c, _⟩
    · exact .base (.tup (z.sub _ _ q))
    · exact .fTuple (z.sub _ _ q)
    · exact .kTuple q c
  | fl hs _ =>
    cases h
    rcases hs with (q | ⟨o, q⟩) | ⟨o, _, _, q, c, _⟩
    · exact .base (.lst (z.sub _ _ q))
    · exact .base (.frz (z.sub _ _ q))
    · exact .kList q c
  | ref =>
    rename_i a
    simp only [tyD] at h
    cases q : m a with
    | none => rw [q] at h; cases h
    | some o =>
      rw [q] at h
      have k := z.ok a o q
      cases o with
      | lst xs => cases h; obtain ⟨vs, e, _⟩ := k; exact .base (.lst e)
      | dct xs => cases h; obtain ⟨vs, e, _⟩ := k; exact .base (.dK e)
      | ins C fs => cases h
section
variable {X : Cx} {W : WX} {a b c e : Expr} {pos p p2 : Pos} {za zb ze : ZTE} {es : List Expr} {t : ZTA}
theorem c_isi {T : Ty7} (hT : T ≠ .non) : CallR X (.builtin "isinstance") (RC X.K (cIsi T)) := by
  intro pins s σ H xs us Q I rv ⟨ds, F, m, Pi, Qz, z, r, h, k⟩
  refine two_of r (fun e => by subst e; exact h.elim) (fun a e => by subst e; exact h.elim) (fun a b c _ e => by subst e; cases b <;> exact h.elim) fun d v e u e1 e2 r1 r2 => ?_
  subst e1 e2
  cases r2 with
  | ty =>
    obtain ⟨hn, h⟩ := h
    subst hn
    cases q : tyD m d with
    | none => rw [q] at h; exact h.elim
    | some t =>
      rw [q] at h
      exact call_isi pins s σ H _ us Q I rv ⟨v, .ty T.nm, .type t.nm, .type T.nm, _, rfl, .ty _, ty_of z r1 q, kit_ty (isi_kit t T hT), fin_bl k z h⟩
  | _ => exact h.elim
theorem r_isi (T : Ty7) {x : Str} {k1 k2 : Pos} (hm : X.mg "isinstance" = none) (hmT : X.mg x = none) (he : PE X e (LE X.K W ze)) (hT : T ≠ .non := by decide) (hvT : bootBuiltins x = some (.type T.nm) := by decide +kernel) (hgT : Gl X x := by rfl) (hnT : x ≠ "__name__" := by decide) (hdT : (x == ("__debug__" : Str)) = false := by decide)
    (hg : Gl X "isinstance" := by rfl) (h1 : starEach (e :: [.Name x k2]) X.env = (false, eval e X.env) :: starEach [.Name x k2] X.env := by rfl) : PE X (.Call (.Name "isinstance" k1) [e, .Name x k2] [] pos) (LE X.K W (zisi T ze)) := by
  exact r_blt (c_isi hT) hm (by decide +kernel) (r_acons he (r_acons (r_bltn (X := X) (W := W) hmT hvT hgT hnT hdT) r_anil) h1) hg (by decide) (by decide) h1
end
end Zed
end
section
set_option maxHeartbeats 4000000
/-! Zed5: targets, statements, loops, comprehensions. -/
namespace Zed
open PySem PySem.Spec PyProof.Rows L2

/-! ### targets -/
abbrev ZTG := D → ZEnv → Mu → (ZEnv → Mu → Prop) → QX → Prop
abbrev ZTGs := List D → ZEnv → Mu → (ZEnv → Mu → Prop) → QX → Prop
def gn (i : Nat) : ZTG := fun d ρ m Q _ => Q (ρ.set i (some d)) m
def gnil : ZTGs := fun ds ρ m Q _ => match ds with
  | [] => Q ρ m
  | _ => False
def gcons (t : ZTG) (u : ZTGs) : ZTGs := fun ds ρ m Q E => match ds with
  | d :: r => t d ρ m (fun ρ1 m1 => u r ρ1 m1 Q E) E
  | [] => False
def gtup (n : Nat) (t : ZTGs) : ZTG := fun d ρ m Q E => match d with
  | .tup xs => xs.length = n ∧ t xs ρ m Q E
  | _ => False
def oSet : D → D → D → Mu → (Mu → Prop) → Prop
  | .ref a, .int k, d, m, Q => match m a with
    | some (.lst xs) => match ixN xs.length k with
      | some j => Q (updM m a (.lst (xs.set j d)))
      | none => False
    | _ => False
  | _, _, _, _, _ => False
def gsub (a b : ZTE) : ZTG := fun d ρ m Q E => a ρ m (fun o m1 => b ρ m1 (fun i m2 => oSet o i d m2 (fun m3 => Q ρ m3)) E) E
/-- vs: the slots that may change -/
def ContG (K : PySem.W.Frag) (F Pi : Hp) (vs : List Nat) (σ : St) (Qz : ZEnv → Mu → Prop) (Q : St → Hp → Prop) : Prop := ∀ ρ' m' P' σ' H', PLe Pi P' → Zm K F m' P' H' → EnvR K P' ρ' σ' → wipe σ' vs = wipe σ vs → Qz ρ' m' → Q σ' H'
def LG (K : PySem.W.Frag) (W : WX) (vs : List Nat) (z : ZTG) : TG := fun v σ H Q => ∃ d F ρ m Pi Qz Ez, Zm K F m Pi H ∧ EnvR K Pi ρ σ ∧ Rep K Pi d v ∧ z d ρ m Qz Ez ∧ ContG K F Pi vs σ Qz Q ∧ ∀ σ', wipe σ' vs = wipe σ vs → ContX K F Pi Ez (fun c d H' => W c d σ' H')
def LGs (K : PySem.W.Frag) (W : WX) (vs : List Nat) (z : ZTGs) : TGs := fun us σ H Q => ∃ ds F ρ m Pi Qz Ez, Zm K F m Pi H ∧ EnvR K Pi ρ σ ∧ Reps K Pi ds us ∧ z ds ρ m Qz Ez ∧ ContG K F Pi vs σ Qz Q ∧ ∀ σ', wipe σ' vs = wipe σ vs → ContX K F Pi Ez (fun c d H' => W c d σ' H')
theorem wipe_set {i : Nat} {o : Option V} : ∀ {vs : List Nat} {σ : St}, i ∈ vs → wipe (σ.set i o) vs = wipe σ vs
  | [], _, h => by cases h
  | v :: vs, σ, h => by
    show (wipe (σ.set i o) vs).set v none = (wipe σ vs).set v none
    by_cases hi : i ∈ vs
    · rw [wipe_set hi]
    · have e : i = v := by simpa [hi] using h
      subst e
      have k : ∀ (ws : List Nat) (τ : St), i ∉ ws → wipe (τ.set i o) ws = (wipe τ ws).set i o := by
        intro ws
        induction ws with
        | nil => intro τ _; rfl
        | cons w ws ih =>
          intro τ hn
          show (wipe (τ.set i o) ws).set w none = ((wipe τ ws).set w none).set i o
          rw [ih τ fun q => hn (List.mem_cons_of_mem _ q), List.set_comm _ _ (fun q => hn (by rw [q]; exact List.mem_cons_self))]
      rw [k vs σ hi, List.set_set]
theorem pg_imp {X : Cx} {e : Expr} {t t' : TG} (h : PG X e t) (i : ∀ v σ H Q, t' v σ H Q → t v σ H Q) : PG X e t' := ⟨fun pins s σ H v u Q I r q => h.run pins s σ H v u Q I r (i v σ H Q q)⟩
theorem pgs_imp {X : Cx} {e : List Expr} {t t' : TGs} (h : PGs X e t) (i : ∀ v σ H Q, t' v σ H Q → t v σ H Q) : PGs X e t' := ⟨fun pins s σ H v u Q I r q => h.run pins s σ H v u Q I r (i v σ H Q q)⟩
theorem ContG.mono {K : PySem.W.Frag} {F Pi P2 : Hp} {vs : List Nat} {σ : St} {a b} (h : ContG K F Pi vs σ a b) (l : PLe Pi P2) : ContG K F P2 vs σ a b := fun ρ' m' P' σ' H' q => h ρ' m' P' σ' H' (l.trans q)
section
variable {X : Cx} {W : WX} {vs : List Nat} {pos : Pos} {a b e : Expr} {es : List Expr} {za zb : ZTE} {g : ZTG} {gs : ZTGs}
theorem r_gn {x : Str} (i : Nat) (hN : X.N.Nodup) (hi : X.N[i]? = some x := by rfl) (hx : Loc X.env.scope x := by first | exact Or.inl rfl | exact Or.inr rfl) (hf : X.fn x = true ∨ X.env.scope.names.lookup x = some .local := by first | exact .inl rfl | exact .inr rfl) (hv : i ∈ vs := by decide) : PG X (.Name x pos) (LG X.K W vs (gn i)) := by
  refine pg_imp (pg_name hN hi hx hf) fun v σ H Q ⟨d, F, ρ, m, Pi, Qz, Ez, hz, he, hr, h, k, _⟩ => ?_
  exact k _ m Pi _ H PLe.refl hz (he.set hr) (wipe_set hv) h
theorem r_gnil : PGs X [] (LGs X.K W vs gnil) := by
  refine pgs_imp pgs_nil fun v σ H Q ⟨d, F, ρ, m, Pi, Qz, Ez, hz, he, hr, h, k, _⟩ => ?_
  cases hr with
  | nil => exact ⟨rfl, k _ m Pi _ H PLe.refl hz he rfl h⟩
  | cons _ _ => exact h.elim
theorem r_gcons (h1 : PG X e (LG X.K W vs g)) (h2 : PGs X es (LGs X.K W vs gs)) (hs : (assignEach (e :: es) X.env).map (·.2) = assign e X.env :: (assignEach es X.env).map (·.2) := by rfl) : PGs X (e :: es) (LGs X.K W vs (gcons g gs)) := by
  refine pgs_imp (pgs_cons h1 h2 hs) fun v σ H Q ⟨d, F, ρ, m, Pi, Qz, Ez, hz, he, hr, h, k, kx⟩ => ?_
  cases hr with
  | nil => exact h.elim
  | cons r1 r2 =>
    refine ⟨_, _, rfl, _, F, ρ, m, Pi, _, Ez, hz, he, r1, h, fun ρ1 m1 P1 σ1 H1 l1 z1 e1 w1 q1 => ?_, kx⟩
    exact ⟨_, F, ρ1, m1, P1, Qz, Ez, z1, e1, r2.mono l1, q1, fun ρ2 m2 P2 σ2 H2 l2 z2 e2 w2 q2 => k ρ2 m2 P2 σ2 H2 (l1.trans l2) z2 e2 (w2.trans w1) q2, fun σ' hw => (kx σ' (hw.trans w1)).mono l1⟩
theorem r_gtup {k n : Nat} (hc : X.calm = true) (h : PGs X es (LGs X.K W vs gs)) (hn : (assignEach es X.env).length = n := by rfl) (hst : (assignEach es X.env).findIdx? (·.1) = none := by rfl) : PG X (.Tuple es k pos) (LG X.K W vs (gtup n gs)) := by
  refine pg_imp (pg_tup hc h hn hst) fun v σ H Q ⟨d, F, ρ, m, Pi, Qz, Ez, hz, he, hr, h, k, kx⟩ => ?_
  cases hr with
  | tup hs rs =>
    exact ⟨_, _, rfl, hz.sub.sqt hs, by rw [← rs.length]; exact h.1, _, F, ρ, m, Pi, Qz, Ez, hz, he, rs, h.2, k, kx⟩
  | _ => exact h.elim
def RSet (K : PySem.W.Frag) : TSet := fun o i v H Q => ∃ od id d F m Pi Qz, Zm K F m Pi H ∧ Rep K Pi od o ∧ Rep K Pi id i ∧ Rep K Pi d v ∧ oSet od id d m Qz ∧ ∀ m' P' H', PLe Pi P' → Zm K F m' P' H' → Qz m' → Q H'
theorem set_ok : PSet X (RSet X.K) := by
  intro pins s σ H o i v ov iv u Q I ro ri rv ⟨od, id, d, F, m, Pi, Qz, z, r1, r2, r3, h, k⟩
  cases r1 with
  | ref =>
    cases r2 with
    | int =>
      rename_i a j
      simp only [oSet] at h
      cases q : m a with
      | none => rw [q] at h; exact h.elim
      | some w =>
        rw [q] at h
        cases w with
        | lst xs =>
          dsimp only at h
          cases q2 : ixN xs.length j with
          | none => rw [q2] at h; exact h.elim
          | some n =>
            rw [q2] at h
            obtain ⟨vs, e1, rs⟩ := z.ok a _ q
            refine set_list pins s σ H _ _ v ov iv u Q I ro ri rv ⟨a, vs, j, n, rfl, rfl, e1, by rw [← rs.length]; exact q2, k _ Pi _ PLe.refl (z.setMu (u := .lst (xs.set n d)) q ⟨_, upd_same, rs.set r3 n⟩) h⟩
        | _ => exact h.elim
    | _ => exact h.elim
  | _ => exact h.elim
theorem r_gsub (ha : PE X a (LE X.K W za)) (hb : PE X b (LE X.K W zb)) (hs : ∀ v, assign (.Subscript a b pos) X.env v = (do
      let ov ← holding [v] (eval a X.env)
      let iv ← holding [v, ov] (eval b X.env)
      standAt pos
      holding [v, ov, iv] (setItem ov iv v)
      release [v, ov, iv] []) := by intro _; rfl) : PG X (.Subscript a b pos) (LG X.K W vs (gsub za zb)) := by
  refine pg_imp (pg_sub ha hb set_ok hs) fun v σ H Q ⟨d, F, ρ, m, Pi, Qz, Ez, hz, he, hr, h, k, kx⟩ => ?_
  exact ⟨F, ρ, m, Pi, _, Ez, hz, he, h, fun x m1 P1 v1 H1 l1 z1 r1 q1 => ⟨F, ρ, m1, P1, _, Ez, z1, he.mono l1, q1, fun y m2 P2 v2 H2 l2 z2 r2 q2 =>
    ⟨x, y, d, F, m2, P2, _, z2, r1.mono l2, r2, (hr.mono l1).mono l2, q2, fun m3 P3 H3 l3 z3 q3 => k _ m3 P3 _ H3 ((l1.trans l2).trans l3) z3 (((he.mono l1).mono l2).mono l3) rfl q3⟩, (kx σ rfl).mono l1⟩, kx σ rfl⟩
end

/-! ### statements -/
abbrev xat (Dz : ZEnds) (ρ : ZEnv) : QX := fun x m => Dz.ex x ρ m
def snil : ZTS := fun Dz ρ m => Dz.nx ρ m
def sseq (t u : ZTS) : ZTS := fun Dz ρ m => t ⟨fun ρ' m' => u Dz ρ' m', Dz.rt, Dz.ex⟩ ρ m
def sexp (a : ZTE) : ZTS := fun Dz ρ m => a ρ m (fun _ m1 => Dz.nx ρ m1) (xat Dz ρ)
def sret (a : ZTE) : ZTS := fun Dz ρ m => a ρ m Dz.rt (xat Dz ρ)
def sretN : ZTS := fun Dz _ m => Dz.rt .non m
def sif (t : ZTT) (a b : ZTS) : ZTS := fun Dz ρ m => t ρ m (fun c m1 => if c = true then a Dz ρ m1 else b Dz ρ m1) (xat Dz ρ)
def sasg (a : ZTE) (g : ZTG) : ZTS := fun Dz ρ m => a ρ m (fun x m1 => g x ρ m1 Dz.nx (fun x m => ∀ ρ', Dz.ex x ρ' m)) (xat Dz ρ)
def sset (a : ZTE) (i : Nat) : ZTS := fun Dz ρ m => a ρ m (fun x m1 => Dz.nx (ρ.set i (some x)) m1) (xat Dz ρ)
def spar (i j : Nat) (t : ZTA) : ZTS := fun Dz ρ m => t ρ m (fun xs m1 => match xs with
  | [x, y] => Dz.nx ((ρ.set i (some x)).set j (some y)) m1
  | _ => False) (xat Dz ρ)
def spar3 (i j l : Nat) (t : ZTA) : ZTS := fun Dz ρ m => t ρ m (fun xs m1 => match xs with
  | [x, y, z] => Dz.nx (((ρ.set i (some x)).set j (some y)).set l (some z)) m1
  | _ => False) (xat Dz ρ)
def saug (i : Nat) (a : ZTE) (o : ZOp) : ZTS := fun Dz ρ m => match ρ[i]? with
  | some (some x) => a ρ m (fun y m1 => o x y m1 (fun z m2 => Dz.nx (ρ.set i (some z)) m2)) (xat Dz ρ)
  | _ => False
def swhile (t : ZTT) (b : ZTS) : ZTS := fun Dz ρ m => ∃ I : Nat → ZEnv → Mu → Prop, (∃ k, I k ρ m) ∧ ∀ k ρ m, I k ρ m →
  t ρ m (fun c m1 => if c = true then b ⟨fun ρ' m' => ∃ k', k' < k ∧ I k' ρ' m', Dz.rt, Dz.ex⟩ ρ m1 else Dz.nx ρ m1) (xat Dz ρ)
/-- what is walked: how many, each one, what must stand -/
structure Wk where
  n : Nat
  item : Nat → D
  inv : Mu → Prop
abbrev ZTI := ZEnv → Mu → (Wk → Mu → Prop) → QX → Prop
def sfor (it : ZTI) (g : ZTG) (b : ZTS) : ZTS := fun Dz ρ m => it ρ m (fun wk m1 => ∃ I : Nat → ZEnv → Mu → Prop, I 0 ρ m1 ∧ ∀ i ρ m, I i ρ m → wk.inv m ∧
  (i < wk.n → g (wk.item i) ρ m (fun ρ2 m2 => b ⟨I (i + 1), Dz.rt, Dz.ex⟩ ρ2 m2) (fun x m => ∀ ρ', Dz.ex x ρ' m)) ∧ (i = wk.n → Dz.nx ρ m)) (xat Dz ρ)
def wipeZ (ρ : ZEnv) : List Nat → ZEnv
  | [] => ρ
  | v :: vs => (wipeZ ρ vs).set v none
abbrev noX : QX := fun _ _ => False
/-- a comprehension: a list that never changes -/
def zlc (it : ZTI) (g : ZTG) (t : ZTT) (e : ZTE) (vs : List Nat) : ZTE := fun ρ m Q E => it ρ m (fun wk m1 => ∃ I : Nat → List D → Mu → Prop, I 0 [] m1 ∧ ∀ i acc m, I i acc m → wk.inv m ∧
  (i < wk.n → g (wk.item i) (wipeZ ρ vs) m (fun ρ2 m2 => t ρ2 m2 (fun c m3 => if c = true then e ρ2 m3 (fun y m4 => acc.length < sizeLine ∧ I (i + 1) (acc ++ [y]) m4) noX else I (i + 1) acc m3) noX) noX) ∧ (i = wk.n → Q (.fl acc) m)) E
def tyes : ZTT := fun _ m Q _ => Q true m
/-- what the data have become need not be said of a list that will change no more -/
def zseal (a : ZTE) : ZTE := fun ρ m Q E => a ρ m (fun x m1 => match x with
  | .ref p => match m1 p with
    | some (.lst xs) => Q (.fl xs) (dropM m1 p)
    | some (.ins C fs) => Q (.obj C fs) (dropM m1 p)
    | _ => False
  | _ => False) E

section
variable {K : PySem.W.Frag} {F Pi : Hp} {ρ : ZEnv} {σ : St} {ex : ZX → ZEnv → Mu → Prop} {W : WX}
theorem ContW.at' (k : ContW K F Pi ex W) (he : EnvR K Pi ρ σ) : ContX K F Pi (fun x m => ex x ρ m) (fun c d H' => W c d σ H') := fun x m' P' c dd H' l z r q => k x ρ m' P' c dd σ H' l z (he.mono l) r q
end
section
variable {X : Cx} {W : WX} {pos p p2 : Pos} {a b c e : Expr} {es : List Expr} {za zb ze : ZTE} {zg : ZTG} {zt : ZTT} {za' : ZTA} {st : Stmt} {sts rest : List Stmt} {t u : ZTS} {vs : List Nat}
theorem r_seal (h : PE X e (LE X.K W ze)) : PE X e (LE X.K W (zseal ze)) := by
  refine pe_imp h fun σ H Q ⟨F, ρ, m, Pi, Qz, Ez, hz, he, h, k, kx⟩ => ?_
  refine ⟨F, ρ, m, Pi, _, Ez, hz, he, h, fun x m1 P1 v H1 l1 z1 r1 q1 => ?_, kx⟩
  cases r1 with
  | ref =>
    rename_i a
    dsimp only at q1
    cases q : m1 a with
    | none => rw [q] at q1; exact q1.elim
    | some o =>
      rw [q] at q1
      cases o with
      | lst xs =>
        obtain ⟨us, e1, rs⟩ := z1.ok a _ q
        obtain ⟨z2, l2⟩ := z1.seal q e1
        exact k _ _ _ _ H1 (l1.trans l2) z2 (.fl (.inl (.inl upd_same)) (rs.mono l2)) q1
      | ins C fs =>
        obtain ⟨dx, kvs, e1, rs⟩ := z1.ok a _ q
        obtain ⟨z2, l2⟩ := z1.seal q e1
        exact k _ _ _ _ H1 (l1.trans l2) z2 (.obj upd_same (rs.mono l2)) q1
      | dct kvs => exact q1.elim
  | _ => exact q1.elim
theorem r_nil : PSs X [] (LS X.K W snil) := pss_imp pss_nil fun Dv σ H ⟨F, ρ, m, Pi, Dz, hz, he, h, kn, _, _⟩ => kn _ m Pi _ H PLe.refl hz he h
theorem r_cons (h1 : PS X st (LS X.K W t)) (h2 : PSs X rest (LS X.K W u)) : PSs X (st :: rest) (LS X.K W (sseq t u)) := by
  refine pss_imp (pss_cons h1 h2) fun Dv σ H ⟨F, ρ, m, Pi, Dz, hz, he, h, kn, kr, kx⟩ => ?_
  exact ⟨F, ρ, m, Pi, _, hz, he, h, fun ρ1 m1 P1 σ1 H1 l1 z1 e1 q1 => ⟨F, ρ1, m1, P1, Dz, z1, e1, q1, kn.mono l1, kr.mono l1, kx.mono l1⟩, kr, kx⟩
theorem r_last (h1 : PS X st (LS X.K W t)) : PSs X [st] (LS X.K W t) := pss_one h1
theorem r_sexp (he : PE X e (LE X.K W ze)) (hs : swapsWith e none pos.line X.env = pure false := by rfl) : PS X (.Expr e pos) (LS X.K W (sexp ze)) := by
  refine ps_imp (ps_expr he hs) fun Dv σ H ⟨F, ρ, m, Pi, Dz, hz, he, h, kn, kr, kx⟩ => ?_
  exact ⟨F, ρ, m, Pi, _, _, hz, he, h, fun x m1 P1 v H1 l1 z1 r1 q1 => kn _ m1 P1 _ H1 l1 z1 (he.mono l1) q1, kx.at' he⟩
theorem r_ret (he : PE X e (LE X.K W ze)) : PS X (.Return (some e) pos) (LS X.K W (sret ze)) := by
  refine ps_imp (ps_ret he) fun Dv σ H ⟨F, ρ, m, Pi, Dz, hz, he, h, kn, kr, kx⟩ => ?_
  exact ⟨F, ρ, m, Pi, _, _, hz, he, h, kr, kx.at' he⟩
theorem r_retN : PS X (.Return none pos) (LS X.K W sretN) := ps_imp ps_retN fun Dv σ H ⟨F, ρ, m, Pi, Dz, hz, he, h, kn, kr, kx⟩ => kr _ m Pi _ H PLe.refl hz .non h
theorem r_pass : PS X (.Pass pos) (LS X.K W snil) := ps_imp ps_pass fun Dv σ H ⟨F, ρ, m, Pi, Dz, hz, he, h, kn, kr, kx⟩ => kn _ m Pi _ H PLe.refl hz he h
theorem r_sif (hc : PT X c (LT X.K W zt)) (ha : PSs X sts (LS X.K W t)) (hb : PSs X rest (LS X.K W u)) : PS X (.If c sts rest pos) (LS X.K W (sif zt t u)) := by
  refine ps_imp (ps_if hc ha hb) fun Dv σ H ⟨F, ρ, m, Pi, Dz, hz, he, h, kn, kr, kx⟩ => ?_
  refine ⟨F, ρ, m, Pi, _, _, hz, he, h, fun c m1 P1 H1 l1 z1 q1 => ?_, kx.at' he⟩
  cases c with
  | true => exact ⟨F, ρ, m1, P1, Dz, z1, he.mono l1, q1, kn.mono l1, kr.mono l1, kx.mono l1⟩
  | false => exact ⟨F, ρ, m1, P1, Dz, z1, he.mono l1, q1, kn.mono l1, kr.mono l1, kx.mono l1⟩
/-- a slot's length is as it was, whatever it holds -/
theorem envR_any {K : PySem.W.Frag} {Pi : Hp} {ρ : ZEnv} {σ σ' : St} (he : EnvR K Pi ρ σ) (hw : wipe σ' vs = wipe σ vs) : EnvR K Pi (ρ.map fun _ => none) σ' := by
  refine ⟨?_, fun i d q => ?_⟩
  · rw [List.length_map, he.1, ← wipe_length σ vs, ← hw, wipe_length]
  · rw [List.getElem?_map] at q
    cases q2 : ρ[i]? with
    | none => rw [q2] at q; cases q
    | some o => rw [q2] at q; cases q
theorem r_sasg (he : PE X e (LE X.K W ze)) (hg : PG X a (LG X.K W vs zg)) (hs : swapsWithSole [a] e pos.line X.env = pure false := by rfl) (hw : swappedStores [a] e X.env = pure none := by rfl)
    (h1 : (assignEach [a] X.env).map (·.2) = [assign a X.env] := by rfl) : PS X (.Assign [a] e pos) (LS X.K W (sasg ze zg)) := by
  refine ps_imp (ps_asg he hg hs hw h1) fun Dv σ H ⟨F, ρ, m, Pi, Dz, hz, he, h, kn, kr, kx⟩ => ?_
  exact ⟨F, ρ, m, Pi, _, _, hz, he, h, fun x m1 P1 v H1 l1 z1 r1 q1 => ⟨x, F, ρ, m1, P1, _, _, z1, he.mono l1, r1, q1, fun ρ2 m2 P2 σ2 H2 l2 z2 e2 _ q2 => kn _ m2 P2 σ2 H2 (l1.trans l2) z2 e2 q2,
    fun σ' hw x m2 P2 cc dd H2 l2 z2 rx q2 => kx x _ m2 P2 cc dd σ' H2 (l1.trans l2) z2 (envR_any ((he.mono l1).mono l2) hw) rx (q2 _)⟩, kx.at' he⟩
theorem r_set {x : Str} (i : Nat) (hN : X.N.Nodup) (he : PE X e (LE X.K W ze)) (hi : X.N[i]? = some x := by rfl) (hx : Loc X.env.scope x := by first | exact Or.inl rfl | exact Or.inr rfl) (hs : swapsWith e (some (.Name x p)) pos.line X.env = pure false := by rfl) (hf : X.fn x = true ∨ X.env.scope.names.lookup x = some .local := by first | exact .inl rfl | exact .inr rfl) :
    PS X (.Assign [.Name x p] e pos) (LS X.K W (sset ze i)) := by
  refine ps_imp (ps_set hN hi hx he hs hf) fun Dv σ H ⟨F, ρ, m, Pi, Dz, hz, he, h, kn, kr, kx⟩ => ?_
  exact ⟨F, ρ, m, Pi, _, _, hz, he, h, fun x m1 P1 v H1 l1 z1 r1 q1 => kn _ m1 P1 _ H1 l1 z1 ((he.mono l1).set r1) q1, kx.at' he⟩
theorem r_par {x y : Str} (i j : Nat) {px py pt : Pos} {kt k2 pt2} (hc : X.calm = true) (hN : X.N.Nodup) (ha : PA X [a, b] (LA X.K W za')) (hi : X.N[i]? = some x := by rfl) (hj : X.N[j]? = some y := by rfl) (hij : i ≠ j := by decide)
    (hx : X.env.scope.names.lookup x = some .local := by rfl) (hy : X.env.scope.names.lookup y = some .local := by rfl)
    (hw : swappedStores [.Tuple [.Name x px, .Name y py] kt pt] (.Tuple [a, b] k2 pt2) X.env = pure (some [x, y]) := by rfl)
    (hs : swapsWithSole [.Tuple [.Name x px, .Name y py] kt pt] (.Tuple [a, b] k2 pt2) pos.line X.env = pure false := by rfl) :
    PS X (.Assign [.Tuple [.Name x px, .Name y py] kt pt] (.Tuple [a, b] k2 pt2) pos) (LS X.K W (spar i j za')) := by
  refine ps_imp (ps_par hc hN hi hj hij hx hy ha hw hs) fun Dv σ H ⟨F, ρ, m, Pi, Dz, hz, he, h, kn, kr, kx⟩ => ?_
  refine ⟨F, ρ, m, Pi, _, _, hz, he, h, fun xs m1 P1 v H1 l1 z1 r1 q1 => ?_, kx.at' he⟩
  dsimp only at q1
  split at q1
  · obtain ⟨v1, v2, rfl, q3, q4⟩ := reps2 r1
    exact ⟨v1, v2, rfl, kn _ m1 P1 _ H1 l1 z1 (((he.mono l1).set q3).set q4) q1⟩
  · exact q1.elim
theorem reps3 {K : PySem.W.Frag} {Pi : Hp} {d e f : D} {vs : List V} (r : Reps K Pi [d, e, f] vs) : ∃ v u w, vs = [v, u, w] ∧ Rep K Pi d v ∧ Rep K Pi e u ∧ Rep K Pi f w := by
  cases r with
  | cons r1 r2 =>
    obtain ⟨u, w, rfl, r3, r4⟩ := reps2 r2
    exact ⟨_, _, _, rfl, r1, r3, r4⟩
theorem r_par3 {x y z : Str} (i j l : Nat) {px py pz pt : Pos} {kt k2 pt2} (hc : X.calm = true) (hN : X.N.Nodup) (ha : PA X [a, b, c] (LA X.K W za')) (hi : X.N[i]? = some x := by rfl) (hj : X.N[j]? = some y := by rfl) (hl : X.N[l]? = some z := by rfl) (hij : i ≠ j := by decide) (hil : i ≠ l := by decide) (hjl : j ≠ l := by decide)
    (hx : X.env.scope.names.lookup x = some .local := by rfl) (hy : X.env.scope.names.lookup y = some .local := by rfl) (hz : X.env.scope.names.lookup z = some .local := by rfl)
    (hw : swappedStores [.Tuple [.Name x px, .Name y py, .Name z pz] kt pt] (.Tuple [a, b, c] k2 pt2) X.env = pure (some [x, y, z]) := by rfl)
    (hs : swapsWithSole [.Tuple [.Name x px, .Name y py, .Name z pz] kt pt] (.Tuple [a, b, c] k2 pt2) pos.line X.env = pure false := by rfl) :
    PS X (.Assign [.Tuple [.Name x px, .Name y py, .Name z pz] kt pt] (.Tuple [a, b, c] k2 pt2) pos) (LS X.K W (spar3 i j l za')) := by
  refine ps_imp (ps_par3 hc hN hi hj hl hij hil hjl hx hy hz ha hw hs) fun Dv σ H ⟨F, ρ, m, Pi, Dz, hz, he, h, kn, kr, kx⟩ => ?_
  refine ⟨F, ρ, m, Pi, _, _, hz, he, h, fun xs m1 P1 v H1 l1 z1 r1 q1 => ?_, kx.at' he⟩
  dsimp only at q1
  split at q1
  · obtain ⟨v1, v2, v3, rfl, q3, q4, q5⟩ := reps3 r1
    exact ⟨v1, v2, v3, rfl, kn _ m1 P1 _ H1 l1 z1 ((((he.mono l1).set q3).set q4).set q5) q1⟩
  · exact q1.elim
theorem r_aug {x : Str} {op : Operator} {o : ZOp} (i : Nat) (hN : X.N.Nodup) (ho : OpR X (inplaceOp op) (RS X.K o)) (he : PE X e (LE X.K W ze)) (hi : X.N[i]? = some x := by rfl) (hx : Loc X.env.scope x := by first | exact Or.inl rfl | exact Or.inr rfl) (hf : X.fn x = true ∨ X.env.scope.names.lookup x = some .local := by first | exact .inl rfl | exact .inr rfl) :
    PS X (.AugAssign (.Name x p) op e pos) (LS X.K W (saug i ze o)) := by
  refine ps_imp (ps_aug hN hi hx he ho hf) fun Dv σ H ⟨F, ρ, m, Pi, Dz, hz, he, h, kn, kr, kx⟩ => ?_
  unfold saug at h
  cases q : ρ[i]? with
  | none => rw [q] at h; exact h.elim
  | some w =>
    cases w with
    | none => rw [q] at h; exact h.elim
    | some d =>
      rw [q] at h
      obtain ⟨v, h1, h2⟩ := he.2 i d q
      refine ⟨v, h1, F, ρ, m, Pi, _, _, hz, he, h, fun y m1 P1 v1 H1 l1 z1 r1 q1 => ?_, kx.at' he⟩
      exact ⟨d, y, F, m1, P1, _, z1, h2.mono l1, r1, q1, fun w m2 P2 v2 H2 l2 z2 r2 q2 => kn _ m2 P2 _ H2 (l1.trans l2) z2 (((he.mono l1).mono l2).set r2) q2⟩
theorem r_while (hp : PassesOwn (model X.prog X.w) X.A X.env X.xe) (hc : PT X c (LT X.K W zt)) (hb : PSs X sts (LS X.K W t)) : PS X (.While c sts [] pos) (LS X.K W (swhile zt t)) := by
  refine ps_imp (ps_while hp hc hb) fun Dv σ H ⟨F, ρ, m, Pi, Dz, hz, he, h, kn, kr, kx⟩ => ?_
  obtain ⟨I, ⟨k0, i0⟩, turn⟩ := h
  refine ⟨fun k σ' H' => ∃ ρ' m' P', PLe Pi P' ∧ Zm X.K F m' P' H' ∧ EnvR X.K P' ρ' σ' ∧ I k ρ' m', ⟨k0, ρ, m, Pi, PLe.refl, hz, he, i0⟩, ?_⟩
  rintro k σ1 H1 ⟨ρ1, m1, P1, l1, z1, e1, i1⟩
  refine ⟨F, ρ1, m1, P1, _, _, z1, e1, turn k ρ1 m1 i1, fun c m2 P2 H2 l2 z2 q2 => ?_, (kx.mono l1).at' e1⟩
  cases c with
  | true =>
    refine ⟨fun σ' H' => ∃ ρ' m' P', PLe Pi P' ∧ Zm X.K F m' P' H' ∧ EnvR X.K P' ρ' σ' ∧ ∃ k', k' < k ∧ I k' ρ' m', ?_, ?_⟩
    · rintro σ' H' ⟨ρ', m', P', l', z', e', k', hk, i'⟩
      exact ⟨k', hk, ρ', m', P', l', z', e', i'⟩
    · exact ⟨F, ρ1, m2, P2, _, z2, e1.mono l2, q2, fun ρ3 m3 P3 σ3 H3 l3 z3 e3 q3 => ⟨ρ3, m3, P3, (l1.trans l2).trans l3, z3, e3, q3⟩, kr.mono (l1.trans l2), kx.mono (l1.trans l2)⟩
  | false => exact kn _ m2 P2 _ H2 (l1.trans l2) z2 (e1.mono l2) q2

/-! ### loops -/
def WkOk (K : PySem.W.Frag) (P : Hp) (J : It) (wk : Wk) : Prop := ∀ F i m P' H, PLe P P' → Zm K F m P' H → wk.inv m →
  (i < wk.n → J.go i H ∧ ∀ x H', J.yld i H x H' → ∃ P2, PLe P' P2 ∧ Zm K F m P2 H' ∧ Rep K P2 (wk.item i) x) ∧ (i = wk.n → J.stop i H)
def LI (K : PySem.W.Frag) (W : WX) (z : ZTI) : TI := fun σ H R => ∃ F ρ m Pi Qz Ez, Zm K F m Pi H ∧ EnvR K Pi ρ σ ∧ z ρ m Qz Ez ∧ (∀ wk m' P' J H', PLe Pi P' → Zm K F m' P' H' → WkOk K P' J wk → Qz wk m' → R J H') ∧ ContX K F Pi Ez (fun c d H' => W c d σ H')
theorem pi_imp {X : Cx} {tg e : Expr} {t t' : TI} (h : PI X tg e t) (i : ∀ σ H Q, t' σ H Q → t σ H Q) : PI X tg e t' := ⟨fun pins s σ H R I q => h.run pins s σ H R I (i σ H R q)⟩
theorem r_for {zi : ZTI} (hp : PassesOwn (model X.prog X.w) X.A X.env X.xe) (hc : X.calm = true) (hi : PI X a b (LI X.K W zi)) (hg : PG X a (LG X.K W vs zg)) (hb : PSs X sts (LS X.K W t))
    (hs : ∀ x, foldedSetIterable b X.env x = pure x := by intro _; rfl) : PS X (.For a b sts [] pos) (LS X.K W (sfor zi zg t)) := by
  refine ps_imp (ps_for hp hc hi hg hb hs) fun Dv σ H ⟨F, ρ, m, Pi, Dz, hz, he, h, kn, kr, kx⟩ => ?_
  refine ⟨F, ρ, m, Pi, _, _, hz, he, h, fun wk m1 P1 J H1 l1 z1 w1 ⟨I, i0, turn⟩ => ?_, kx.at' he⟩
  refine ⟨fun i mm σ' H' => i + mm = wk.n ∧ ∃ ρ' m' P', PLe P1 P' ∧ Zm X.K F m' P' H' ∧ EnvR X.K P' ρ' σ' ∧ I i ρ' m', ⟨wk.n, by omega, ρ, m1, P1, PLe.refl, z1, he.mono l1, i0⟩, ?_⟩
  rintro i mm σ2 H2 ⟨em, ρ2, m2, P2, l2, z2, e2, i2⟩
  obtain ⟨hinv, hgo, hend⟩ := turn i ρ2 m2 i2
  obtain ⟨g1, g2⟩ := w1 F i m2 P2 H2 l2 z2 hinv
  by_cases hi : i < wk.n
  · obtain ⟨g3, g4⟩ := g1 hi
    refine .inr ⟨g3, fun σ' H' => ∃ ρ' m' P', PLe P1 P' ∧ Zm X.K F m' P' H' ∧ EnvR X.K P' ρ' σ' ∧ I (i + 1) ρ' m', ?_, fun x H3 hy => ?_⟩
    · rintro σ' H' q
      exact ⟨mm - 1, by omega, by omega, q⟩
    · obtain ⟨P3, l3, z3, r3⟩ := g4 x H3 hy
      exact ⟨_, F, ρ2, m2, P3, _, _, z3, e2.mono l3, r3, hgo hi, fun ρ4 m4 P4 σ4 H4 l4 z4 e4 _ q4 => ⟨F, ρ4, m4, P4, _, z4, e4, q4, fun ρ5 m5 P5 σ5 H5 l5 z5 e5 q5 => ⟨ρ5, m5, P5, ((l2.trans l3).trans l4).trans l5, z5, e5, q5⟩,
        kr.mono (((l1.trans l2).trans l3).trans l4), kx.mono (((l1.trans l2).trans l3).trans l4)⟩,
        fun σ' hw x m4 P4 cc dd H4 l4 z4 rx q4 => kx x _ m4 P4 cc dd σ' H4 (((l1.trans l2).trans l3).trans l4) z4 (envR_any ((e2.mono l3).mono l4) hw) rx (q4 _)⟩
  · have e : i = wk.n := by omega
    exact .inl ⟨g2 e, kn _ m2 P2 σ2 H2 (l1.trans l2) z2 e2 (hend e)⟩

/-! ### comprehensions -/
theorem EnvR.none {K : PySem.W.Frag} {Pi : Hp} {ρ : ZEnv} {σ : St} {i : Nat} (e : EnvR K Pi ρ σ) : EnvR K Pi (ρ.set i Option.none) (σ.set i Option.none) := by
  refine ⟨by rw [List.length_set, List.length_set]; exact e.1, fun j d' q => ?_⟩
  by_cases hj : i = j
  · subst hj
    by_cases hl : i < ρ.length
    · rw [List.getElem?_set_self hl] at q
      cases q
    · rw [List.getElem?_eq_none (by simpa using hl)] at q
      cases q
  · rw [List.getElem?_set_ne hj] at q ⊢
    exact e.2 j d' q
theorem EnvR.wipe {K : PySem.W.Frag} {Pi : Hp} {ρ : ZEnv} {σ : St} (e : EnvR K Pi ρ σ) : ∀ vs : List Nat, EnvR K Pi (wipeZ ρ vs) (L2.wipe σ vs)
  | [] => e
  | v :: vs => (EnvR.wipe e vs).none
def LTs (K : PySem.W.Frag) (W : WX) (z : ZTT) : TT := LT K W z
theorem r_tyes {X : Cx} : PTs X [] (LT X.K W tyes) := ⟨fun pins s σ H Q I q => pts_nil.run pins s σ H Q I (by
  obtain ⟨F, ρ, m, Pi, Qz, Ez, hz, he, h, k, _⟩ := q
  exact k _ m Pi H PLe.refl hz h)⟩
theorem r_tone {X : Cx} {c : Expr} {zt : ZTT} (h : PT X c (LT X.K W zt)) : PTs X [c] (LT X.K W zt) := pts_one h
abbrev WF : WX := fun _ _ _ _ => False
theorem wipe_none {w : Nat} : ∀ (us : List Nat) (τ : St), w ∈ us → (L2.wipe τ us).set w none = L2.wipe τ us
  | [], _, h => by cases h
  | u :: us, τ, h => by
    show ((L2.wipe τ us).set u none).set w none = (L2.wipe τ us).set u none
    by_cases e : w = u
    · subst e; rw [List.set_set]
    · have hw : w ∈ us := by simpa [e] using h
      rw [List.set_comm _ _ (Ne.symm e), wipe_none us τ hw]
theorem lc_imp {zi : ZTI} {σ : St} {H : Hp} {Q : VK} (h : LE X.K W (zlc zi zg zt ze vs) σ H Q) : tLc (LI X.K W zi) (LG X.K WF vs zg) (LT X.K WF zt) (LE X.K WF ze) vs σ H Q := by
  obtain ⟨F, ρ, m, Pi, Qz, Ez, hz, he, h, k, kx⟩ := h
  refine ⟨F, ρ, m, Pi, _, Ez, hz, he, h, fun wk m1 P1 J H1 l1 z1 w1 ⟨I, i0, turn⟩ Da hD => ?_, kx⟩
  have fD : F Da = none := z1.ffree hD
  have z1' : Zm X.K (upd F Da (.lst [])) m1 P1 (upd H1 Da (.lst [])) := by
    refine Zm.frame (o := .lst []) (F := F) ?_ (z1.free hD).1 (z1.free hD).2 upd_same
    refine ⟨fun b o e => ?_, fun b o e => ?_, z1.fdis, z1.fpd, z1.dis, fun b o e => ?_⟩
    · rw [upd_ne (ne_of_none (z1.sub b o e) hD)]; exact z1.sub b o e
    · rw [upd_ne (ne_of_none (z1.frm b o e) hD)]; exact z1.frm b o e
    · have hb : b ≠ Da := fun q => by subst q; rw [(z1.free hD).1] at e; cases e
      exact (z1.ok b o e).heap (upd_ne hb)
  refine ⟨fun i mm H' => i + mm = wk.n ∧ ∃ acc vs' m' P', PLe P1 P' ∧ Zm X.K (upd F Da (.lst vs')) m' P' H' ∧ Reps X.K P' acc vs' ∧ I i acc m', ⟨wk.n, by omega, [], [], m1, P1, PLe.refl, z1', .nil, i0⟩, ?_⟩
  rintro i mm H2 ⟨em, acc, vs', m2, P2, l2, z2, ra, i2⟩
  obtain ⟨hinv, hgo, hend⟩ := turn i acc m2 i2
  obtain ⟨g1, g2⟩ := w1 _ i m2 P2 H2 l2 z2 hinv
  by_cases hi : i < wk.n
  · obtain ⟨g3, g4⟩ := g1 hi
    refine .inr ⟨g3, fun H' => ∃ acc vs' m' P', PLe P1 P' ∧ Zm X.K (upd F Da (.lst vs')) m' P' H' ∧ Reps X.K P' acc vs' ∧ I (i + 1) acc m', ?_, fun x H3 hy => ?_⟩
    · rintro H' q
      exact ⟨mm - 1, by omega, by omega, q⟩
    · obtain ⟨P3, l3, z3, r3⟩ := g4 x H3 hy
      have e3 : EnvR X.K P3 (wipeZ ρ vs) (L2.wipe σ vs) := ((he.mono l1).mono (l2.trans l3)).wipe vs
      refine ⟨_, upd F Da (.lst vs'), wipeZ ρ vs, m2, P3, _, _, z3, e3, r3, hgo hi, fun ρ4 m4 P4 σ4 H4 l4 z4 e4 w4 q4 => ⟨?_, ?_⟩, fun σ' _ x m4 P4 c dd H4 _ _ _ q => q.elim⟩
      · rw [w4]
        have idem : ∀ (ws us : List Nat) (τ : St), (∀ w ∈ ws, w ∈ us) → L2.wipe (L2.wipe τ us) ws = L2.wipe τ us := by
          intro ws
          induction ws with
          | nil => intro us τ _; rfl
          | cons w ws ih =>
            intro us τ hs
            show (L2.wipe (L2.wipe τ us) ws).set w none = _
            rw [ih us τ fun q hq => hs q (List.mem_cons_of_mem _ hq)]
            exact wipe_none us τ (hs w List.mem_cons_self)
        exact idem vs vs σ fun _ h => h
      · refine ⟨upd F Da (.lst vs'), ρ4, m4, P4, _, _, z4, e4, q4, fun c m5 P5 H5 l5 z5 q5 => ?_, fun x m4 P4 c dd H4 _ _ _ q => q.elim⟩
        cases c with
        | true =>
          refine ⟨upd F Da (.lst vs'), ρ4, m5, P5, _, _, z5, e4.mono l5, q5, fun y m6 P6 v6 H6 l6 z6 r6 q6 => ?_, fun x m4 P4 c dd H4 _ _ _ q => q.elim⟩
          have l26 : PLe P2 P6 := ((l3.trans l4).trans l5).trans l6
          refine ⟨vs', z6.frm Da _ upd_same, by rw [← ra.length]; exact q6.1, acc ++ [y], vs' ++ [v6], m6, P6, l2.trans l26, z6.own, (ra.mono l26).append (.cons r6 .nil), q6.2⟩
        | false =>
          have l25 : PLe P2 P5 := (l3.trans l4).trans l5
          exact ⟨acc, vs', m5, P5, l2.trans l25, z5, ra.mono l25, q5⟩
  · have e : i = wk.n := by omega
    obtain ⟨z3, l3⟩ := z2.give fD
    exact .inl ⟨g2 e, k _ m2 _ _ H2 ((l1.trans l2).trans l3) z3 (.fl (.inl (.inl upd_same)) (ra.mono l3)) (hend e)⟩
end
end Zed
end
section
set_option maxHeartbeats 4000000
/-! Zed6: comprehensions' rules, what is walked, methods of lists, calls, defs. -/
namespace Zed
open PySem PySem.Spec PyProof.Rows L2

section
variable {X : Cx} {W : WX} {pos p p2 spos : Pos} {a b c e elt tg iter : Expr} {ifs es : List Expr} {za zb ze : ZTE} {zg : ZTG} {zt : ZTT} {zi : ZTI} {scope : Scope} {own : List (Str × Nat)}
theorem r_lc (hc : X.calm = true) (hN : X.N.Nodup) (own : List (Str × Nat)) (ok : blkC X.N X.env.scope scope own = true) (hi : PI X tg iter (LI X.K W zi))
    (hg : ∀ (s : Shared) (H : Hp) (C : Addr) (cl : List (Str × Addr)) (fp : List Addr), PG (X.blk s H scope (compEnvC scope cl C X.env) fp) tg (LG X.K WF (own.map (·.2)) zg))
    (ht : ∀ (s : Shared) (H : Hp) (C : Addr) (cl : List (Str × Addr)) (fp : List Addr), PTs (X.blk s H scope (compEnvC scope cl C X.env) fp) ifs (LT X.K WF zt))
    (he : ∀ (s : Shared) (H : Hp) (C : Addr) (cl : List (Str × Addr)) (fp : List Addr), PE (X.blk s H scope (compEnvC scope cl C X.env) fp) elt (LE X.K WF ze)) (hs : ∀ x, foldedSetIterable iter X.env x = pure x := by intro _; rfl) :
    PE X (.ListComp elt [⟨tg, iter, ifs, 0⟩] scope pos) (LE X.K W (zlc zi zg zt ze (own.map (·.2)))) :=
  pe_imp (pe_lc hc hN hi (blkOk_by ok) hg ht he hs) fun _ _ _ h => lc_imp h
theorem r_setLc {y : Str} {py : Pos} (i : Nat) (hc : X.calm = true) (hN : X.N.Nodup) (own : List (Str × Nat)) (ok : blkC X.N X.env.scope scope own = true) (hi : PI X tg iter (LI X.K W zi))
    (hg : ∀ (s : Shared) (H : Hp) (C : Addr) (cl : List (Str × Addr)) (fp : List Addr), PG (X.blk s H scope (compEnvC scope cl C X.env) fp) tg (LG X.K WF (own.map (·.2)) zg))
    (ht : ∀ (s : Shared) (H : Hp) (C : Addr) (cl : List (Str × Addr)) (fp : List Addr), PTs (X.blk s H scope (compEnvC scope cl C X.env) fp) ifs (LT X.K WF zt))
    (he : ∀ (s : Shared) (H : Hp) (C : Addr) (cl : List (Str × Addr)) (fp : List Addr), PE (X.blk s H scope (compEnvC scope cl C X.env) fp) elt (LE X.K WF ze))
    (ha : (scope.names.any fun (n, k) => n == y && (k == .local || k == .cell)) = false) (hy : X.N[i]? = some y := by rfl) (hyl : X.env.scope.names.lookup y = some .local := by rfl) (hk : X.env.scope.kind = .function := by rfl) (hl : (py.line == pos.line) = true := by rfl) (hs : ∀ x, foldedSetIterable iter X.env x = pure x := by intro _; rfl) :
    PS X (.Assign [.Name y py] (.ListComp elt [⟨tg, iter, ifs, 0⟩] scope pos) spos) (LS X.K W (sset (zlc zi zg zt ze (own.map (·.2))) i)) := by
  refine ps_imp (ps_setLc hc hN hy hyl (sw_true hk hyl hl ha) hi (blkOk_by ok) hg ht he hs) fun Dv σ H ⟨F, ρ, m, Pi, Dz, hz, he, h, kn, kr, kx⟩ => ?_
  exact lc_imp (W := W) ⟨F, ρ, m, Pi, _, _, hz, he, h, fun x m1 P1 v H1 l1 z1 r1 q1 => kn _ m1 P1 _ H1 l1 z1 ((he.mono l1).set r1) q1, kx.at' he⟩

/-! ### what is walked -/
def wkL (xs : List D) : Wk := ⟨xs.length, fun i => xs.getD i .non, fun _ => True⟩
/-- a list: that never changes, or that stands in the store (and is not changed within) -/
def ilist (a : ZTE) : ZTI := fun ρ m Q E => a ρ m (fun x m1 => match x with
  | .fl xs => Q (wkL xs) m1
  | .ref p => match m1 p with
    | some (.lst xs) => Q ⟨xs.length, fun i => xs.getD i .non, fun m => m p = some (.lst xs)⟩ m1
    | _ => False
  | _ => False) E
def itup (a : ZTE) : ZTI := fun ρ m Q E => a ρ m (fun x m1 => match x with
  | .tup xs => Q (wkL xs) m1
  | _ => False) E
def istr (a : ZTE) : ZTI := fun ρ m Q E => a ρ m (fun x m1 => match x with
  | .str z => Q ⟨z.cps.size, fun i => .str ⟨#[z.cps.getD i 0]⟩, fun _ => True⟩ m1
  | _ => False) E
def irng1 (t : ZTA) : ZTI := fun ρ m Q E => t ρ m (fun xs m1 => match xs with
  | [.int j] => (-(2 ^ 62) ≤ j ∧ j < 2 ^ 62) ∧ Q ⟨j.toNat, fun i => .int i, fun _ => True⟩ m1
  | _ => False) E
def irng2 (t : ZTA) : ZTI := fun ρ m Q E => t ρ m (fun xs m1 => match xs with
  | [.int i, .int j] => (-(2 ^ 62) ≤ i ∧ i < 2 ^ 62 ∧ -(2 ^ 62) ≤ j ∧ j < 2 ^ 62) ∧ Q ⟨(j - i).toNat, fun k => .int (i + k), fun _ => True⟩ m1
  | _ => False) E
def irng3 (t : ZTA) : ZTI := fun ρ m Q E => t ρ m (fun xs m1 => match xs with
  | [.int i, .int j, .int c] => ∃ n, RgC i j c n ∧ Q ⟨n, fun k => .int (i + (k : Nat) * c), fun _ => True⟩ m1
  | _ => False) E
/-- enumerate(list) -/
def ienum (t : ZTA) : ZTI := fun ρ m Q E => t ρ m (fun xs m1 => match xs with
  | [.fl xs] => Q ⟨xs.length, fun i => .tup [.int i, xs.getD i .non], fun _ => True⟩ m1
  | [.ref p] => match m1 p with
    | some (.lst xs) => Q ⟨xs.length, fun i => .tup [.int i, xs.getD i .non], fun m => m p = some (.lst xs)⟩ m1
    | _ => False
  | _ => False) E
def izip (t : ZTA) : ZTI := fun ρ m Q E => t ρ m (fun xs m1 => match xs with
  | [.fl xs, .fl ys] => Q ⟨min xs.length ys.length, fun i => .tup [xs.getD i .non, ys.getD i .non], fun _ => True⟩ m1
  | [.tup xs, .tup ys] => Q ⟨min xs.length ys.length, fun i => .tup [xs.getD i .non, ys.getD i .non], fun _ => True⟩ m1
  | _ => False) E
def irev (a : ZTE) : ZTI := fun ρ m Q E => a ρ m (fun x m1 => match x with
  | .fl xs => Q ⟨xs.length, fun i => xs.getD (xs.length - 1 - i) .non, fun _ => True⟩ m1
  | .tup xs => Q ⟨xs.length, fun i => xs.getD (xs.length - 1 - i) .non, fun _ => True⟩ m1
  | .ref p => match m1 p with
    | some (.lst xs) => Q ⟨xs.length, fun i => xs.getD (xs.length - 1 - i) .non, fun m => m p = some (.lst xs)⟩ m1
    | _ => False
  | _ => False) E
theorem reps_getD {K : PySem.W.Frag} {Pi : Hp} {ds : List D} {vs : List V} (r : Reps K Pi ds vs) {i : Nat} (h : i < ds.length) : ∃ v, vs[i]? = some v ∧ Rep K Pi (ds.getD i .non) v := by
  have e : ds[i]? = some (ds.getD i .non) := by
    rw [List.getD_eq_getElem?_getD, List.getElem?_eq_getElem h]
    rfl
  exact r.get e
theorem wk_list {K : PySem.W.Frag} {P : Hp} {a : Addr} {vs : List V} {xs : List D} {inv : Mu → Prop} (hs : ∀ F m P' H, PLe P P' → Zm K F m P' H → inv m → ∃ vs, SqL K H a vs ∧ Reps K P' xs vs) : WkOk K P (Itl K a) ⟨xs.length, fun i => xs.getD i .non, inv⟩ := by
  intro F i m P' H l z hi
  obtain ⟨vs, h1, h2⟩ := hs F m P' H l z hi
  refine ⟨fun h => ?_, fun h => ⟨vs, h1, by rw [← h2.length]; exact Nat.le_of_eq h.symm⟩⟩
  obtain ⟨v, e, r⟩ := reps_getD h2 h
  refine ⟨⟨vs, v, h1, e⟩, fun x H' hy => ?_⟩
  obtain ⟨rfl, f⟩ := hy
  have e2 := f vs h1
  rw [e] at e2
  cases e2
  exact ⟨P', PLe.refl, z, r⟩
theorem r_ilist (he : PE X e (LE X.K W ze)) : PI X tg e (LI X.K W (ilist ze)) := by
  refine pi_imp (pi_list he) fun σ H Q ⟨F, ρ, m, Pi, Qz, Ez, hz, he, h, k, kx⟩ => ?_
  refine ⟨F, ρ, m, Pi, _, Ez, hz, he, h, fun x m1 P1 v H1 l1 z1 r1 q1 => ?_, kx⟩
  cases r1 with
  | fl hs rs => exact ⟨_, rfl, ⟨_, z1.sub.sql hs⟩, k _ m1 P1 _ H1 l1 z1 (wk_list (vs := []) fun F m P' H l z _ => ⟨_, z.sub.sql (l.sql hs), rs.mono l⟩) q1⟩
  | ref =>
    rename_i a
    dsimp only at q1
    cases q : m1 a with
    | none => rw [q] at q1; exact q1.elim
    | some o =>
      rw [q] at q1
      cases o with
      | lst xs =>
        obtain ⟨us, e1, rs⟩ := z1.ok a _ q
        refine ⟨_, rfl, ⟨_, .inl (.inl e1)⟩, k _ m1 P1 _ H1 l1 z1 (wk_list (vs := []) fun F m P' H l z hi => ?_) q1⟩
        obtain ⟨ws, e2, rs2⟩ := z.ok a _ hi
        exact ⟨ws, .inl (.inl e2), rs2⟩
      | _ => exact q1.elim
  | _ => exact q1.elim
theorem r_itup (he : PE X e (LE X.K W ze)) : PI X tg e (LI X.K W (itup ze)) := by
  refine pi_imp (pi_tup he) fun σ H Q ⟨F, ρ, m, Pi, Qz, Ez, hz, he, h, k, kx⟩ => ?_
  refine ⟨F, ρ, m, Pi, _, Ez, hz, he, h, fun x m1 P1 v H1 l1 z1 r1 q1 => ?_, kx⟩
  cases r1 with
  | tup hs rs =>
    rename_i a vs xs
    refine ⟨_, rfl, ⟨_, z1.sub.sqt hs⟩, k _ m1 P1 _ H1 l1 z1 (fun F i m P' H l z _ => ⟨fun h => ?_, fun h => ⟨vs, z.sub.sqt (l.sqt hs), by rw [← rs.length]; exact Nat.le_of_eq h.symm⟩⟩) q1⟩
    obtain ⟨v, e, r⟩ := reps_getD (rs.mono l) h
    refine ⟨⟨vs, v, z.sub.sqt (l.sqt hs), e⟩, fun x H' hy => ?_⟩
    obtain ⟨rfl, f⟩ := hy
    have e2 := f vs (z.sub.sqt (l.sqt hs))
    rw [e] at e2
    cases e2
    exact ⟨P', PLe.refl, z, r⟩
  | _ => exact q1.elim
theorem r_istr (he : PE X e (LE X.K W ze)) : PI X tg e (LI X.K W (istr ze)) := by
  refine pi_imp (pi_str he) fun σ H Q ⟨F, ρ, m, Pi, Qz, Ez, hz, he, h, k, kx⟩ => ?_
  refine ⟨F, ρ, m, Pi, _, Ez, hz, he, h, fun x m1 P1 v H1 l1 z1 r1 q1 => ?_, kx⟩
  cases r1 with
  | str =>
    rename_i x
    have wk : WkOk X.K P1 (Its x) ⟨x.cps.size, fun i => .str ⟨#[x.cps.getD i 0]⟩, fun _ => True⟩ := by
      refine fun F i m P' H l z _ => ⟨fun h => ⟨h, fun v H' hy => ?_⟩, fun h => Nat.le_of_eq h.symm⟩
      obtain ⟨rfl, c, hc, rfl⟩ := hy
      refine ⟨P', PLe.refl, z, ?_⟩
      have ec : x.cps.getD i 0 = c := by
        rw [Array.getD_eq_getD_getElem?, hc]
        rfl
      show Rep X.K P' (.str ⟨#[x.cps.getD i 0]⟩) _
      rw [ec]
      exact .str
    exact ⟨x, rfl, k _ m1 P1 _ H1 l1 z1 wk q1⟩
  | _ => exact q1.elim
theorem wk_ints {K : PySem.W.Frag} {P : Hp} {lo c : Int} {n : Nat} : WkOk K P (Itc lo c n) ⟨n, fun k => .int (lo + (k : Nat) * c), fun _ => True⟩ := fun F i m P' H l z _ => ⟨fun h => ⟨h, fun x H' hy => by
  obtain ⟨rfl, rfl⟩ := hy
  exact ⟨P', PLe.refl, z, .int⟩⟩, fun h => Nat.le_of_eq h.symm⟩
theorem wk_rng {K : PySem.W.Frag} {P : Hp} {lo : Int} {n : Nat} : WkOk K P (Itr lo n) ⟨n, fun k => .int (lo + k), fun _ => True⟩ := fun F i m P' H l z _ => ⟨fun h => ⟨h, fun x H' hy => by
  obtain ⟨rfl, rfl⟩ := hy
  exact ⟨P', PLe.refl, z, .int⟩⟩, fun h => Nat.le_of_eq h.symm⟩
theorem wk_rng0 {K : PySem.W.Frag} {P : Hp} {n : Nat} : WkOk K P (Itr 0 n) ⟨n, fun k => .int k, fun _ => True⟩ := fun F i m P' H l z _ => ⟨fun h => ⟨h, fun x H' hy => by
  obtain ⟨rfl, rfl⟩ := hy
  refine ⟨P', PLe.refl, z, ?_⟩
  rw [Int.zero_add]
  exact .int⟩, fun h => Nat.le_of_eq h.symm⟩
variable {zl : ZTA}
theorem r_irng1 (hm : X.mg "range" = none) (ha : PA X [a] (LA X.K W zl)) (hg : Gl X "range" := by rfl) (hs : starEach [a] X.env = [(false, eval a X.env)] := by rfl) : PI X tg (.Call (.Name "range" p) [a] [] pos) (LI X.K W (irng1 zl)) := by
  refine pi_imp (pi_range1 hg hm ha hs) fun σ H Q ⟨F, ρ, m, Pi, Qz, Ez, hz, he, h, k, kx⟩ => ?_
  refine ⟨F, ρ, m, Pi, _, Ez, hz, he, h, fun xs m1 P1 v H1 l1 z1 r1 q1 => ?_, kx⟩
  dsimp only at q1
  split at q1
  · obtain ⟨v1, rfl, r2⟩ := reps1 r1
    cases r2
    exact ⟨_, rfl, q1.1.1, q1.1.2, k _ m1 P1 _ H1 l1 z1 wk_rng0 q1.2⟩
  · exact q1.elim
theorem r_irng2 (hm : X.mg "range" = none) (ha : PA X [a, b] (LA X.K W zl)) (hg : Gl X "range" := by rfl) (hs : starEach [a, b] X.env = [(false, eval a X.env), (false, eval b X.env)] := by rfl) (hs2 : starEach [b] X.env = [(false, eval b X.env)] := by rfl) : PI X tg (.Call (.Name "range" p) [a, b] [] pos) (LI X.K W (irng2 zl)) := by
  refine pi_imp (pi_range2 hg hm ha hs hs2) fun σ H Q ⟨F, ρ, m, Pi, Qz, Ez, hz, he, h, k, kx⟩ => ?_
  refine ⟨F, ρ, m, Pi, _, Ez, hz, he, h, fun xs m1 P1 v H1 l1 z1 r1 q1 => ?_, kx⟩
  dsimp only at q1
  split at q1
  · obtain ⟨v1, v2, rfl, r2, r3⟩ := reps2 r1
    cases r2
    cases r3
    exact ⟨_, _, rfl, q1.1, k _ m1 P1 _ H1 l1 z1 wk_rng q1.2⟩
  · exact q1.elim
theorem r_irng3 (hm : X.mg "range" = none) (ha : PA X [a, b, c] (LA X.K W zl)) (hg : Gl X "range" := by rfl) (hs : starEach [a, b, c] X.env = (false, eval a X.env) :: starEach [b, c] X.env := by rfl) (hpl : (backTo pos (starEach [b, c] X.env)).any (·.1) = false := by rfl) : PI X tg (.Call (.Name "range" p) [a, b, c] [] pos) (LI X.K W (irng3 zl)) := by
  refine pi_imp (pi_range3 hg hm ha hs hpl) fun σ H Q ⟨F, ρ, m, Pi, Qz, Ez, hz, he, h, k, kx⟩ => ?_
  refine ⟨F, ρ, m, Pi, _, Ez, hz, he, h, fun xs m1 P1 v H1 l1 z1 r1 q1 => ?_, kx⟩
  dsimp only at q1
  split at q1
  · obtain ⟨v1, v2, v3, rfl, r2, r3, r4⟩ := reps3 r1
    cases r2
    cases r3
    cases r4
    obtain ⟨n, hn, q1⟩ := q1
    exact ⟨_, _, _, n, rfl, hn, k _ m1 P1 _ H1 l1 z1 wk_ints q1⟩
  · exact q1.elim
theorem r_ienum {elts : List Expr} {kk : Nat} {tpos : Pos} (hm : X.mg "enumerate" = none) (ha : PA X [e] (LA X.K W zl)) (hg : Gl X "enumerate" := by rfl) (hs : starEach [e] X.env = [(false, eval e X.env)] := by rfl) : PI X (.Tuple elts kk tpos) (.Call (.Name "enumerate" p) [e] [] pos) (LI X.K W (ienum zl)) := by
  refine pi_imp (pi_enum hg hm ha hs) fun σ H Q ⟨F, ρ, m, Pi, Qz, Ez, hz, he, h, k, kx⟩ => ?_
  refine ⟨F, ρ, m, Pi, _, Ez, hz, he, h, fun xs m1 P1 v H1 l1 z1 r1 q1 => ?_, kx⟩
  have wk : ∀ {a : Addr} {xs : List D} {inv : Mu → Prop}, (∀ F m P' H, PLe P1 P' → Zm X.K F m P' H → inv m → ∃ vs, SqL X.K H a vs ∧ Reps X.K P' xs vs) → WkOk X.K P1 (Ite X.K a) ⟨xs.length, fun i => .tup [.int i, xs.getD i .non], inv⟩ := by
    intro a xs inv hs F i m P' H l z hi
    obtain ⟨vs, h1, h2⟩ := hs F m P' H l z hi
    refine ⟨fun h => ?_, fun h => ⟨vs, h1, by rw [← h2.length]; exact Nat.le_of_eq h.symm⟩⟩
    obtain ⟨v, e, r⟩ := reps_getD h2 h
    refine ⟨⟨vs, v, h1, e⟩, fun x H' hy => ?_⟩
    obtain ⟨T, y, rfl, nT, rfl, f⟩ := hy
    have e2 := f vs h1
    rw [e] at e2
    cases e2
    obtain ⟨z2, l2⟩ := z.newPi nT (.tup [.int (i : Nat), v])
    exact ⟨_, l2, z2, .tup (.inl (.inl upd_same)) (.cons .int (.cons (r.mono l2) .nil))⟩
  dsimp only at q1
  split at q1
  · obtain ⟨v1, rfl, r2⟩ := reps1 r1
    cases r2 with
    | fl hs rs => exact ⟨_, _, rfl, z1.sub.sql hs, k _ m1 P1 _ H1 l1 z1 (wk fun F m P' H l z _ => ⟨_, z.sub.sql (l.sql hs), rs.mono l⟩) q1⟩
  · obtain ⟨v1, rfl, r2⟩ := reps1 r1
    cases r2
    rename_i a
    split at q1
    · rename_i xs q
      obtain ⟨us, e1, rs⟩ := z1.ok a _ q
      refine ⟨_, _, rfl, .inl (.inl e1), k _ m1 P1 _ H1 l1 z1 (wk fun F m P' H l z hi => ?_) q1⟩
      obtain ⟨ws, e2, rs2⟩ := z.ok a _ hi
      exact ⟨ws, .inl (.inl e2), rs2⟩
    · exact q1.elim
  · exact q1.elim
theorem r_izip {elts : List Expr} {kk : Nat} {tpos : Pos} (hm : X.mg "zip" = none) (ha : PA X [a, b] (LA X.K W zl)) (hg : Gl X "zip" := by rfl) (hs : starEach [a, b] X.env = (false, eval a X.env) :: starEach [b] X.env := by rfl) (hpl : (backTo pos (starEach [b] X.env)).any (·.1) = false := by rfl) : PI X (.Tuple elts kk tpos) (.Call (.Name "zip" p) [a, b] [] pos) (LI X.K W (izip zl)) := by
  refine pi_imp (RZ.pi_zipA hg hm ha hs hpl) fun σ H Q ⟨F, ρ, m, Pi, Qz, Ez, hz, he, h, k, kx⟩ => ?_
  refine ⟨F, ρ, m, Pi, _, Ez, hz, he, h, fun xs m1 P1 v H1 l1 z1 r1 q1 => ?_, kx⟩
  dsimp only at q1
  split at q1
  · obtain ⟨v1, v2, rfl, r2, r3⟩ := reps2 r1
    cases r2 with
    | fl hs rs =>
      cases r3 with
      | fl hs2 rs2 =>
        rename_i xs ys a vs b ws
        refine ⟨_, _, _, _, rfl, .inl ⟨z1.sub.sql hs, z1.sub.sql hs2, k _ m1 P1 _ H1 l1 z1 (fun F i m P' H l z _ => ⟨fun h => ?_, fun h => ⟨_, _, z.sub.sql (l.sql hs), z.sub.sql (l.sql hs2), ?_⟩⟩) q1⟩⟩
        · have h1 : i < xs.length := Nat.lt_of_lt_of_le h (Nat.min_le_left _ _)
          have h2 : i < ys.length := Nat.lt_of_lt_of_le h (Nat.min_le_right _ _)
          obtain ⟨v, e, r⟩ := reps_getD (rs.mono l) h1
          obtain ⟨u, e2, r2⟩ := reps_getD (rs2.mono l) h2
          refine ⟨⟨_, _, v, u, z.sub.sql (l.sql hs), z.sub.sql (l.sql hs2), e, e2⟩, fun x H' hy => ?_⟩
          obtain ⟨T, y1, y2, rfl, nT, rfl, f1, f2⟩ := hy
          have g1 := f1 _ (z.sub.sql (l.sql hs))
          have g2 := f2 _ (z.sub.sql (l.sql hs2))
          rw [e] at g1
          rw [e2] at g2
          cases g1
          cases g2
          obtain ⟨z2, l2⟩ := z.newPi nT (.tup [v, u])
          exact ⟨_, l2, z2, .tup (.inl (.inl upd_same)) (.cons (r.mono l2) (.cons (r2.mono l2) .nil))⟩
        · rw [← rs.length, ← rs2.length]
          have h' : i = min xs.length ys.length := h
          omega
  · obtain ⟨v1, v2, rfl, r2, r3⟩ := reps2 r1
    cases r2 with
    | tup hs rs =>
      cases r3 with
      | tup hs2 rs2 =>
        rename_i xs ys a vs b ws
        refine ⟨_, _, _, _, rfl, .inr ⟨z1.sub.sqt hs, z1.sub.sqt hs2, k _ m1 P1 _ H1 l1 z1 (fun F i m P' H l z _ => ⟨fun h => ?_, fun h => ⟨_, _, z.sub.sqt (l.sqt hs), z.sub.sqt (l.sqt hs2), ?_⟩⟩) q1⟩⟩
        · have h1 : i < xs.length := Nat.lt_of_lt_of_le h (Nat.min_le_left _ _)
          have h2 : i < ys.length := Nat.lt_of_lt_of_le h (Nat.min_le_right _ _)
          obtain ⟨v, e, r⟩ := reps_getD (rs.mono l) h1
          obtain ⟨u, e2, r2⟩ := reps_getD (rs2.mono l) h2
          refine ⟨⟨_, _, v, u, z.sub.sqt (l.sqt hs), z.sub.sqt (l.sqt hs2), e, e2⟩, fun x H' hy => ?_⟩
          obtain ⟨T, y1, y2, rfl, nT, rfl, f1, f2⟩ := hy
          have g1 := f1 _ (z.sub.sqt (l.sqt hs))
          have g2 := f2 _ (z.sub.sqt (l.sqt hs2))
          rw [e] at g1
          rw [e2] at g2
          cases g1
          cases g2
          obtain ⟨z2, l2⟩ := z.newPi nT (.tup [v, u])
          exact ⟨_, l2, z2, .tup (.inl (.inl upd_same)) (.cons (r.mono l2) (.cons (r2.mono l2) .nil))⟩
        · rw [← rs.length, ← rs2.length]
          have h' : i = min xs.length ys.length := h
          omega
  · exact q1.elim
theorem r_irev (hm : X.mg "reversed" = none) (he : PE X e (LE X.K W ze)) (hg : Gl X "reversed" := by rfl) (hs : starEach [e] X.env = (false, eval e X.env) :: starEach [] X.env := by rfl) : PI X tg (.Call (.Name "reversed" p) [e] [] pos) (LI X.K W (irev ze)) := by
  refine pi_imp (RT.pi_revA hg hm he hs) fun σ H Q ⟨F, ρ, m, Pi, Qz, Ez, hz, he, h, k, kx⟩ => ?_
  refine ⟨F, ρ, m, Pi, _, Ez, hz, he, h, fun x m1 P1 v H1 l1 z1 r1 q1 => ?_, kx⟩
  have wk : ∀ {a : Addr} {xs : List D} {inv : Mu → Prop}, (∀ F m P' H, PLe P1 P' → Zm X.K F m P' H → inv m → ∃ vs, SqL X.K H a vs ∧ Reps X.K P' xs vs) → WkOk X.K P1 (Itv X.K a xs.length) ⟨xs.length, fun i => xs.getD (xs.length - 1 - i) .non, inv⟩ := by
    intro a xs inv hs F i m P' H l z hi
    obtain ⟨vs, h1, h2⟩ := hs F m P' H l z hi
    refine ⟨fun h => ?_, fun h => Nat.le_of_eq h.symm⟩
    have hj : xs.length - 1 - i < xs.length := by
      have h' : i < xs.length := h
      omega
    obtain ⟨v, e, r⟩ := reps_getD h2 hj
    refine ⟨⟨h, vs, v, h1, e⟩, fun x H' hy => ?_⟩
    obtain ⟨rfl, f⟩ := hy
    have e2 := f vs h1
    rw [e] at e2
    cases e2
    exact ⟨P', PLe.refl, z, r⟩
  cases r1 with
  | fl hs rs =>
    refine ⟨_, _, rfl, .inl ⟨z1.sub.sql hs, ?_⟩⟩
    rw [← rs.length]
    exact k _ m1 P1 _ H1 l1 z1 (wk fun F m P' H l z _ => ⟨_, z.sub.sql (l.sql hs), rs.mono l⟩) q1
  | ref =>
    rename_i a
    dsimp only at q1
    cases q : m1 a with
    | none => rw [q] at q1; exact q1.elim
    | some o =>
      rw [q] at q1
      cases o with
      | lst xs =>
        obtain ⟨us, e1, rs⟩ := z1.ok a _ q
        refine ⟨_, _, rfl, .inl ⟨.inl (.inl e1), ?_⟩⟩
        rw [← rs.length]
        refine k _ m1 P1 _ H1 l1 z1 (wk fun F m P' H l z hi => ?_) q1
        obtain ⟨ws, e2, rs2⟩ := z.ok a _ hi
        exact ⟨ws, .inl (.inl e2), rs2⟩
      | _ => exact q1.elim
  | tup hs rs =>
    rename_i a vs xs
    refine ⟨_, _, rfl, .inr ⟨z1.sub.sqt hs, ?_⟩⟩
    rw [← rs.length]
    refine k _ m1 P1 _ H1 l1 z1 (fun F i m P' H l z _ => ⟨fun h => ?_, fun h => Nat.le_of_eq h.symm⟩) q1
    have hj : xs.length - 1 - i < xs.length := by
      have h' : i < xs.length := h
      omega
    obtain ⟨v, e, r⟩ := reps_getD (rs.mono l) hj
    refine ⟨⟨h, vs, v, z.sub.sqt (l.sqt hs), e⟩, fun x H' hy => ?_⟩
    obtain ⟨rfl, f⟩ := hy
    have e2 := f vs (z.sub.sqt (l.sqt hs))
    rw [e] at e2
    cases e2
    exact ⟨P', PLe.refl, z, r⟩
  | _ => exact q1.elim

/-! ### methods of a list -/
def zapp (a : ZTE) (t : ZTA) : ZTE := fun ρ m Q E => a ρ m (fun x m1 => match x with
  | .ref p => (∃ xs, m1 p = some (.lst xs)) ∧ t ρ m1 (fun ys m2 => match ys, m2 p with
    | [y], some (.lst xs) => xs.length < sizeLine ∧ Q .non (updM m2 p (.lst (xs ++ [y])))
    | _, _ => False) E
  | _ => False) E
theorem r_app {apos : Pos} (ho : PE X a (LE X.K W za)) (ha : PA X [e] (LA X.K W zl)) (hbase : attributeBase a "append" X.env (eval a X.env) = eval a X.env := by rfl)
    (hfew : ((backTo pos (starEach [e] X.env)).all (fun x => !x.1) && (backToKw pos (keywordEach [] X.env)).all (fun x => x.1.isSome)
      && decide ([e].length + ([] : List Keyword).length + (if ([] : List Keyword).isEmpty then 0 else 1) < 30)) = true := by rfl)
    (hline : (apos.endLine == pos.line) = true := by rfl) (hs : starEach [e] X.env = (false, eval e X.env) :: starEach [] X.env := by rfl) (hplain : (backTo pos (starEach [] X.env)).any (·.1) = false := by rfl) :
    PE X (.Call (.Attribute a "append" apos) [e] [] pos) (LE X.K W (zapp za zl)) := by
  refine pe_imp (pe_bm PySem.F.plainAttrs_list PySem.F.slot_list_append PySem.F.type_list_append mt_append ho ha hbase hfew hline hs hplain) fun σ H Q ⟨F, ρ, m, Pi, Qz, Ez, hz, he, h, k, kx⟩ => ?_
  refine ⟨F, ρ, m, Pi, _, Ez, hz, he, h, fun x m1 P1 v H1 l1 z1 r1 q1 => ?_, kx⟩
  cases r1 with
  | ref =>
    rename_i l
    obtain ⟨⟨xs, q⟩, q1⟩ := q1
    obtain ⟨us, e1, rs⟩ := z1.ok l _ q
    refine ⟨.inl ⟨rfl, _, .inl (.inl e1)⟩, F, ρ, m1, P1, _, Ez, z1, he.mono l1, q1, fun ys m2 P2 vs H2 l2 z2 r2 q2 => ?_, kx.mono l1⟩
    dsimp only at q2
    split at q2
    · rename_i y xs2 q3
      obtain ⟨v1, rfl, r3⟩ := reps1 r2
      obtain ⟨us2, e2, rs2⟩ := z2.ok l _ q3
      exact ⟨l, us2, v1, rfl, rfl, e2, by rw [← rs2.length]; exact q2.1, k _ _ P2 _ _ (l1.trans l2) (z2.setMu (u := .lst (xs2 ++ [y])) q3 ⟨_, upd_same, rs2.append (.cons r3 .nil)⟩) .non q2.2⟩
    · exact q2.elim
  | _ => exact q1.elim
/-- xs.pop() -/
def zpop (a : ZTE) : ZTE := fun ρ m Q E => a ρ m (fun x m1 => match x with
  | .ref p => match m1 p with
    | some (.lst xs) => match xs[xs.length - 1]? with
      | some y => Q y (updM m1 p (.lst xs.dropLast))
      | none => False
    | _ => False
  | _ => False) E
theorem Reps.dropLast {K : PySem.W.Frag} {Pi : Hp} {ds : List D} {vs : List V} (r : Reps K Pi ds vs) : Reps K Pi ds.dropLast vs.dropLast := by
  rw [List.dropLast_eq_take, List.dropLast_eq_take, r.length]
  exact r.take _
theorem r_pop {apos : Pos} (ho : PE X a (LE X.K W za)) (hbase : attributeBase a "pop" X.env (eval a X.env) = eval a X.env := by rfl) (hline : (apos.endLine == pos.line) = true := by rfl) :
    PE X (.Call (.Attribute a "pop" apos) [] [] pos) (LE X.K W (zpop za)) := by
  refine pe_imp (pe_bm0 PySem.F.plainAttrs_list PySem.F.slot_list_pop PySem.F.type_list_pop mt_pop ho hbase hline) fun σ H Q ⟨F, ρ, m, Pi, Qz, Ez, hz, he, h, k, kx⟩ => ?_
  refine ⟨F, ρ, m, Pi, _, Ez, hz, he, h, fun x m1 P1 v H1 l1 z1 r1 q1 => ?_, kx⟩
  cases r1 with
  | ref =>
    rename_i l
    dsimp only at q1
    cases q : m1 l with
    | none => rw [q] at q1; exact q1.elim
    | some o =>
      rw [q] at q1
      cases o with
      | lst xs =>
        dsimp only at q1
        obtain ⟨us, e1, rs⟩ := z1.ok l _ q
        cases q2 : xs[xs.length - 1]? with
        | none => rw [q2] at q1; exact q1.elim
        | some y =>
          rw [q2] at q1
          obtain ⟨v, e2, r⟩ := rs.get q2
          exact ⟨.inl ⟨rfl, _, .inl (.inl e1)⟩, l, us, v, rfl, rfl, e1, by rw [← rs.length]; exact e2, k _ _ P1 _ _ l1 (z1.setMu (u := .lst xs.dropLast) q ⟨_, upd_same, rs.dropLast⟩) r q1⟩
      | _ => exact q1.elim
  | _ => exact q1.elim
end

/-! ### calls of defs -/
def SpOf (K : PySem.W.Frag) (c : ZSp) : Sp := fun vs H Q E => ∃ ds F m Pi Qz Ez, Zm K F m Pi H ∧ Reps K Pi ds vs ∧ c ds m Qz Ez ∧ ContE K F Pi Qz Q ∧ ContX K F Pi Ez E
/-- the def by that name, called by place alone (what lacks are its defaults) -/
def GDef (P : Program) (w : World) (K : PySem.W.Frag) (mg : Str → Option Value) (base : Heap) (k : Nat) (x : Str) (c : ZSp) : Prop :=
  ∃ f fd ps dvs ds dd c0, mg x = some (.ref f) ∧ PySem.W.keepIn K (.ref f) = true ∧ FnOk P w K mg base (L2.CX P w) k f fd ps (SpOf K c0) ∧ Binds K fd ps ds ∧ Vals dvs ds ∧ Reps K (fun _ => none) dd dvs ∧ ∀ xs m Q E, c xs m Q E → c0 (xs ++ dd) m Q E
theorem GDef.mono {P w K mg base j k x c} (h : GDef P w K mg base j x c) (l : j ≤ k) : GDef P w K mg base k x c := by
  obtain ⟨f, fd, ps, dvs, ds, dd, c0, h1, h2, h3, h4⟩ := h
  exact ⟨f, fd, ps, dvs, ds, dd, c0, h1, h2, h3.mono l, h4⟩
/-- the same, called with n values by place and the words ks -/
def GDefK (P : Program) (w : World) (K : PySem.W.Frag) (mg : Str → Option Value) (base : Heap) (k : Nat) (x : Str) (n : Nat) (ks : List Str) (c : List D → ZSp) : Prop :=
  ∃ f fd ps gv gV c0, mg x = some (.ref f) ∧ PySem.W.keepIn K (.ref f) = true ∧ FnOk P w K mg base (L2.CX P w) k f fd ps (SpOf K c0) ∧ KBn K fd ps n ks gv gV ∧
    ∀ Pi xs zs vs ws m Q E, Reps K Pi xs vs → Reps K Pi zs ws → c xs zs m Q E → xs.length = n ∧ zs.length = ks.length ∧ ∃ ds, Reps K Pi ds (gV vs ws) ∧ c0 ds m Q E
theorem GDefK.mono {P w K mg base j k x n ks c} (h : GDefK P w K mg base j x n ks c) (l : j ≤ k) : GDefK P w K mg base k x n ks c := by
  obtain ⟨f, fd, ps, gv, gV, c0, h1, h2, h3, h4⟩ := h
  exact ⟨f, fd, ps, gv, gV, c0, h1, h2, h3.mono l, h4⟩
def LK (K : PySem.W.Frag) (W : WX) (z : ZTA) : TA := LA K W z
/-- by place and by words -/
def zcallK (c : List D → ZSp) (t u : ZTA) : ZTE := fun ρ m Q E => t ρ m (fun xs m1 => u ρ m1 (fun zs m2 => c xs zs m2 Q E) E) E
section
variable {X : Cx} {W : WX} {pos p kpos : Pos} {e : Expr} {es : List Expr} {ze : ZTE} {t u : ZTA} {c : ZSp} {c2 : List D → ZSp} {k n : Nat} {x : Str} {ks : List Str} {kws : List Keyword} {nm : Option Str}
theorem r_call (g : GDef X.prog X.w X.K X.mg X.base k x c) (hr : Room k X.A) (tk : Takes X W) (ha : PA X (e :: es) (LA X.K W t)) (hg : Gl X x := by rfl) (hdb : (x == ("__debug__" : Str)) = false := by decide)
    (he : starEach (e :: es) X.env = (false, eval e X.env) :: starEach es X.env := by rfl) (hpl : (backTo pos (starEach es X.env)).any (·.1) = false := by rfl) : PE X (.Call (.Name x p) (e :: es) [] pos) (LE X.K W (zcall c t)) := by
  obtain ⟨f, fd, ps, dvs, ds, dd, c0, h1, h2, h3, h4, h5, h6, h7⟩ := g
  refine pe_imp (pe_callSD (dvs := dvs) (E := WE W) h3 hr hg h1 h2 h4 h5 (fun σ => passAt tk σ) ha hdb he hpl) fun σ H Q ⟨F, ρ, m, Pi, Qz, Ez, hz, he, h, k, kx⟩ => ?_
  exact ⟨F, ρ, m, Pi, _, Ez, hz, he, h, fun xs m1 P1 v H1 l1 z1 r1 q1 => ⟨xs ++ dd, F, m1, P1, Qz, Ez, z1, r1.append (h6.mono PLe.bot), h7 _ _ _ _ q1, k.mono l1, kx.mono l1⟩, kx⟩
theorem pk_imp {X : Cx} {e : List Keyword} {t t' : TA} (h : PK X e t) (i : ∀ σ H Q, t' σ H Q → t σ H Q) : PK X e t' := ⟨fun pos pins s σ H Q I q => h.run pos pins s σ H Q I (i σ H Q q)⟩
theorem r_knil : PK X [] (LA X.K W anil) := pk_imp pk_nil fun σ H Q ⟨F, ρ, m, Pi, Qz, Ez, hz, he, h, k, _⟩ => k _ m Pi _ H PLe.refl hz .nil h
theorem r_kcons (ha : PE X e (LE X.K W ze)) (hr : PK X kws (LA X.K W t)) : PK X (⟨nm, e, kpos⟩ :: kws) (LA X.K W (acons ze t)) := by
  refine pk_imp (pk_cons ha hr) fun σ H Q ⟨F, ρ, m, Pi, Qz, Ez, hz, he, h, k, kx⟩ => ?_
  exact ⟨F, ρ, m, Pi, _, Ez, hz, he, h, fun x m1 P1 v H1 l1 z1 r1 q1 => ⟨F, ρ, m1, P1, _, Ez, z1, he.mono l1, q1, fun xs m2 P2 vs H2 l2 z2 r2 q2 => k _ m2 P2 _ H2 (l1.trans l2) z2 (.cons (r1.mono l2) r2) q2, kx.mono l1⟩, kx⟩
theorem r_callK (g : GDefK X.prog X.w X.K X.mg X.base k x n ks c2) (hr : Room k X.A) (tk : Takes X W) (ha : PA X (e :: es) (LA X.K W t)) (hkw : PK X kws (LA X.K W u)) (hks : (backToKw pos (keywordEach kws X.env)).filterMap (·.1) = ks := by rfl) (hall : (backToKw pos (keywordEach kws X.env)).all (·.1.isSome) = true := by rfl)
    (hg : Gl X x := by rfl) (hdb : (x == ("__debug__" : Str)) = false := by decide) (he : starEach (e :: es) X.env = (false, eval e X.env) :: starEach es X.env := by rfl)
    (hpl : ((backTo pos (starEach (e :: es) X.env)).any (·.1) || (backToKw pos (keywordEach kws X.env)).any (·.1.isNone)) = false := by rfl) : PE X (.Call (.Name x p) (e :: es) kws pos) (LE X.K W (zcallK c2 t u)) := by
  obtain ⟨f, fd, ps, gv, gV, c0, h1, h2, h3, hb, h5⟩ := g
  refine ⟨fun pins s σ H Q I ⟨F, ρ, m, Pi, Qz, Ez, hz, hE, h, kq, kx⟩ => ?_⟩
  have hB : LA X.K W t σ H (fun vs H1 => LA X.K W u σ H1 fun ws H2 => ∃ l1 : vs.length = n, ∃ l2 : ws.length = ks.length, SpOf X.K c0 (gV vs ws) H2 Q (WE W σ)) := by
    refine ⟨F, ρ, m, Pi, _, Ez, hz, hE, h, fun xs m1 P1 vs H1 l1 z1 r1 q1 => ⟨F, ρ, m1, P1, _, Ez, z1, hE.mono l1, q1, fun zs m2 P2 ws H2 l2 z2 r2 q2 => ?_, kx.mono l1⟩, kx⟩
    obtain ⟨e1, e2, ds, r3, q3⟩ := h5 P2 xs zs vs ws m2 Qz Ez (r1.mono l2) r2 q2
    exact ⟨by rw [← r1.length]; exact e1, by rw [← r2.length]; exact e2, ds, F, m2, P2, Qz, Ez, z2, r3, q3, kq.mono (l1.trans l2), kx.mono (l1.trans l2)⟩
  refine wpAny_Call_Name_kw (ld_glob I hg h1 ?_ hdb)
  refine PySem.W.callWith_KW (h₀ := X.base) I.ok.mod.kin h2 hall (thn (ha.run pos pins s σ H _ I hB) fun us s1 hs1 => ?_) hpl he
  obtain ⟨vs, H1, I1, r1, q1⟩ := hs1
  refine thn (hkw.run pos pins s1 σ H1 _ I1 q1) fun ws s2 hs2 => ?_
  obtain ⟨zs, H2, I2, r2, l1, l2, q2⟩ := hs2
  refine ⟨I2.kIn, ?_⟩
  rw [hks]
  refine wpAny_call (codeAny_mono (h3.run X.A X.stack s2 H2 ⟨us, ks.zip ws⟩ (gv us ws) (gV vs zs) Q (WE W σ) hr I2.env0 (hb.to s2 us ws I2.kIn (r1.length.symm.trans l1) (r2.length.symm.trans l2)) (hb.rel r1 r2) q2) fun r s' hq => ?_)
  match r, hq with
  | .error e, hq => exact passAt tk σ pins H2 s2 e s' I2 hq
  | .ok (.ret u), hq => exact I2.after hq
  | .ok .next, hq => exact hq.elim
  | .ok .brk, hq => exact hq.elim
  | .ok .cont, hq => exact hq.elim
end
theorem start_rel {K : PySem.W.Frag} {Pi : Hp} {N : List Str} {ds : List D} {vs : List V} (hrs : Reps K Pi ds vs) : EnvR K Pi (ds.map some ++ List.replicate (N.length - ds.length) none) (L2.start N vs) := by
  refine ⟨?_, fun i d q => ?_⟩
  · unfold L2.start
    rw [List.length_append, List.length_append, List.length_map, List.length_map, List.length_replicate, List.length_replicate, hrs.length]
  · unfold L2.start
    by_cases hi : i < ds.length
    · rw [List.getElem?_append_left (by rw [List.length_map]; exact hi), List.getElem?_map] at q
      cases q2 : ds[i]? with
      | none => rw [q2] at q; cases q
      | some d' =>
        rw [q2] at q
        cases q
        obtain ⟨v, e, r⟩ := hrs.get q2
        exact ⟨v, by rw [List.getElem?_append_left (by rw [List.length_map, ← hrs.length]; exact hi), List.getElem?_map, e]; rfl, r⟩
    · rw [List.getElem?_append_right (by rw [List.length_map]; omega)] at q
      rw [List.getElem?_replicate] at q
      split at q <;> cases q
/-- THE RULE for a def -/
theorem def_ok {P : Program} {w : World} {K : PySem.W.Frag} {mg : Str → Option Value} {base : Heap} {x qual : Str} {st : Stmt} {f : Addr} {fd : FuncData} {N ps : List Str} {k : Nat} {c : ZSp} {b : ZTS} (F : Fun K x qual st f fd) (S : FnScope N ps (defScope st))
    (hw : ∀ ds m Q E, c ds m Q E → ds.length = ps.length ∧ b ⟨fun _ m => Q .non m, Q, fun x _ m => E x m⟩ (ds.map some ++ List.replicate (N.length - ds.length) none) m)
    (hb : ∀ (cdv : Value) (A : Around) (outer : List PySem.Env) (s : Shared) (H : Hp) (E : XK), Room k (A.deeper (envOfC qual (defScope st) s.heap.objs.size f cdv)) →
      PSs (cxOf (L2.CX P w) P w K mg base N qual (defScope st) f cdv A outer s H E) (defBody st) (LS K (fun c d _ H => E c d H) b)) : FnOk P w K mg base (L2.CX P w) (k + 1) f fd ps (SpOf K c) := by
  refine F.okX S (fun vs H Q E h => ?_) (fun cdv A outer s H vs Q E hr h => ?_)
  · obtain ⟨ds, F, m, Pi, Qz, Ez, hz, hrs, hc, _, _⟩ := h
    rw [← hrs.length]
    exact (hw ds m Qz Ez hc).1
  · obtain ⟨ds, F, m, Pi, Qz, Ez, hz, hrs, hc, kq, kx⟩ := h
    exact ⟨_, hb cdv A outer s H E hr, F, ds.map some ++ List.replicate (N.length - ds.length) none, m, Pi, _, hz, start_rel hrs, (hw ds m Qz Ez hc).2, fun ρ' m' P' σ' H' l z e q => kq _ m' P' _ H' l z .non q, kq, fun x ρ' m' P' c dd σ' H' l z e r q => kx x m' P' c dd H' l z r q⟩
/-- the same with defaults -/
theorem def_okD {P : Program} {w : World} {K : PySem.W.Frag} {mg : Str → Option Value} {base : Heap} {x qual : Str} {st : Stmt} {f : Addr} {fd : FuncData} {N ps : List Str} {k : Nat} {c : ZSp} {b : ZTS} {dvs : List V} {kws : List (Str × V)} (F : FunD K x qual (defArgs st) (defBody st) (defScope st) dvs kws f fd) (S : FnScope N ps (defScope st))
    (hw : ∀ ds m Q E, c ds m Q E → ds.length = ps.length ∧ b ⟨fun _ m => Q .non m, Q, fun x _ m => E x m⟩ (ds.map some ++ List.replicate (N.length - ds.length) none) m)
    (hb : ∀ (cdv : Value) (A : Around) (outer : List PySem.Env) (s : Shared) (H : Hp) (E : XK), Room k (A.deeper (envOfC qual (defScope st) s.heap.objs.size f cdv)) →
      PSs (cxOf (L2.CX P w) P w K mg base N qual (defScope st) f cdv A outer s H E) (defBody st) (LS K (fun c d _ H => E c d H) b)) : FnOk P w K mg base (L2.CX P w) (k + 1) f fd ps (SpOf K c) := by
  obtain ⟨oc, od, dV, kV, doc, pm, an, cdv, ct, osl, rfl, lk, hcd, _, _⟩ := F.ex
  refine fn_of lk hcd S (fun vs H Q E h => ?_) (fun A outer s H vs Q E hr h => ?_)
  · obtain ⟨ds, F, m, Pi, Qz, Ez, hz, hrs, hc, _, _⟩ := h
    rw [← hrs.length]
    exact (hw ds m Qz Ez hc).1
  · obtain ⟨ds, F, m, Pi, Qz, Ez, hz, hrs, hc, kq, kx⟩ := h
    exact ⟨_, hb cdv A outer s H E hr, F, ds.map some ++ List.replicate (N.length - ds.length) none, m, Pi, _, hz, start_rel hrs, (hw ds m Qz Ez hc).2, fun ρ' m' P' σ' H' l z e q => kq _ m' P' _ H' l z .non q, kq, fun x ρ' m' P' c dd σ' H' l z e r q => kx x m' P' c dd H' l z r q⟩
end Zed
end
section
set_option maxHeartbeats 4000000
/-! Zed7: the built-ins' names, in-place operators, short words for proofs. -/
namespace Zed
open PySem PySem.Spec PyProof.Rows L2

/-- the built-in names that the texts use, which no module's name hides -/
structure Blt (mg : Str → Option Value) : Prop where
  abs : mg "abs" = none
  all : mg "all" = none
  any : mg "any" = none
  bool : mg "bool" = none
  dict : mg "dict" = none
  divmod : mg "divmod" = none
  enumerate : mg "enumerate" = none
  int : mg "int" = none
  isinstance : mg "isinstance" = none
  len : mg "len" = none
  list : mg "list" = none
  max : mg "max" = none
  min : mg "min" = none
  range : mg "range" = none
  repr : mg "repr" = none
  reversed : mg "reversed" = none
  sorted : mg "sorted" = none
  str : mg "str" = none
  sum : mg "sum" = none
  tuple : mg "tuple" = none
  zip : mg "zip" = none
theorem bv_abs : bootBuiltins "abs" = some (.builtin "abs") := by decide +kernel
theorem bv_all : bootBuiltins "all" = some (.builtin "all") := by decide +kernel
theorem bv_any : bootBuiltins "any" = some (.builtin "any") := by decide +kernel
theorem bv_divmod : bootBuiltins "divmod" = some (.builtin "divmod") := by decide +kernel
theorem bv_len : bootBuiltins "len" = some (.builtin "len") := by decide +kernel
theorem bv_max : bootBuiltins "max" = some (.builtin "max") := by decide +kernel
theorem bv_min : bootBuiltins "min" = some (.builtin "min") := by decide +kernel
theorem bv_sum : bootBuiltins "sum" = some (.builtin "sum") := by decide +kernel
theorem bv_sorted : bootBuiltins "sorted" = some (.builtin "sorted") := by decide +kernel
theorem bv_repr : bootBuiltins "repr" = some (.builtin "repr") := by decide +kernel
theorem bv_int : bootBuiltins "int" = some (.type "int") := by decide +kernel
theorem bv_str : bootBuiltins "str" = some (.type "str") := by decide +kernel
theorem bv_bool : bootBuiltins "bool" = some (.type "bool") := by decide +kernel
theorem bv_tuple : bootBuiltins "tuple" = some (.type "tuple") := by decide +kernel
theorem bv_list : bootBuiltins "list" = some (.type "list") := by decide +kernel
theorem bv_dict : bootBuiltins "dict" = some (.type "dict") := by decide +kernel
section
variable {X : Cx} {W : WX} {e : Expr} {pos k1 k2 : Pos} {ze : ZTE}
theorem i_int (B : Blt X.mg) (he : PE X e (LE X.K W ze)) (hgT : Gl X "int" := by rfl) (hg : Gl X "isinstance" := by rfl) (h1 : starEach (e :: [.Name "int" k2]) X.env = (false, eval e X.env) :: starEach [.Name "int" k2] X.env := by rfl) : PE X (.Call (.Name "isinstance" k1) [e, .Name "int" k2] [] pos) (LE X.K W (zisi .int ze)) :=
  r_isi .int B.isinstance B.int he (by decide) bv_int hgT (by decide) (by decide) hg h1
theorem i_bool (B : Blt X.mg) (he : PE X e (LE X.K W ze)) (hgT : Gl X "bool" := by rfl) (hg : Gl X "isinstance" := by rfl) (h1 : starEach (e :: [.Name "bool" k2]) X.env = (false, eval e X.env) :: starEach [.Name "bool" k2] X.env := by rfl) : PE X (.Call (.Name "isinstance" k1) [e, .Name "bool" k2] [] pos) (LE X.K W (zisi .bool ze)) :=
  r_isi .bool B.isinstance B.bool he (by decide) bv_bool hgT (by decide) (by decide) hg h1
theorem i_tuple (B : Blt X.mg) (he : PE X e (LE X.K W ze)) (hgT : Gl X "tuple" := by rfl) (hg : Gl X "isinstance" := by rfl) (h1 : starEach (e :: [.Name "tuple" k2]) X.env = (false, eval e X.env) :: starEach [.Name "tuple" k2] X.env := by rfl) : PE X (.Call (.Name "isinstance" k1) [e, .Name "tuple" k2] [] pos) (LE X.K W (zisi .tuple ze)) :=
  r_isi .tuple B.isinstance B.tuple he (by decide) bv_tuple hgT (by decide) (by decide) hg h1
theorem i_str (B : Blt X.mg) (he : PE X e (LE X.K W ze)) (hgT : Gl X "str" := by rfl) (hg : Gl X "isinstance" := by rfl) (h1 : starEach (e :: [.Name "str" k2]) X.env = (false, eval e X.env) :: starEach [.Name "str" k2] X.env := by rfl) : PE X (.Call (.Name "isinstance" k1) [e, .Name "str" k2] [] pos) (LE X.K W (zisi .str ze)) :=
  r_isi .str B.isinstance B.str he (by decide) bv_str hgT (by decide) (by decide) hg h1
theorem i_list (B : Blt X.mg) (he : PE X e (LE X.K W ze)) (hgT : Gl X "list" := by rfl) (hg : Gl X "isinstance" := by rfl) (h1 : starEach (e :: [.Name "list" k2]) X.env = (false, eval e X.env) :: starEach [.Name "list" k2] X.env := by rfl) : PE X (.Call (.Name "isinstance" k1) [e, .Name "list" k2] [] pos) (LE X.K W (zisi .list ze)) :=
  r_isi .list B.isinstance B.list he (by decide) bv_list hgT (by decide) (by decide) hg h1

/-! ### op= -/
def oIAdd : ZOp
  | .int i, .int j, m, Q => Q (.int (i + j)) m
  | .str x, .str y, m, Q => x.length + y.length ≤ sizeLine ∧ Q (.str (x ++ y)) m
  | _, _, _, _ => False
theorem a_add : OpR X (inplaceOp .Add) (RS X.K oIAdd) := by
  intro pins s σ H x y v u Q I rx ry ⟨d, e, F, m, Pi, Qz, z, r1, r2, h, k⟩
  cases r1 with
  | int =>
    cases r2 with
    | int => exact iop_add pins s σ H _ _ v u Q I rx ry ⟨_, _, rfl, rfl, fin_int k z h⟩
    | _ => exact h.elim
  | str =>
    cases r2 with
    | str => exact iop_add_str pins s σ H _ _ v u Q I rx ry ⟨_, _, rfl, rfl, h.1, fin_str k z h.2⟩
    | _ => exact h.elim
  | _ => exact h.elim
theorem a_sub : OpR X (inplaceOp .Sub) (RS X.K oSub) := by
  intro pins s σ H x y v u Q I rx ry ⟨d, e, F, m, Pi, Qz, z, r1, r2, h, k⟩
  cases r1 with
  | int =>
    cases r2 with
    | int => exact iop_sub pins s σ H _ _ v u Q I rx ry ⟨_, _, rfl, rfl, fin_int k z h⟩
    | _ => exact h.elim
  | _ => exact h.elim
theorem iop_mulW : OpR X (inplaceOp .Mult) (rI CMulW fun i j => .int (i * j)) := opI fun _ _ _ _ _ _ _ hc q => imul_int q hc.ok
theorem a_mul : OpR X (inplaceOp .Mult) (RS X.K oMul) := op_of_int iop_mulW
theorem a_fdv : OpR X (inplaceOp .FloorDiv) (RS X.K oFdv) := op_of_int iop_fdivW
theorem a_shr : OpR X (inplaceOp .RShift) (RS X.K oShr) := op_of_int iop_shr
theorem a_mod : OpR X (inplaceOp .Mod) (RS X.K oMod) := op_of_int iop_mod
end
/-- the names' values -/
theorem gval_int {K : PySem.W.Frag} {mg : Str → Option Value} {x : Str} {i : Int} {t : Tok} (h : mg x = some (.int i t)) : GVal K mg x (.int i) := ⟨.int i, .int i t, h, ⟨t, rfl⟩, .int⟩

/-! ### short words -/
theorem ix2 {α : Type} {a b c d : α} : ([a, b, c, d] : List α)[2]? = some c := rfl
theorem small_div {i j : Int} (h : 0 < j) (hb : j < 2 ^ 8000) : CDivP i j := by
  refine ⟨h, PyProof.noPylong_of_log2 ?_⟩
  have h2 : j.natAbs < 2 ^ 8000 := by omega
  exact Nat.lt_of_lt_of_le (PySem.Flt.log2_lt_of (by decide) h2) (by decide)
theorem small_fdv {i j : Int} (h : 0 < j) (hb : j < 2 ^ 8000) : CDivW i j := wide_div h (b := 8000) (by omega) (by decide) (by decide)
/-- products: both within 2 ^ 400000 -/
theorem small_mul {i j : Int} (h1 : i.natAbs < 2 ^ 400000) (h2 : j.natAbs < 2 ^ 400000) : CMulW i j := wide_mul h1 h2 (by decide) (by decide) (by decide)
end Zed
end
section
set_option maxHeartbeats 4000000
/-! Zed8: enumerate of a tuple, a tuple from behind, a statement never reached. -/
namespace Zed
open PySem PySem.Spec PyProof.Rows L2
open PySem.AutoSeq1

def snever : ZTS := fun _ _ _ => False
theorem r_never {X : Cx} {W : WX} {sts : List Stmt} : PSs X sts (LS X.K W snever) := pss_imp pss_never fun _ _ _ ⟨_, _, _, _, _, _, _, h, _⟩ => h

/-! ### t[::-1] -/
theorem rev_adjust (n : Nat) : Builtin.Slice.sliceAdjust none none (-1) (n : Int) = ((n : Int) - 1, -1) := by
  unfold Builtin.Slice.sliceAdjust
  simp
theorem rev_places (n : Nat) : Builtin.Slice.slicePlaces ((n : Int) - 1) (-1) (-1) = n := by
  unfold Builtin.Slice.slicePlaces
  have h1 : ¬ ((-1 : Int) > 0) := by decide
  simp only [h1, if_false]
  split
  · rw [show (-(-1 : Int)) = 1 by decide, Int.ediv_one]
    omega
  · omega
theorem rev_picked (xs : Array Value) : ((List.range xs.size).filterMap fun (k : Nat) => xs[(((xs.size : Nat) : Int) - 1 + (k : Int) * (-1)).toNat]?).toArray = xs.toList.reverse.toArray := by
  congr 1
  have e : ∀ n : Nat, n ≤ xs.size → (List.range n).filterMap (fun (k : Nat) => xs[(((xs.size : Nat) : Int) - 1 + (k : Int) * (-1)).toNat]?) = (xs.toList.reverse).take n := by
    intro n
    induction n with
    | zero => intro _; rfl
    | succ n ih =>
      intro hn
      rw [List.range_succ, List.filterMap_append, ih (by omega)]
      have hk : (((xs.size : Nat) : Int) - 1 + (n : Int) * (-1)).toNat = xs.size - 1 - n := by omega
      have hlt : xs.size - 1 - n < xs.size := by omega
      have hr : n < xs.toList.reverse.length := by rw [List.length_reverse, Array.length_toList]; omega
      rw [List.take_succ_eq_append_getElem hr]
      congr 1
      simp only [List.filterMap_cons, hk, List.filterMap_nil]
      rw [Array.getElem?_eq_getElem hlt]
      simp
  rw [e xs.size (Nat.le_refl _)]
  apply List.take_of_length_le
  simp
section
variable {prog : Program} {w : World} {A : Around} {E : Value → Shared → Prop} {s : Shared}
theorem rev_applied {sl : Addr} {t : Tok} {n : Nat} {Q : Int × Int × Nat → Shared → Prop} (hs : s.heap.IsSliceOf sl .none .none (.int (-1) t)) (h : Q ((n : Int) - 1, -1, n) s) :
    wpAny (model prog w) A (Builtin.Slice.sliceApplied (.ref sl) (pure (n : Int))) Q E s := by
  obtain ⟨ob, hob, _, hdat⟩ := id hs
  unfold Builtin.Slice.sliceApplied Builtin.Slice.sliceFields
  refine wpAny_bind (wpAny_bind (wpAny_field hob hdat (x := .none) rfl (wpAny_bind (wpAny_field hob hdat (x := .none) rfl (wpAny_bind (wpAny_field hob hdat (x := .int (-1) t) rfl (wpAny_pure ?_)))))))
  refine wpAny_bind (HT.slicePart_ (.int (-1) t) ?_)
  show wpAny _ _ (if (((-1 : Int)) == 0) = true then _ else _) _ _ s
  rw [if_neg (by decide)]
  refine wpAny_bind (HT.slicePart_ .none (wpAny_bind (HT.slicePart_ .none (wpAny_bind (wpAny_pure ?_)))))
  show wpAny _ _ (match Builtin.Slice.sliceAdjust none none (-1) (n : Int) with | (lo, hi) => pure (lo, (-1 : Int), Builtin.Slice.slicePlaces lo hi (-1))) _ _ s
  rw [rev_adjust]
  show wpAny _ _ (pure (((n : Int) - 1), (-1 : Int), Builtin.Slice.slicePlaces ((n : Int) - 1) (-1) (-1))) _ _ s
  rw [rev_places]
  exact wpAny_pure h
theorem rev_item {a sl : Addr} {items : Array Value} {t : Tok} {Q : Value → Shared → Prop} (ht : IsTup s.heap a items) (hs : s.heap.IsSliceOf sl .none .none (.int (-1) t))
    (h : Q (.ref s.heap.objs.size) { s with heap := s.heap.push { cls := .type "tuple", data := .seq items.toList.reverse.toArray } }) (hz : items.size ≤ sizeLine) : wpAny (model prog w) A (getItem (.ref a) (.ref sl)) Q E s := by
  have fits : sizeOk (.seq items.toList.reverse.toArray) := by
    show items.toList.reverse.toArray.size ≤ sizeLine
    rw [List.size_toArray, List.length_reverse, Array.length_toList]
    exact hz
  have isSl : s.TypeIs (.ref sl) "slice" := by
    obtain ⟨ob, hob, hcl, _⟩ := id hs
    exact ⟨ob, hob, hcl⟩
  unfold getItem
  try with_reducible refine wpAny_holding ?_
  first | refine wpAny_bind (wpAny_pure ?_) | skip
  refine wpAny_bind (wpAny_sequenceKey ht.typeIs (by decide) ?_)
  refine wpAny_bind (wpAny_callSpecial?_slot (name := Str.ofString "__getitem__") ht.typeIs PyProof.Rows.slot_tuple_getitem (wpAny_call_entry PyProof.Rows.slot_tuple_getitem ht.typeIs entry_tuple_getitem ?_ (args_tuple_getitem _ _)))
  show wpAny _ _ (Builtin.Tuple.tupleItemsOf (.ref a) >>= _) _ _ s
  refine wpAny_bind (tupleItemsOf_ ht (wpAny_bind (wpAny_typeOf isSl ?_)))
  rw [if_pos (by decide)]
  refine wpAny_bind (rev_applied hs ?_)
  show wpAny _ _ (if ((((items.size : Nat) : Int) - 1) == 0 && (-1 : Int) == 1 && items.size == items.size) = true then _ else _) _ _ s
  rw [if_neg (by simp), rev_picked]
  first
    | exact wpAny_bind (m := Builtin.Tuple.tupleExact _) (wpAny_newObj_type (wpAny_pure ⟨_, rfl, wpAny_pure h⟩) fits)
    | exact wpAny_bind (m := Builtin.Tuple.tupleExact _) (wpAny_newObj_type (wpAny_bind (wpAny_pure (wpAny_pure ⟨_, rfl, wpAny_pure h⟩))) fits)
    | exact wpAny_bind (wpAny_bind (m := Builtin.Tuple.tupleExact _) (wpAny_newObj_type (wpAny_pure (wpAny_pure ⟨_, rfl, wpAny_pure h⟩)) fits))
    | exact wpAny_bind (wpAny_bind (m := Builtin.Tuple.tupleExact _) (wpAny_newObj_type (wpAny_pure ⟨_, rfl, wpAny_pure h⟩) fits))
end
section
variable {X : Cx} {W : WX} {e : Expr} {pos : Pos} {ze : ZTE}
/-- x[::-1] of a list or a tuple -/
def zrevA (a : ZTE) : ZTE := fun ρ m Q E => a ρ m (fun x m1 => match x with
  | .tup xs => Q (.tup xs.reverse) m1
  | d => match seqD m1 d with
    | some xs => Q (.fl xs.reverse) m1
    | none => False) E
theorem r_revA {k : Nat} {p1 p2 p3 : Pos} (he : PE X e (LE X.K W ze)) : PE X (.Subscript e (.Slice none none (some (.UnaryOp .USub (.Constant (.int 1) k p1) p2)) p3) pos) (LE X.K W (zrevA ze)) := by
  refine ⟨fun pins s σ H Q I ⟨F, ρ, m, Pi, Qz, Ez, hz, hE, h, kq, kx⟩ => ?_⟩
  -- its value first
  have h0 : LE X.K W ze σ H (fun v H1 => ∃ d m1 P1, Zm X.K F m1 P1 H1 ∧ PLe Pi P1 ∧ Rep X.K P1 d v ∧ (match d with
    | .tup xs => Qz (.tup xs.reverse) m1
    | d => match seqD m1 d with
      | some xs => Qz (.fl xs.reverse) m1
      | none => False)) := ⟨F, ρ, m, Pi, _, Ez, hz, hE, h, fun x m1 P1 v H1 l1 z1 r1 q1 => ⟨x, m1, P1, z1, l1, r1, q1⟩, kx⟩
  refine Subscript_ (thn (he.run pins s σ H _ I h0) fun v s1 ⟨x, H1, I1, rv, d, m1, P1, z1, l1, r1, q1⟩ => ?_)
  have part : PO X (some (.UnaryOp .USub (.Constant (.int 1) k p1) p2)) (tPart (tUn (rU fun i => .int (-i)) (tC (.int 1)))) := po_some (pe_un un_neg pe_int)
  refine wpAny_Slice (thn (po_none.run pins s1 σ H1 (fun o G => o = none ∧ G = H1) I1 ⟨rfl, rfl⟩) fun vl s2 ⟨l, G2, I2, pl, el, e2⟩ => ?_)
  subst el e2
  refine thn (po_none.run pins s2 σ G2 (fun o G => o = none ∧ G = G2) I2 ⟨rfl, rfl⟩) fun vu s3 ⟨u, G3, I3, pu, eu, e3⟩ => ?_
  subst eu e3
  refine thn (part.run pins s3 σ G3 (fun o G => o = some (-1) ∧ G = G3) I3 ⟨1, rfl, -1, rfl, rfl, rfl⟩) fun vst s4 ⟨o, G4, I4, pst, eo, e4⟩ => ?_
  subst eo e4
  have I5 : Inv X pins σ G4 { s4 with heap := s4.heap.push { cls := .type "slice", data := .fields #[vl, vu, vst] } } := I4.kept (t' := s4.toks) fun b ob q => Heap.get?_push_of_some _ q
  have asList : ∀ {a : Addr} {vs : List V} {xs : List D}, v = .ref a → SqL X.K G4 a vs → Reps X.K P1 xs vs → Qz (.fl xs.reverse) m1 →
      wpAny (model X.prog X.w) X.A (subscriptTail e (.Slice none none (some (.UnaryOp .USub (.Constant (.int 1) k p1) p2)) p3) v (.ref s4.heap.objs.size)) (EP X pins σ Q) X.xe { s4 with heap := s4.heap.push { cls := .type "slice", data := .fields #[vl, vu, vst] } } := by
    intro a vs xs ev hs rs hq
    subst ev
    obtain ⟨its, r, ht, hsz⟩ := I5.list hs
    have hlen := r.length
    refine tail_any (ops := [.ref a, .ref s4.heap.objs.size]) ht.isList.typeIs (PySem.slot_list_getitem.lookup) ?_ (by with_unfolding_all rfl)
    refine wpAny_getItem_list_slice ht.isList (Heap.IsSliceOf.new _ vl vu vst) pl pu pst (by decide) ?_ (by rw [List.size_toArray]; omega)
    rw [PySem.W.krv_pick]
    refine ⟨.ref _, _, I5.laid (t' := s4.toks) (o := .lst vs.reverse) (fun b ob q => Heap.get?_push_of_some _ q) (Nat.le_refl _) ?_, rfl, fin_fl (kq.mono l1) z1 rs.reverse (I5.hok.fresh (Nat.le_refl _)) hq⟩
    exact ⟨by rw [List.length_reverse]; exact hsz, _, 0, r.reverse, Heap.get?_push_size _ rfl⟩
  cases r1 with
  | tup hs rs =>
    rename_i a vs xs
    obtain rfl : v = .ref a := rv
    obtain ⟨its, r, ht, hsz⟩ := I5.tuple (z1.sub.sqt hs)
    have hlen := r.length
    cases pl
    cases pu
    cases pst with
    | int i t =>
      refine tail_any (ops := [.ref a, .ref s4.heap.objs.size]) ht.typeIs (PyProof.Rows.slot_tuple_getitem.lookup) ?_ (by with_unfolding_all rfl)
      refine rev_item ht (Heap.IsSliceOf.new _ .none .none (.int (-1) t)) ?_ (by rw [List.size_toArray]; omega)
      refine ⟨.ref _, _, I5.laid (t' := s4.toks) (o := .tup vs.reverse) (fun b ob q => Heap.get?_push_of_some _ q) (Nat.le_refl _) ?_, rfl, fin_tup (kq.mono l1) z1 rs.reverse (I5.hok.fresh (Nat.le_refl _)) q1⟩
      exact ⟨by rw [List.length_reverse]; exact hsz, _, r.reverse, IsTup.new _ _⟩
  | fl hs rs => exact asList rv (z1.sub.sql hs) rs q1
  | ref =>
    rename_i a
    cases q : seqD m1 (.ref a) with
    | none => simp only [q] at q1
    | some xs =>
      simp only [q] at q1
      obtain ⟨b, vs, eb, hs, rs⟩ := seq_of z1 (.ref (a := a)) q
      cases eb
      exact asList rv hs rs q1
  | _ => exact q1.elim
end

/-! ### enumerate(t) -/
section
variable {prog : Program} {w : World} {A : Around} {E : Value → Shared → Prop} {s : Shared}
set_option maxHeartbeats 1000000 in
theorem meets_enum1 {v : Value} {o : Obj} {H : Heap → Prop} (B : Begins v o H) :
    Meets (Builtin.«enumerate.__new__» ⟨[.type "enumerate", v], []⟩) (fun _ R s => H s.heap ∧
      R (.ok (.ret (.ref (s.heap.push o).objs.size))) { s with heap := (s.heap.push o).push { cls := .type "enumerate", data := .fields #[.none, .bool false, .ref s.heap.objs.size, rawInt 0, .none, .none] } }) :=
  .of_wp fun prog w A R s hh => by
    obtain ⟨hp, g, d, tk, os⟩ := s
    obtain ⟨hH, hR⟩ := hh
    have hsub := sub_enumerate
    have itr : ∀ {A' : Around} {E : Value → Shared → Prop} {Q : Value → Shared → Prop}, Q (.ref hp.objs.size) ⟨hp.push o, g, d, tk, os⟩ → wpAny (model prog w) A' (pyIter v) Q E ⟨hp, g, d, tk, os⟩ := fun q => B.iter prog w _ _ ⟨hp, g, d, tk, os⟩ _ hH q
    wp_walk using itr
    refine wpAny_stack_any fun st => wpAny_pure ?_
    split
    · rename_i c _ _ _ _ _
      cases (c == Value.type "enumerate") <;> (wp_walk using itr; exact ⟨_, rfl, hR⟩)
    · wp_walk using itr
      exact ⟨_, rfl, hR⟩
theorem enum1_begins {v : Value} {o : Obj} {H : Heap → Prop} {Q : Value → Shared → Prop} (B : Begins v o H) (h1 : H s.heap)
    (h : ∀ h', IsEnum h' (s.heap.objs.size + 1) s.heap.objs.size 0 .none → h'.get? s.heap.objs.size = some o → (∀ b o, s.heap.get? b = some o → h'.get? b = some o) → Q (.ref (s.heap.objs.size + 1)) { s with heap := h' }) :
    wpAny (model prog w) A (call (.type "enumerate") [v]) Q E s := by
  refine callType_new F.called_enumerate (by decide) (F.typeCall_enumerate_1 _) (F.newCall_enumerate_1 _) (fun obj => F.args_object_init_2 obj _) F.entry_enumerate_new (meets_enum1 B) ⟨h1, ?_⟩
  have hz : (s.heap.push o).objs.size = s.heap.objs.size + 1 := Heap.size_push ..
  show _ ∧ _
  rw [hz]
  have isE : IsEnum ((s.heap.push o).push { cls := .type "enumerate", data := .fields #[.none, .bool false, .ref s.heap.objs.size, rawInt 0, .none, .none] }) (s.heap.objs.size + 1) s.heap.objs.size 0 .none := by
    have q := Heap.get?_push_size (s.heap.push o) (o := { cls := .type "enumerate", data := .fields #[.none, .bool false, .ref s.heap.objs.size, rawInt 0, .none, .none] }) rfl
    rw [hz] at q
    exact q
  exact ⟨⟨_, isE, rfl⟩, h _ isE (Heap.get?_push_of_some _ (Heap.get?_push_size _ B.free)) fun b o x => Heap.get?_push_of_some _ (Heap.get?_push_of_some _ x)⟩
end
/-- the tuple at a, each item in a new pair with its place -/
def IteT (K : PySem.W.Frag) (a : Addr) : It :=
  ⟨fun i H => ∃ (xs : List V) (x : V), SqT K H a xs ∧ xs[i]? = some x, fun i H v H' => ∃ p x, v = .ref p ∧ H p = none ∧ H' = upd H p (.tup [.int (i : Nat), x]) ∧ ∀ xs, SqT K H a xs → xs[i]? = some x, fun i H => ∃ xs : List V, SqT K H a xs ∧ xs.length ≤ i⟩
theorem turn_enumT {P : Program} {w : World} {K : PySem.W.Frag} {elts : List Expr} {kk : Nat} {tpos : Pos} (a e it : Addr) :
    Turn P w K (.Tuple elts kk tpos) (IteT K a) [e, it] e (fun i h => (∃ old, IsEnum h e it ((i : Nat) : Int) old) ∧ h.IsTupleIter it a i ∧ e ≠ it ∧ a ≠ it ∧ e ≠ a) where
  mem := by simp
  obj := fun i h st b hb => by
    obtain ⟨⟨old, isE⟩, ⟨o, ho, _, hd⟩, _⟩ := st
    rcases (by simpa using hb : b = e ∨ b = it) with z | z
    · rw [z]
      exact ⟨_, isE, fun v q => nomatch q⟩
    · rw [z]
      exact ⟨o, ho, fun v q => by rw [hd] at q; cases q⟩
  keep := fun i h h' st k => by
    obtain ⟨⟨old, isE⟩, hi, hr⟩ := st
    exact ⟨⟨old, k e (by simp) _ isE⟩, hi.at fun o q => k it (by simp) o q, hr⟩
  item := by
    intro X hP hw hK hc i pins s σ H E I hf st hg
    subst hP hw hK
    obtain ⟨⟨old, isE⟩, hit, hne, hai, hea⟩ := st
    obtain ⟨xs, x, hq, hx⟩ := hg
    obtain ⟨its, rv, ht, hz⟩ := I.tuple hq
    obtain ⟨u, hu, ru⟩ := rv.get hx
    have le1 : e < s.heap.objs.size := Heap.lt_size isE
    have le2 : it < s.heap.objs.size := by obtain ⟨_, q, _⟩ := hit; exact Heap.lt_size q
    have hlt : i < its.toArray.size := by
      rw [List.size_toArray]
      exact (List.getElem?_eq_some_iff.mp hu).1
    refine wpAny_pyNext_enum_itemD (Draws.tuple (prog := X.prog) (w := X.w) (A := X.A.in1) (I.ok.hd hc) it a hai its.toArray) isE ⟨hit, ht⟩ hlt hne (by simp [hne, hea]) fun y h' tk hy hout hst hT hsz hk => ?_
    have ey : y = u := by
      have h1 : its.toArray[i]? = some y := hy
      rw [List.getElem?_toArray, hu] at h1
      exact (Option.some.inj h1).symm
    subst ey
    refine ⟨_, rfl, wpAny_letOwnedTupleGo_enum (s := { s with heap := h', toks := tk + 1 }) hout fun h2 isE2 sb => ?_⟩
    have hT2 : h2.get? s.heap.objs.size = some { cls := .type "tuple", data := .seq #[.int i tk, y] } := (sb.2 _ (Nat.ne_of_gt le1)).trans hT
    have new : ObjOk X.prog X.w (upd H s.heap.objs.size (.tup [.int (i : Nat), x])) h2 s.heap.objs.size (.tup [.int (i : Nat), x]) := ⟨by show 2 ≤ sizeLine; decide, [.int i tk, y], .cons ⟨_, rfl⟩ (.cons ru .nil), ⟨_, hT2, rfl, _, rfl⟩⟩
    have J : Inv X pins σ (upd H s.heap.objs.size (.tup [.int (i : Nat), x])) { s with heap := h2, toks := tk + 1 } :=
      I.turnedNew (ch := [e, it]) (fun b ob hb q => (sb.2 b fun z => hb (by simp [z])).trans (hk b ob (fun z => hb (by simp [z])) (fun z => hb (by simp [z])) q)) hf (Nat.le_refl _) new
    refine ⟨.ref s.heap.objs.size, _, J, rfl, ⟨_, x, rfl, I.hok.fresh (Nat.le_refl _), rfl, fun ys hy => by rw [I.tuple_inj hy hq]; exact hx⟩, ⟨⟨y, ?_⟩, hst.1.at fun o q => (sb.2 it (Ne.symm hne)).trans q, hne, hai, hea⟩, fun b hb => ?_⟩
    · rw [show ((i + 1 : Nat) : Int) = (i : Int) + 1 by omega]
      exact isE2
    · have hb' : b < s.heap.objs.size := by
        rcases (by simpa using hb : b = e ∨ b = it) with z | z
        · rw [z]; exact le1
        · rw [z]; exact le2
      rw [upd_ne (Nat.ne_of_lt hb')]
      exact (hf b hb).1
  done := by
    intro X hP hw hK hc i pins s σ H E I hf st hg
    subst hP hw hK
    obtain ⟨⟨old, isE⟩, hit, hne, hai, hea⟩ := st
    obtain ⟨xs, hq, hx⟩ := hg
    obtain ⟨its, rv, ht, hz⟩ := I.tuple hq
    obtain ⟨f0, f1, f2, f3, f4, f5⟩ := hf it (by simp)
    have hlen := rv.length
    have D' : Draws X.prog X.w X.A.in1 it [it, a] i (fun _ _ => True) (fun j h => j = i ∧ h.IsTupleIter it a i ∧ h.IsTuple a its.toArray) :=
      ⟨fun _ _ st => by obtain ⟨_, ⟨o, ho, _⟩, _⟩ := st; exact ⟨o, ho⟩, fun _ _ _ st hk => ⟨st.1, st.2.1.at fun o e => hk it (by simp) o e, st.2.2.at fun o e => hk a (by simp) o e⟩,
        fun j _ _ _ hj st _ => absurd st.1 (Nat.ne_of_lt hj), fun s Q E st hE => wpAny_nextOf_tuple_end (I.ok.hd hc) st.2.1 st.2.2 (by rw [List.getElem?_toArray]; exact List.getElem?_eq_none (by omega)) hE⟩
    exact wpAny_pyNext_enum_endD D' isE ⟨rfl, hit, ht⟩ fun h' eb => ⟨rfl, I.turned (t' := s.toks) (fun b o hb q => eb b o hb q) f0 f1 f3 f4 f5⟩
  self := fun A i s Q E st h => let ⟨⟨_, he⟩, _⟩ := st; wpAny_pyIter_enum he h
/-- enumerate of a list or a tuple -/
def ienumT (t : ZTA) : ZTI := fun ρ m Q E => t ρ m (fun xs m1 => match xs with
  | [.tup xs] => Q ⟨xs.length, fun i => .tup [.int i, xs.getD i .non], fun _ => True⟩ m1
  | _ => False) E
theorem r_ienumT {X : Cx} {W : WX} {e : Expr} {p pos : Pos} {zl : ZTA} {elts : List Expr} {kk : Nat} {tpos : Pos} (hm : X.mg "enumerate" = none) (ha : PA X [e] (LA X.K W zl)) (hg : Gl X "enumerate" := by rfl) (hs : starEach [e] X.env = [(false, eval e X.env)] := by rfl) : PI X (.Tuple elts kk tpos) (.Call (.Name "enumerate" p) [e] [] pos) (LI X.K W (ienumT zl)) := by
  refine ⟨fun pins s σ H R I ⟨F, ρ, m, Pi, Qz, Ez, hz, hE, h, kq, kx⟩ => ?_⟩
  have h0 : LA X.K W zl σ H (fun vs H1 => ∃ a xs vs' m1 P1, vs = [.ref a] ∧ Zm X.K F m1 P1 H1 ∧ PLe Pi P1 ∧ SqT X.K P1 a vs' ∧ Reps X.K P1 xs vs' ∧ Qz ⟨xs.length, fun i => .tup [.int i, xs.getD i .non], fun _ => True⟩ m1) := by
    refine ⟨F, ρ, m, Pi, _, Ez, hz, hE, h, fun ds m1 P1 vs H1 l1 z1 r1 q1 => ?_, kx⟩
    dsimp only at q1
    split at q1
    · obtain ⟨v, rfl, r2⟩ := reps1 r1
      cases r2 with
      | tup hs rs => exact ⟨_, _, _, m1, P1, rfl, z1, l1, hs, rs, q1⟩
    · exact q1.elim
  refine Call_ (ld_blt I hg hm boot_enumerate (PyProof.Rows.callWith_type1 (thn (ha.run pos pins s σ H _ I h0) fun us s1 ⟨vs, H1, I1, r1, a, xs, vs', m1, P1, ev, z1, l1, hT, rs, q1⟩ => ?_) hs rfl))
  subst ev
  obtain ⟨u, rfl, ru⟩ := vals1 r1
  obtain rfl : u = .ref a := ru
  obtain ⟨its, rv, ht, hsz⟩ := I1.tuple (z1.sub.sqt hT)
  have hlt := ht.lt
  refine enum1_begins (begins_tuple a its.toArray) ht fun h' isE hit hk => wpAny_pyIter_enum isE ?_
  have I2 : Inv X pins σ H1 { s1 with heap := h' } := I1.kept (t' := s1.toks) hk
  have wk : WkOk X.K P1 (IteT X.K a) ⟨xs.length, fun i => .tup [.int i, xs.getD i .non], fun _ => True⟩ := by
    intro F i m P' H l z _
    have hT' := z.sub.sqt (l.sqt hT)
    have rs' := rs.mono l
    refine ⟨fun h => ?_, fun h => ⟨vs', hT', by rw [← rs'.length]; exact Nat.le_of_eq h.symm⟩⟩
    obtain ⟨v, e, r⟩ := reps_getD rs' h
    refine ⟨⟨vs', v, hT', e⟩, fun x H' hy => ?_⟩
    obtain ⟨T, y, rfl, nT, rfl, f⟩ := hy
    have e2 := f vs' hT'
    rw [e] at e2
    cases e2
    obtain ⟨z2, l2⟩ := z.newPi nT (.tup [.int (i : Nat), v])
    exact ⟨_, l2, z2, .tup (.inl (.inl upd_same)) (.cons .int (.cons (r.mono l2) .nil))⟩
  refine ⟨s1.heap.objs.size + 1, [s1.heap.objs.size + 1, s1.heap.objs.size], _, IteT X.K a, H1, rfl, I2, turn_enumT a (s1.heap.objs.size + 1) s1.heap.objs.size,
    ⟨⟨.none, isE⟩, ⟨_, hit, rfl, rfl⟩, Nat.succ_ne_self _, Nat.ne_of_lt hlt, Nat.ne_of_gt (Nat.lt_succ_of_lt hlt)⟩, fun b hb => ?_, kq _ m1 P1 _ H1 l1 z1 wk q1⟩
  have hle : s1.heap.objs.size ≤ b := by
    rcases (by simpa using hb : b = s1.heap.objs.size + 1 ∨ b = s1.heap.objs.size) with z | z
    · rw [z]; exact Nat.le_succ _
    · rw [z]; exact Nat.le_refl _
  exact I1.fpOk hle (I1.hok.fresh hle)
section
variable {X : Cx} {W : WX} {a b c : Expr} {pos : Pos} {za zb zc' : ZTE}
theorem r_tcmp {op : CmpOp} {o : ZOp} (ho : OpR X (compareOp op) (RS X.K o)) (ha : PE X a (LE X.K W za)) (hb : PE X b (LE X.K W zb)) (hm : behindInMarks op b = false := by rfl) : PT X (.Compare a [op] [b] pos) (LT X.K W (tvl (zop o za zb))) := by
  refine pt_imp (pt_cmpR ho ha hb hm) fun σ H Q ⟨F, ρ, m, Pi, Qz, Ez, hz, he, h, k, kx⟩ => ?_
  refine ⟨F, ρ, m, Pi, _, Ez, hz, he, h, fun x m1 P1 v H1 l1 z1 r1 q1 => ⟨F, ρ, m1, P1, _, Ez, z1, he.mono l1, q1, fun y m2 P2 u H2 l2 z2 r2 q2 => ⟨x, y, F, m2, P2, _, z2, r1.mono l2, r2, q2, fun d m3 P3 v3 H3 l3 z3 r3 q3 => ?_⟩, kx.mono l1⟩, kx⟩
  cases r3 with
  | bl => exact ⟨_, rfl, k _ m3 P3 H3 ((l1.trans l2).trans l3) z3 q3⟩
  | _ => exact q3.elim
theorem r_tchn {op op' : CmpOp} {o o' : ZOp} (ho : OpR X (compareOp op) (RS X.K o)) (ho' : OpR X (compareOp op') (RS X.K o')) (ha : PE X a (LE X.K W za)) (hb : PE X b (LE X.K W zb)) (hc : PE X c (LE X.K W zc')) (hm : lastMarks [op, op'] [b, c] = false := by with_unfolding_all rfl) :
    PT X (.Compare a [op, op'] [b, c] pos) (LT X.K W (tvl (zchn o o' za zb zc'))) := by
  refine pt_imp (pt_chain ho ho' ha hb hc hm) fun σ H Q ⟨F, ρ, m, Pi, Qz, Ez, hz, he, h, k, kx⟩ => ?_
  refine ⟨F, ρ, m, Pi, _, Ez, hz, he, h, fun x m1 P1 v H1 l1 z1 r1 q1 => ⟨F, ρ, m1, P1, _, Ez, z1, he.mono l1, q1, fun y m2 P2 u H2 l2 z2 r2 q2 => ⟨x, y, F, m2, P2, _, z2, r1.mono l2, r2, q2, fun d m3 P3 v3 H3 l3 z3 r3 q3 => ?_⟩, kx.mono l1⟩, kx⟩
  cases r3 with
  | bl =>
    rename_i kb
    refine ⟨kb, rfl, ?_⟩
    cases kb with
    | true =>
      simp only [if_true] at q3 ⊢
      refine ⟨F, ρ, m3, P3, _, Ez, z3, (he.mono l1).mono (l2.trans l3), q3, fun w m4 P4 u4 H4 l4 z4 r4 q4 => ⟨y, w, F, m4, P4, _, z4, (r2.mono l3).mono l4, r4, q4, fun d m5 P5 v5 H5 l5 z5 r5 q5 => ?_⟩, kx.mono ((l1.trans l2).trans l3)⟩
      cases r5 with
      | bl => exact ⟨_, rfl, k _ m5 P5 H5 ((((l1.trans l2).trans l3).trans l4).trans l5) z5 q5⟩
      | _ => exact q5.elim
    | false =>
      simp only [Bool.false_eq_true, if_false] at q3 ⊢
      exact ⟨false, rfl, k _ m3 P3 H3 ((l1.trans l2).trans l3) z3 q3⟩
  | _ => exact q3.elim
end
/-- a list or a tuple is walked -/
def iseq (a : ZTE) : ZTI := fun ρ m Q E => a ρ m (fun x m1 => match x with
  | .fl xs => Q (wkL xs) m1
  | .tup xs => Q (wkL xs) m1
  | .ref p => match m1 p with
    | some (.lst xs) => Q ⟨xs.length, fun i => xs.getD i .non, fun m => m p = some (.lst xs)⟩ m1
    | _ => False
  | _ => False) E
def tSeqs (K : PySem.W.Frag) (tl : TE) : TI := fun σ H R => tl σ H fun x H1 => ∃ a, x = .ref a ∧ (((∃ xs, SqL K H1 a xs) ∧ R (Itl K a) H1) ∨ ((∃ xs, SqT K H1 a xs) ∧ R (Itt K a) H1))
theorem pi_seqs {X : Cx} {tg l : Expr} {tl : TE} (hl : PE X l tl) : PI X tg l (tSeqs X.K tl) := by
  refine ⟨fun pins s σ H R I h => thn (hl.run pins s σ H _ I h) fun v s1 hv => ?_⟩
  obtain ⟨x, H1, I1, r1, a, rfl, q1⟩ := hv
  obtain rfl : v = .ref a := r1
  have fresh : ∀ b ∈ [s1.heap.objs.size], FpOk X pins H1 b := fun b hb => by
    obtain rfl : b = s1.heap.objs.size := by simpa using hb
    exact I1.fpOk (Nat.le_refl _) (I1.hok.fresh (Nat.le_refl _))
  rcases q1 with ⟨⟨xs, hq⟩, q⟩ | ⟨⟨xs, hq⟩, q⟩
  · obtain ⟨its, _, pl, _⟩ := I1.list hq
    exact wpAny_pyIter_list pl.isList ⟨_, [s1.heap.objs.size], _, _, H1, rfl, I1.kept (t' := s1.toks) fun b o e => Heap.get?_push_of_some _ e, turn_list a _, ⟨_, Heap.get?_push_size _ rfl, rfl, rfl⟩, fresh, q⟩
  · obtain ⟨its, _, pt, _⟩ := I1.tuple hq
    exact wpAny_pyIter_tuple (show s1.heap.IsTuple a its.toArray from pt) ⟨_, [s1.heap.objs.size], _, _, H1, rfl, I1.kept (t' := s1.toks) fun b o e => Heap.get?_push_of_some _ e, turn_tuple a _, ⟨_, Heap.get?_push_size _ rfl, rfl, rfl⟩, fresh, q⟩
theorem r_iseq {X : Cx} {W : WX} {tg e : Expr} {ze : ZTE} (he : PE X e (LE X.K W ze)) : PI X tg e (LI X.K W (iseq ze)) := by
  refine pi_imp (pi_seqs he) fun σ H Q ⟨F, ρ, m, Pi, Qz, Ez, hz, he, h, k, kx⟩ => ?_
  refine ⟨F, ρ, m, Pi, _, Ez, hz, he, h, fun x m1 P1 v H1 l1 z1 r1 q1 => ?_, kx⟩
  cases r1 with
  | fl hs rs => exact ⟨_, rfl, .inl ⟨⟨_, z1.sub.sql hs⟩, k _ m1 P1 _ H1 l1 z1 (wk_list (vs := []) fun F m P' H l z _ => ⟨_, z.sub.sql (l.sql hs), rs.mono l⟩) q1⟩⟩
  | ref =>
    rename_i a
    dsimp only at q1
    cases q : m1 a with
    | none => rw [q] at q1; exact q1.elim
    | some o =>
      rw [q] at q1
      cases o with
      | lst xs =>
        obtain ⟨us, e1, rs⟩ := z1.ok a _ q
        refine ⟨_, rfl, .inl ⟨⟨_, .inl (.inl e1)⟩, k _ m1 P1 _ H1 l1 z1 (wk_list (vs := []) fun F m P' H l z hi => ?_) q1⟩⟩
        obtain ⟨ws, e2, rs2⟩ := z.ok a _ hi
        exact ⟨ws, .inl (.inl e2), rs2⟩
      | _ => exact q1.elim
  | tup hs rs =>
    rename_i a vs xs
    refine ⟨_, rfl, .inr ⟨⟨_, z1.sub.sqt hs⟩, k _ m1 P1 _ H1 l1 z1 (fun F i m P' H l z _ => ⟨fun h => ?_, fun h => ⟨vs, z.sub.sqt (l.sqt hs), by rw [← rs.length]; exact Nat.le_of_eq h.symm⟩⟩) q1⟩⟩
    obtain ⟨v, e, r⟩ := reps_getD (rs.mono l) h
    refine ⟨⟨vs, v, z.sub.sqt (l.sqt hs), e⟩, fun x H' hy => ?_⟩
    obtain ⟨rfl, f⟩ := hy
    have e2 := f vs (z.sub.sqt (l.sqt hs))
    rw [e] at e2
    cases e2
    exact ⟨P', PLe.refl, z, r⟩
  | _ => exact q1.elim
end Zed
end
section
set_option maxHeartbeats 4000000
/-! Zed9: a def's promise made a name's. -/
namespace Zed
open PySem PySem.Spec PyProof.Rows L2
/-- contracts with defaults, with words -/
def defC (c0 : ZSp) (dd : List D) : ZSp := fun ds m Q E => c0 (ds ++ dd) m Q E
def kwC (c0 : ZSp) (n k : Nat) : List D → ZSp := fun xs zs m Q E => xs.length = n ∧ zs.length = k ∧ c0 (xs ++ zs) m Q E
/-- the law's own call -/
theorem sp_start {K : PySem.W.Frag} {H : Hp} {a : Addr} {ns : List Int} {c : ZSp} (hS : SqL K H a (ns.map V.int)) (h : ∀ m, c [.fl (ns.map .int)] m (fun d _ => d = .bl true) (fun _ _ => False)) :
    SpOf K c [.ref a] H (fun v _ => v = .bl true) fun _ _ _ => False := by
  refine ⟨[.fl (ns.map .int)], fun _ => none, fun _ => none, H, fun d _ => d = .bl true, fun _ _ => False, ⟨PLe.refl, (fun b o e => by cases e), (fun b e => absurd rfl e), (fun b o e => by cases e), (fun b e => absurd rfl e), (fun b o e => by cases e)⟩, .cons (.fl hS (Reps.ints ns)) .nil, h _, ?_, ?_⟩
  · intro d m Pi' v H' l z r e
    subst e
    cases r
    rfl
  · intro x m P' c dd H' l z r e
    exact e
theorem cx_no {P : Program} {w : World} (H : Hp) (s : Shared) (e : Value) (s' : Shared) (h : L2.CX P w [] H s (fun _ _ _ => False) e s') : False := by
  obtain ⟨_, _, _, _, _, _, _, _, _, _, _, _, z⟩ := h
  exact z.elim
/-- the end: facts of a part of the heap, the law's contract -/
theorem walk_z {L : PySem.W.OpenLaw} {r : Nat} {q : Program} {ls : List Str} {XP : (Str → Option Value) → Heap → Prop} {YP : World → Heap → Prop} {d : DefRec} {par : Str} {c : ZSp}
    (hn : L.most = some 63) (hdf : d.params.defaults = []) (hr : Room r callerA) (hc : ∀ (ns : List Int) m, ns.length ≤ 63 → c [.fl (ns.map .int)] m (fun d _ => d = .bl true) (fun _ _ => False))
    (F : ∀ (w : World) (mg : Str → Option Value) (fa : Addr) (h : Heap), YP w h → h.Ns mainGlobals mg → mg d.name = some (.ref fa) → ∃ (K : PySem.W.Frag) (fd : FuncData), K.In h ∧ (∀ (s : Shared) (u : Value), BindsTo s fd ⟨[u], []⟩ [(par, u)]) ∧
      ∀ base : Heap, K.In base → base.Ns mainGlobals mg → FnOk L.prog w K mg base (L2.CX L.prog w) r fa fd [par] (SpOf K c)) :
    PySem.W.WalkO q ls XP YP L.row.toRowW d [] (fun f vs => PySem.call f vs) := by
  refine Att.attach_call hn hdf fun w t0 t1 mg bi fa ob pm cd doc a vs ns G Y ho hd hcd hm hobj hi hl hg => ?_
  obtain ⟨K, fd, X, hb, hF⟩ := F w mg fa _ Y G.T.g hm
  exact law_call X G.T.g G.T.b G.T.builtins G.T.nolimit hg hobj hi (Nat.le_trans hl (by decide)) hr hF hb (fun H _ hS => sp_start hS fun m => hc ns m hl) fun H e s2 z => cx_no H t1 e s2 z
section
variable {P : Program} {w : World} {K : PySem.W.Frag} {mg : Str → Option Value} {base : Heap} {k n : Nat} {x qual : Str} {args : Arguments} {body : List Stmt} {scope : Scope} {f : Addr} {fd : FuncData} {ps : List Str} {c c0 : ZSp}
theorem g_mk (F : FunD K x qual args body scope [] [] f fd) (gx : mg x = some (.ref f)) (ok : FnOk P w K mg base (L2.CX P w) k f fd ps (SpOf K c))
    (h : ∀ (kV doc pm : Value) (an : Option Addr) (cdv ct : Value) (us : List Value), us.length = ps.length → bindArgs (PySem.W.fnOf x qual args body scope .none kV doc pm an cdv ct) ⟨us, []⟩ = pure (ps.zip us)) : GDef P w K mg base k x c :=
  ⟨f, fd, ps, [], [], [], c, gx, F.kp, ok, F.bindsN h, .nil, .nil, fun xs m Q E h => by rw [List.append_nil]; exact h⟩
/-- keyword-only parameters, by their defaults -/
theorem g_mkD {kws : List (Str × V)} {dd : List D} (F : FunD K x qual args body scope [] kws f fd) (gx : mg x = some (.ref f)) (ok : FnOk P w K mg base (L2.CX P w) k f fd ps (SpOf K c0)) (n : Nat) (hk : kws ≠ []) (hn : n + kws.length = ps.length) (hd : Reps K (fun _ => none) dd (kws.map (·.2)))
    (h : ∀ (D : Addr) (doc pm : Value) (an : Option Addr) (cdv ct : Value) (us ks : List Value), us.length = n → ks.length = kws.length →
      KwChain D ((kws.map (·.1)).zip ks) (bindArgs (PySem.W.fnOf x qual args body scope .none (.ref D) doc pm an cdv ct) ⟨us, []⟩) (ps.zip (us ++ ks))) : GDef P w K mg base k x (defC c0 dd) := by
  obtain ⟨ds, hv, hb⟩ := F.binds0 n hk hn h
  exact ⟨f, fd, ps, _, ds, dd, c0, gx, F.kp, ok, hb, hv, hd, fun xs m Q E h => h⟩
/-- keyword-only parameters, all told -/
theorem g_mkK {kws : List (Str × V)} (F : FunD K x qual args body scope [] kws f fd) (gx : mg x = some (.ref f)) (ok : FnOk P w K mg base (L2.CX P w) k f fd ps (SpOf K c0)) (n : Nat) (ks : List Str) (hk : kws ≠ [])
    (h : ∀ (D : Addr) (doc pm : Value) (an : Option Addr) (cdv ct : Value) (us ws : List Value), us.length = n → ws.length = ks.length →
      bindArgs (PySem.W.fnOf x qual args body scope .none (.ref D) doc pm an cdv ct) ⟨us, ks.zip ws⟩ = pure (ps.zip (us ++ ws))) : GDefK P w K mg base k x n ks (kwC c0 n ks.length) := by
  obtain ⟨mv, hb⟩ := F.kbinds0 n ks [] (fun us _ ws => us ++ ws) hk (fun q hq => by cases hq) (fun a _ c => a.append c) fun D doc pm an cdv ct us mv ws h1 _ h2 => h D doc pm an cdv ct us ws h1 h2
  exact ⟨f, fd, ps, _, _, c0, gx, F.kp, ok, hb, fun Pi xs zs vs ws m Q E r1 r2 h => ⟨h.1, h.2.1, xs ++ zs, r1.append r2, h.2.2⟩⟩
end
end Zed
end
section
set_option maxHeartbeats 4000000
/-! Zed10: a starred target. -/
namespace Zed
open PySem PySem.Spec PyProof.Rows L2
/-- *a, b, .. = a list: the i-th of n targets takes what is left -/
def gStarV (K : PySem.W.Frag) (n i : Nat) (t : TGs) : TG := fun v σ H Q => ∃ a xs, v = .ref a ∧ SqL K H a xs ∧ i < n ∧ n ≤ xs.length + 1 ∧ xs.length ≤ 16384 ∧
  ∀ p, H p = none → t (xs.take i ++ [.ref p] ++ (xs.drop i).drop (xs.length + 1 - n)) σ (upd H p (.lst ((xs.drop i).take (xs.length + 1 - n)))) Q
theorem vrel_take {xs : List V} {us : List Value} (k : Nat) : Vals xs us → Vals (xs.take k) (us.take k) := fun r => by
  induction r generalizing k with
  | nil => cases k <;> exact .nil
  | cons a b ih => cases k with
    | zero => exact .nil
    | succ k => exact .cons a (ih k)
theorem vrel_drop {xs : List V} {us : List Value} (k : Nat) : Vals xs us → Vals (xs.drop k) (us.drop k) := fun r => by
  induction r generalizing k with
  | nil => cases k <;> exact .nil
  | cons a b ih => cases k with
    | zero => exact .cons a b
    | succ k => exact ih k
theorem vrel_app {xs ys : List V} {us ws : List Value} : Vals xs us → Vals ys ws → Vals (xs ++ ys) (us ++ ws)
  | .nil, s => s
  | .cons a b, s => .cons a (vrel_app b s)
theorem pg_starV {X : Cx} {es : List Expr} {k : Nat} {pos : Pos} {t : TGs} {n i : Nat} (hc : X.calm = true) (h : PGs X es t)
    (hn : (assignEach es X.env).length = n) (hst : (assignEach es X.env).findIdx? (·.1) = some i) : PG X (.Tuple es k pos) (gStarV X.K n i t) := by
  refine ⟨fun pins s σ H v u Q I r hw => ?_⟩
  obtain ⟨l, xs, rfl, hq, hi, hnl, h16, hw⟩ := hw
  cases r
  obtain ⟨its, rv, hp, hz⟩ := I.list hq
  have hl : s.heap.IsList l its.toArray := hp.isList
  have hsz : its.toArray.size = xs.length := by rw [List.size_toArray]; exact rv.length.symm
  have hlt : l ≠ s.heap.objs.size := by obtain ⟨o, ho, _⟩ := hl; exact Nat.ne_of_lt (Heap.lt_size ho)
  have hll : l < s.heap.objs.size := by obtain ⟨o, ho, _⟩ := hl; exact Heap.lt_size ho
  have hh := I.ok.hd hc
  rw [PyProof.Rows.assign_Tuple]
  refine wpAny_bind (wpAny_standAt ?_)
  unfold unpack
  rw [hn, hst]
  refine wpAny_bind (wpAny_holding ?_)
  unfold unpackItems
  refine wpAny_bind ?_
  unfold notIterableAtAll
  refine wpAny_bind (wpAny_specialOf hl.typeIs slot_list_iter.lookup ?_)
  refine wpAny_pure ?_
  simp only [Bool.false_eq_true, if_false]
  refine wpAny_bind (wpAny_holding (wpAny_pyIter_list hl ?_))
  refine wpAny_bind (wpAny_holding (PySem.W.kun_draw hlt i 0 _ _ ⟨_, Heap.get?_push_size _ rfl, rfl, rfl⟩ (hl.push _) (by omega) fun h1 hit1 hs1 => ?_))
  have hl1 : h1.IsList l its.toArray := (hl.push _).extBut hs1.extBut hlt
  rw [Nat.zero_add] at hit1
  have hit1' := hit1
  obtain ⟨oi, hoi, _⟩ := hit1'
  have hl1' := hl1
  obtain ⟨ol, hol, _⟩ := hl1'
  rw [List.drop_zero]
  have hfl : (its.take i).length = i := by rw [List.length_take, ← rv.length]; omega
  rw [if_neg (show ¬ ((its.take i).length < i) by rw [hfl]; omega)]
  refine wpAny_bind (wpAny_holding (PySem.W.kun_collect (s := { s with heap := h1 }) (T := "list_iterator") (.inr (.inr (.inl rfl))) (Walks.list (A := X.A.in1) hh s.heap.objs.size l hlt its.toArray) (fun j u st => st.1.typeIs) (k := i) (by omega) ⟨hit1, hl1⟩
    (Heap.lt_size hoi) (Heap.lt_size hol) (fun h2 tk hk => ?_) (by rw [sizeLine_eq]; omega)))
  have hrl : (its.drop i).length = xs.length - i := by rw [List.length_drop, ← rv.length]
  have hmid : (its.drop i).length - (n - 1 - i) = xs.length + 1 - n := by rw [hrl]; omega
  show wpAny _ _ (if (its.drop i).length < n - 1 - i then _ else _) _ _ _
  rw [if_neg (by rw [hrl]; omega)]
  show wpAny _ _ (newList ((its.drop i).take ((its.drop i).length - (n - 1 - i))) >>= fun d => pure (its.take i ++ [d] ++ (its.drop i).drop ((its.drop i).length - (n - 1 - i)))) _ _ _
  rw [hmid]
  have he : ∀ b o, s.heap.get? b = some o → h2.get? b = some o := fun b o e => hk b o (Nat.ne_of_lt (Heap.lt_size e)) (hs1.extBut b o (Nat.ne_of_lt (Heap.lt_size e)) (Heap.get?_push_of_some _ e))
  have I1 : Inv X pins σ H { s with heap := h2, toks := tk } := I.kept he
  have hlen : ((its.drop i).take (xs.length + 1 - n)).length ≤ sizeLine := by rw [List.length_take, hrl, sizeLine_eq]; omega
  refine wpAny_bind (wpAny_newList ?_ hlen)
  have rm : Vals ((xs.drop i).take (xs.length + 1 - n)) ((its.drop i).take (xs.length + 1 - n)) := vrel_take _ (vrel_drop _ rv)
  have hf : H h2.objs.size = none := I1.hok.fresh (Nat.le_refl _)
  have I2 : Inv X pins σ (upd H h2.objs.size (.lst ((xs.drop i).take (xs.length + 1 - n)))) { s with heap := h2.push (seqObj "list" ((its.drop i).take (xs.length + 1 - n)).toArray 0), toks := tk } :=
    I1.laid (t' := tk) (fun b u e => Heap.get?_push_of_some _ e) (Nat.le_refl _) ⟨by rw [rm.length]; exact hlen, _, 0, rm, Heap.get?_push_size _ rfl⟩
  refine wpAny_pure ?_
  exact h.run pins _ σ _ _ _ Q I2 (vrel_app (vrel_app (vrel_take _ rv) (.cons (show RelV (.ref h2.objs.size) (Value.ref h2.objs.size) from rfl) .nil)) (vrel_drop _ (vrel_drop _ rv))) (hw _ hf)
theorem pg_or {X : Cx} {e : Expr} {t1 t2 : TG} (h1 : PG X e t1) (h2 : PG X e t2) : PG X e (fun v σ H Q => t1 v σ H Q ∨ t2 v σ H Q) :=
  ⟨fun pins s σ H v u Q I r hw => hw.elim (h1.run pins s σ H v u Q I r) (h2.run pins s σ H v u Q I r)⟩
/-- the same of data -/
def gstar (n i : Nat) (gs : ZTGs) : ZTG := fun d ρ m Q E => match seqD m d with
  | some xs => i < n ∧ n ≤ xs.length + 1 ∧ xs.length ≤ 16384 ∧ gs (xs.take i ++ [.fl ((xs.drop i).take (xs.length + 1 - n))] ++ (xs.drop i).drop (xs.length + 1 - n)) ρ m Q E
  | none => False
/-- a, b = a tuple or a list -/
def gtupA (n : Nat) (gs : ZTGs) : ZTG := fun d ρ m Q E => match d with
  | .tup xs => xs.length = n ∧ gs xs ρ m Q E
  | d => match seqD m d with
    | some xs => xs.length = n ∧ gs xs ρ m Q E
    | none => False
section
variable {X : Cx} {W : WX} {pos : Pos} {es : List Expr} {vs : List Nat} {gs : ZTGs}
theorem r_gstar {k n i : Nat} (hc : X.calm = true) (h : PGs X es (LGs X.K W vs gs)) (hn : (assignEach es X.env).length = n := by rfl) (hst : (assignEach es X.env).findIdx? (·.1) = some i := by rfl) : PG X (.Tuple es k pos) (LG X.K W vs (gstar n i gs)) := by
  refine pg_imp (pg_starV hc h hn hst) fun v σ H Q ⟨d, F, ρ, m, Pi, Qz, Ez, hz, he, hr, h, k, kx⟩ => ?_
  unfold gstar at h
  cases q : seqD m d with
  | none => rw [q] at h; exact h.elim
  | some xs =>
    rw [q] at h
    obtain ⟨h1, h2, h3, h4⟩ := h
    obtain ⟨a, us, rfl, hs, rs⟩ := seq_of hz hr q
    have el := rs.length
    refine ⟨a, us, rfl, hs, h1, by omega, by omega, fun p np => ?_⟩
    obtain ⟨z2, l2⟩ := hz.newPi np (.lst ((us.drop i).take (us.length + 1 - n)))
    rw [el] at h4
    exact ⟨_, F, ρ, m, _, Qz, Ez, z2, he.mono l2, (((rs.take i).mono l2).append (.cons (.fl (.inl (.inl upd_same)) (((rs.drop i).take _).mono l2)) .nil)).append (((rs.drop i).drop _).mono l2), h4, k.mono l2, fun σ' hw => (kx σ' hw).mono l2⟩
theorem r_gtupA {k n : Nat} (hc : X.calm = true) (h : PGs X es (LGs X.K W vs gs)) (hn : (assignEach es X.env).length = n := by rfl) (hst : (assignEach es X.env).findIdx? (·.1) = none := by rfl) : PG X (.Tuple es k pos) (LG X.K W vs (gtupA n gs)) := by
  refine pg_imp (pg_or (pg_tup hc h hn hst) (pg_lst hc h hn hst)) fun v σ H Q ⟨d, F, ρ, m, Pi, Qz, Ez, hz, he, hr, h, k, kx⟩ => ?_
  have hl : ∀ xs, seqD m d = some xs → xs.length = n ∧ gs xs ρ m Qz Ez → gLst X.K n (LGs X.K W vs gs) v σ H Q := fun xs q g => by
    obtain ⟨a, us, rfl, hs, rs⟩ := seq_of hz hr q
    exact ⟨_, _, rfl, hs, by rw [← rs.length]; exact g.1, _, F, ρ, m, Pi, Qz, Ez, hz, he, rs, g.2, k, kx⟩
  cases d with
  | tup xs =>
    cases hr with
    | tup hs rs => exact .inl ⟨_, _, rfl, hz.sub.sqt hs, by rw [← rs.length]; exact h.1, _, F, ρ, m, Pi, Qz, Ez, hz, he, rs, h.2, k, kx⟩
  | _ =>
    simp only [gtupA] at h
    split at h
    · rename_i xs q
      exact .inr (hl xs q h)
    · exact h.elim
end
theorem pgs_star {X : Cx} {e : Expr} {p : Pos} {es : List Expr} {t : TGs} (h : PGs X (e :: es) t) (hs : (assignEach (.Starred e p :: es) X.env).map (·.2) = (assignEach (e :: es) X.env).map (·.2) := by rfl) : PGs X (.Starred e p :: es) t :=
  ⟨fun pins s σ H vs us Q I r q => by rw [hs]; exact h.run pins s σ H vs us Q I r q⟩
/-! ### o[i] op= v, of a list -/
theorem get_list {X : Cx} : PGet X (rIxL X.K) := by
  intro pins s σ H x y v u Q I rx ry h
  obtain ⟨p, xs, i, z, rfl, rfl, hq, he, q⟩ := h
  cases rx
  obtain ⟨t, rfl⟩ := ry
  obtain ⟨its, r, pl, hz⟩ := I.list hq
  obtain ⟨j, h1, h2, h3, h4, h5⟩ := atI_get he
  obtain ⟨w, ew, rw'⟩ := r.get h2
  have hl := r.length
  have hn := line63
  have fin : EP X pins σ Q w s := ⟨z, H, I, rw', q⟩
  by_cases h0 : 0 ≤ i
  · have hj : i.toNat = j := by
      rw [seqIndex_of h0 h5] at h1
      exact Option.some.inj h1
    exact wpAny_getItem_list pl.isList h0 (by omega) (by rw [hj]; simpa using ew) fin
  · have hj : (i + (its.toArray.size : Int)).toNat = j := by
      rw [seqIndex_neg (by omega) h4] at h1
      rw [List.size_toArray, ← hl]
      exact Option.some.inj h1
    exact wpAny_getItem_list_neg pl.isList (by omega) (by rw [List.size_toArray] <;> omega) (by omega) (by rw [hj]; simpa using ew) fin
def oGetL (o i : D) (m : Mu) (Q : QE) : Prop := match o, i with
  | .ref a, .int k => match m a with
    | some (.lst xs) => match atI xs k with
      | some d => Q d m
      | none => False
    | _ => False
  | _, _ => False
def saugS (a b e : ZTE) (o : ZOp) : ZTS := fun Dz ρ m => a ρ m (fun x m1 => b ρ m1 (fun i m2 => oGetL x i m2 (fun y m3 => e ρ m3 (fun v m4 => o y v m4 (fun z m5 => oSet x i z m5 (fun m6 => Dz.nx ρ m6)) ) (xat Dz ρ))) (xat Dz ρ)) (xat Dz ρ)
section
variable {X : Cx} {W : WX} {pos p : Pos} {a b e : Expr} {za zb ze : ZTE}
theorem get_okL : PGet X (fun x y H Q => ∃ d i F m Pi Qz, Zm X.K F m Pi H ∧ Rep X.K Pi d x ∧ Rep X.K Pi i y ∧ oGetL d i m Qz ∧ ContE X.K F Pi Qz Q) := by
  intro pins s σ H x y v u Q I rx ry ⟨d, i, F, m, Pi, Qz, z, r1, r2, h, k⟩
  unfold oGetL at h
  split at h
  · rename_i a j
    cases r1
    cases r2
    split at h
    · rename_i xs q
      obtain ⟨vs, e1, rs⟩ := z.ok a _ q
      split at h
      · rename_i d q2
        obtain ⟨w, e2, r⟩ := reps_at rs q2
        exact get_list pins s σ H _ _ v u Q I rx ry ⟨a, vs, j, w, rfl, rfl, .inl (.inl e1), e2, fin_same k z r h⟩
      · exact h.elim
    · exact h.elim
  · exact h.elim
theorem r_augS {op : Operator} {o : ZOp} (ho : OpR X (inplaceOp op) (RS X.K o)) (ha : PE X a (LE X.K W za)) (hb : PE X b (LE X.K W zb)) (he : PE X e (LE X.K W ze))
    (hs : ∀ ov iv new, augStore b ov iv new = (do holding [new, ov, iv] (setItem ov iv new); release [new, ov, iv] []; pure .next) := by intros; rfl) : PS X (.AugAssign (.Subscript a b p) op e pos) (LS X.K W (saugS za zb ze o)) := by
  refine ps_imp (ps_augS ha hb get_okL he ho set_ok hs) fun Dv σ H ⟨F, ρ, m, Pi, Dz, hz, hE, h, kn, kr, kx⟩ => ?_
  refine ⟨F, ρ, m, Pi, _, _, hz, hE, h, fun x m1 P1 v1 H1 l1 z1 r1 q1 => ⟨F, ρ, m1, P1, _, _, z1, hE.mono l1, q1, fun y m2 P2 v2 H2 l2 z2 r2 q2 => ?_, (kx.at' hE).mono l1⟩, kx.at' hE⟩
  refine ⟨x, y, F, m2, P2, _, z2, r1.mono l2, r2, q2, fun w m3 P3 v3 H3 l3 z3 r3 q3 => ?_⟩
  refine ⟨F, ρ, m3, P3, _, _, z3, (((hE.mono l1).mono l2).mono l3), q3, fun v m4 P4 v4 H4 l4 z4 r4 q4 => ?_, (((kx.at' hE).mono l1).mono l2).mono l3⟩
  refine ⟨w, v, F, m4, P4, _, z4, r3.mono l4, r4, q4, fun n m5 P5 v5 H5 l5 z5 r5 q5 => ?_⟩
  exact ⟨x, y, n, F, m5, P5, _, z5, (((r1.mono l2).mono l3).mono l4).mono l5, ((r2.mono l3).mono l4).mono l5, r5, q5, fun m6 P6 H6 l6 z6 q6 => kn _ m6 P6 _ H6 (((((l1.trans l2).trans l3).trans l4).trans l5).trans l6) z6 ((((((hE.mono l1).mono l2).mono l3).mono l4).mono l5).mono l6) q6⟩
end
theorem Zm.giveMu {K : PySem.W.Frag} {F : Hp} {m : Mu} {Pi H : Hp} {p : Addr} {vs : List V} {acc : List D} (z : Zm K (upd F p (.lst vs)) m Pi H) (hf : F p = none) (r : Reps K Pi acc vs) : Zm K F (updM m p (.lst acc)) Pi H ∧ m p = none := by
  have hp : (upd F p (.lst vs)) p = some (.lst vs) := upd_same
  have hm : m p = none := by
    cases q : m p with
    | none => rfl
    | some w =>
      have := z.fdis p (by rw [q]; exact fun e => by cases e)
      rw [hp] at this
      cases this
  refine ⟨⟨z.sub, fun b u e => ?_, fun b e => ?_, fun b u e => ?_, fun b e => ?_, fun b u e => ?_⟩, hm⟩
  · have hb : b ≠ p := fun q => by subst q; rw [hf] at e; cases e
    exact z.frm b u (by rw [upd_ne hb]; exact e)
  · by_cases hb : b = p
    · rw [hb]; exact hf
    · rw [updM_ne hb] at e
      have := z.fdis b e
      rwa [upd_ne hb] at this
  · have hb : b ≠ p := fun q => by subst q; rw [hf] at e; cases e
    exact z.fpd b u (by rw [upd_ne hb]; exact e)
  · by_cases hb : b = p
    · rw [hb]; exact z.fpd p _ hp
    · rw [updM_ne hb] at e
      exact z.dis b e
  · by_cases hb : b = p
    · subst hb
      rw [updM_same] at e
      cases e
      exact ⟨vs, z.frm _ _ hp, r⟩
    · rw [updM_ne hb] at e
      exact z.ok b u e
/-- [..] by a comprehension, a list that may change -/
def zlcM (it : ZTI) (g : ZTG) (t : ZTT) (e : ZTE) (vs : List Nat) : ZTE := fun ρ m Q E => it ρ m (fun wk m1 => ∃ I : Nat → List D → Mu → Prop, I 0 [] m1 ∧ ∀ i acc m, I i acc m → wk.inv m ∧
  (i < wk.n → g (wk.item i) (wipeZ ρ vs) m (fun ρ2 m2 => t ρ2 m2 (fun c m3 => if c = true then e ρ2 m3 (fun y m4 => acc.length < sizeLine ∧ I (i + 1) (acc ++ [y]) m4) noX else I (i + 1) acc m3) noX) noX) ∧ (i = wk.n → ∀ p, m p = none → Q (.ref p) (updM m p (.lst acc)))) E
section
variable {X : Cx} {W : WX} {pos p p2 spos : Pos} {a b c e elt tg iter : Expr} {ifs es : List Expr} {za zb ze : ZTE} {zg : ZTG} {zt : ZTT} {zi : ZTI} {scope : Scope} {own : List (Str × Nat)} {vs : List Nat}
theorem lc_impM {zi : ZTI} {σ : St} {H : Hp} {Q : VK} (h : LE X.K W (zlcM zi zg zt ze vs) σ H Q) : tLc (LI X.K W zi) (LG X.K WF vs zg) (LT X.K WF zt) (LE X.K WF ze) vs σ H Q := by
  obtain ⟨F, ρ, m, Pi, Qz, Ez, hz, he, h, k, kx⟩ := h
  refine ⟨F, ρ, m, Pi, _, Ez, hz, he, h, fun wk m1 P1 J H1 l1 z1 w1 ⟨I, i0, turn⟩ Da hD => ?_, kx⟩
  have fD : F Da = none := z1.ffree hD
  have z1' : Zm X.K (upd F Da (.lst [])) m1 P1 (upd H1 Da (.lst [])) := by
    refine Zm.frame (o := .lst []) (F := F) ?_ (z1.free hD).1 (z1.free hD).2 upd_same
    refine ⟨fun b o e => ?_, fun b o e => ?_, z1.fdis, z1.fpd, z1.dis, fun b o e => ?_⟩
    · rw [upd_ne (ne_of_none (z1.sub b o e) hD)]; exact z1.sub b o e
    · rw [upd_ne (ne_of_none (z1.frm b o e) hD)]; exact z1.frm b o e
    · have hb : b ≠ Da := fun q => by subst q; rw [(z1.free hD).1] at e; cases e
      exact (z1.ok b o e).heap (upd_ne hb)
  refine ⟨fun i mm H' => i + mm = wk.n ∧ ∃ acc vs' m' P', PLe P1 P' ∧ Zm X.K (upd F Da (.lst vs')) m' P' H' ∧ Reps X.K P' acc vs' ∧ I i acc m', ⟨wk.n, by omega, [], [], m1, P1, PLe.refl, z1', .nil, i0⟩, ?_⟩
  rintro i mm H2 ⟨em, acc, vs', m2, P2, l2, z2, ra, i2⟩
  obtain ⟨hinv, hgo, hend⟩ := turn i acc m2 i2
  obtain ⟨g1, g2⟩ := w1 _ i m2 P2 H2 l2 z2 hinv
  by_cases hi : i < wk.n
  · obtain ⟨g3, g4⟩ := g1 hi
    refine .inr ⟨g3, fun H' => ∃ acc vs' m' P', PLe P1 P' ∧ Zm X.K (upd F Da (.lst vs')) m' P' H' ∧ Reps X.K P' acc vs' ∧ I (i + 1) acc m', ?_, fun x H3 hy => ?_⟩
    · rintro H' q
      exact ⟨mm - 1, by omega, by omega, q⟩
    · obtain ⟨P3, l3, z3, r3⟩ := g4 x H3 hy
      have e3 : EnvR X.K P3 (wipeZ ρ vs) (L2.wipe σ vs) := ((he.mono l1).mono (l2.trans l3)).wipe vs
      refine ⟨_, upd F Da (.lst vs'), wipeZ ρ vs, m2, P3, _, _, z3, e3, r3, hgo hi, fun ρ4 m4 P4 σ4 H4 l4 z4 e4 w4 q4 => ⟨?_, ?_⟩, fun σ' _ x m4 P4 c dd H4 _ _ _ q => q.elim⟩
      · rw [w4]
        have idem : ∀ (ws us : List Nat) (τ : St), (∀ w ∈ ws, w ∈ us) → L2.wipe (L2.wipe τ us) ws = L2.wipe τ us := by
          intro ws
          induction ws with
          | nil => intro us τ _; rfl
          | cons w ws ih =>
            intro us τ hs
            show (L2.wipe (L2.wipe τ us) ws).set w none = _
            rw [ih us τ fun q hq => hs q (List.mem_cons_of_mem _ hq)]
            exact wipe_none us τ (hs w List.mem_cons_self)
        exact idem vs vs σ fun _ h => h
      · refine ⟨upd F Da (.lst vs'), ρ4, m4, P4, _, _, z4, e4, q4, fun c m5 P5 H5 l5 z5 q5 => ?_, fun x m4 P4 c dd H4 _ _ _ q => q.elim⟩
        cases c with
        | true =>
          refine ⟨upd F Da (.lst vs'), ρ4, m5, P5, _, _, z5, e4.mono l5, q5, fun y m6 P6 v6 H6 l6 z6 r6 q6 => ?_, fun x m4 P4 c dd H4 _ _ _ q => q.elim⟩
          have l26 : PLe P2 P6 := ((l3.trans l4).trans l5).trans l6
          refine ⟨vs', z6.frm Da _ upd_same, by rw [← ra.length]; exact q6.1, acc ++ [y], vs' ++ [v6], m6, P6, l2.trans l26, z6.own, (ra.mono l26).append (.cons r6 .nil), q6.2⟩
        | false =>
          have l25 : PLe P2 P5 := (l3.trans l4).trans l5
          exact ⟨acc, vs', m5, P5, l2.trans l25, z5, ra.mono l25, q5⟩
  · have e : i = wk.n := by omega
    obtain ⟨z3, np⟩ := z2.giveMu fD ra
    exact .inl ⟨g2 e, k _ _ _ _ H2 (l1.trans l2) z3 .ref (hend e Da np)⟩
theorem r_lcM (hc : X.calm = true) (hN : X.N.Nodup) (own : List (Str × Nat)) (ok : blkC X.N X.env.scope scope own = true) (hi : PI X tg iter (LI X.K W zi))
    (hg : ∀ (s : Shared) (H : Hp) (C : Addr) (cl : List (Str × Addr)) (fp : List Addr), PG (X.blk s H scope (compEnvC scope cl C X.env) fp) tg (LG X.K WF (own.map (·.2)) zg))
    (ht : ∀ (s : Shared) (H : Hp) (C : Addr) (cl : List (Str × Addr)) (fp : List Addr), PTs (X.blk s H scope (compEnvC scope cl C X.env) fp) ifs (LT X.K WF zt))
    (he : ∀ (s : Shared) (H : Hp) (C : Addr) (cl : List (Str × Addr)) (fp : List Addr), PE (X.blk s H scope (compEnvC scope cl C X.env) fp) elt (LE X.K WF ze)) (hs : ∀ x, foldedSetIterable iter X.env x = pure x := by intro _; rfl) :
    PE X (.ListComp elt [⟨tg, iter, ifs, 0⟩] scope pos) (LE X.K W (zlcM zi zg zt ze (own.map (·.2)))) :=
  pe_imp (pe_lc hc hN hi (blkOk_by ok) hg ht he hs) fun _ _ _ h => lc_impM h
theorem r_setLcM {y : Str} {py : Pos} (i : Nat) (hc : X.calm = true) (hN : X.N.Nodup) (own : List (Str × Nat)) (ok : blkC X.N X.env.scope scope own = true) (hi : PI X tg iter (LI X.K W zi))
    (hg : ∀ (s : Shared) (H : Hp) (C : Addr) (cl : List (Str × Addr)) (fp : List Addr), PG (X.blk s H scope (compEnvC scope cl C X.env) fp) tg (LG X.K WF (own.map (·.2)) zg))
    (ht : ∀ (s : Shared) (H : Hp) (C : Addr) (cl : List (Str × Addr)) (fp : List Addr), PTs (X.blk s H scope (compEnvC scope cl C X.env) fp) ifs (LT X.K WF zt))
    (he : ∀ (s : Shared) (H : Hp) (C : Addr) (cl : List (Str × Addr)) (fp : List Addr), PE (X.blk s H scope (compEnvC scope cl C X.env) fp) elt (LE X.K WF ze))
    (ha : (scope.names.any fun (n, k) => n == y && (k == .local || k == .cell)) = false) (hy : X.N[i]? = some y := by rfl) (hyl : X.env.scope.names.lookup y = some .local := by rfl) (hk : X.env.scope.kind = .function := by rfl) (hl : (py.line == pos.line) = true := by rfl) (hs : ∀ x, foldedSetIterable iter X.env x = pure x := by intro _; rfl) :
    PS X (.Assign [.Name y py] (.ListComp elt [⟨tg, iter, ifs, 0⟩] scope pos) spos) (LS X.K W (sset (zlcM zi zg zt ze (own.map (·.2))) i)) := by
  refine ps_imp (ps_setLc hc hN hy hyl (sw_true hk hyl hl ha) hi (blkOk_by ok) hg ht he hs) fun Dv σ H ⟨F, ρ, m, Pi, Dz, hz, he, h, kn, kr, kx⟩ => ?_
  exact lc_impM (W := W) ⟨F, ρ, m, Pi, _, _, hz, he, h, fun x m1 P1 v H1 l1 z1 r1 q1 => kn _ m1 P1 _ H1 l1 z1 ((he.mono l1).set r1) q1, kx.at' he⟩
end
/-! ### list + list, whatever they are -/
theorem op_catS {X : Cx} : OpR X (binaryOp .Add) (fun x y H Q => ∃ l b xs zs, x = V.ref l ∧ y = V.ref b ∧ SqL X.K H l xs ∧ SqL X.K H b zs ∧ xs.length + zs.length ≤ sizeLine ∧ ∀ p, H p = none → Q (.ref p) (upd H p (.lst (xs ++ zs)))) := by
  intro pins s σ H x y v u Q I rx ry ⟨l, b, xs, zs, e1, e2, h1, h2, hz, q⟩
  subst e1 e2
  cases rx
  cases ry
  obtain ⟨its, r, ⟨⟨oc, od, dt, sl⟩, n, g1, g2, g3, g4⟩, _⟩ := I.list h1
  obtain ⟨its2, r2, ⟨⟨oc2, od2, dt2, sl2⟩, n2, k1, k2, k3, k4⟩, _⟩ := I.list h2
  dsimp only at g2 g3 g4 k2 k3 k4
  subst g2 g3 g4 k2 k3 k4
  have lz : its.toArray.size + its2.toArray.size ≤ sizeLine := by
    rw [List.size_toArray, List.size_toArray, ← r.length, ← r2.length]
    exact hz
  refine concat_meets ⟨_, g1, rfl⟩ ⟨_, k1, rfl⟩ noFill_list_add seq_list_add PySem.F.slot_list_add PySem.F.entry_list_add (PySem.F.args_list_add_2 _ _) (list_addW l b its.toArray its2.toArray n n2 none none sl sl2 lz) ⟨g1, k1, ?_⟩
  have ea : its.toArray ++ its2.toArray = (its ++ its2).toArray := by simp
  rw [ea]
  exact ⟨.ref _, _, I.lnew (t' := s.toks) (r.append r2) (by rw [List.length_append]; exact hz), rfl, q _ I.fresh⟩
def oAddL : ZOp := fun d e m Q => match seqD m d, seqD m e with
  | some xs, some ys => xs.length + ys.length ≤ sizeLine ∧ Q (.fl (xs ++ ys)) m
  | _, _ => False
theorem o_addL {X : Cx} : OpR X (binaryOp .Add) (RS X.K oAddL) := by
  intro pins s σ H x y v u Q I rx ry ⟨d, e, F, m, Pi, Qz, z, r1, r2, h, k⟩
  unfold oAddL at h
  split at h
  · rename_i xs ys q1 q2
    obtain ⟨a, vs, rfl, s1, p1⟩ := seq_of z r1 q1
    obtain ⟨b, ws, rfl, s2, p2⟩ := seq_of z r2 q2
    refine op_catS pins s σ H _ _ v u Q I rx ry ⟨a, b, vs, ws, rfl, rfl, s1, s2, by rw [← p1.length, ← p2.length]; exact h.1, fun p np => ?_⟩
    obtain ⟨z2, l2⟩ := z.newPi np (.lst (vs ++ ws))
    exact k _ _ _ _ _ l2 z2 (.fl (.inl (.inl upd_same)) ((p1.append p2).mono l2)) h.2
  · exact h.elim
end Zed
end
section
set_option maxHeartbeats 4000000
/-! Zed11: every other item of a tuple. -/
namespace Zed
open PySem PySem.Spec PyProof.Rows L2
open PySem.AutoSeq1
/-- t[lo::2] -/
def evG {α : Type} (xs : List α) (lo : Nat) : List α := (List.range ((xs.length - lo + 1) / 2)).filterMap fun k => xs[lo + k * 2]?
theorem ev_adjust (lo : Option Int) (l n : Nat) (h : lo = none ∧ l = 0 ∨ lo = some 1 ∧ l = min 1 n) : Builtin.Slice.sliceAdjust lo none 2 (n : Int) = ((l : Int), (n : Int)) := by
  rcases h with ⟨rfl, rfl⟩ | ⟨rfl, rfl⟩
  · unfold Builtin.Slice.sliceAdjust
    simp
  · unfold Builtin.Slice.sliceAdjust
    simp
    omega
theorem ev_places (l n : Nat) (h : l ≤ n) : Builtin.Slice.slicePlaces (l : Int) (n : Int) 2 = (n - l + 1) / 2 := by
  unfold Builtin.Slice.slicePlaces
  rw [if_pos (by decide)]
  split <;> omega
theorem ev_len {α : Type} (xs : List α) (lo : Nat) : (evG xs lo).length ≤ xs.length := by
  unfold evG
  refine Nat.le_trans (List.length_filterMap_le ..) ?_
  rw [List.length_range]
  omega
section
variable {prog : Program} {w : World} {A : Around} {E : Value → Shared → Prop} {s : Shared}
theorem ev_applied {sl : Addr} {vl : Value} {t : Tok} {n l : Nat} {lo : Option Int} {Q : Int × Int × Nat → Shared → Prop} (hs : s.heap.IsSliceOf sl vl .none (.int 2 t)) (pl : IsPart vl lo) (hlo : lo = none ∧ l = 0 ∨ lo = some 1 ∧ l = min 1 n)
    (h : Q ((l : Int), 2, (n - l + 1) / 2) s) : wpAny (model prog w) A (Builtin.Slice.sliceApplied (.ref sl) (pure (n : Int))) Q E s := by
  obtain ⟨ob, hob, _, hdat⟩ := id hs
  have hln : l ≤ n := by rcases hlo with ⟨_, rfl⟩ | ⟨_, rfl⟩ <;> omega
  unfold Builtin.Slice.sliceApplied Builtin.Slice.sliceFields
  refine wpAny_bind (wpAny_bind (wpAny_field hob hdat (x := vl) rfl (wpAny_bind (wpAny_field hob hdat (x := .none) rfl (wpAny_bind (wpAny_field hob hdat (x := .int 2 t) rfl (wpAny_pure ?_)))))))
  refine wpAny_bind (HT.slicePart_ (.int 2 t) ?_)
  show wpAny _ _ (if (((2 : Int)) == 0) = true then _ else _) _ _ s
  rw [if_neg (by decide)]
  refine wpAny_bind (HT.slicePart_ pl (wpAny_bind (HT.slicePart_ .none (wpAny_bind (wpAny_pure ?_)))))
  show wpAny _ _ (match Builtin.Slice.sliceAdjust lo none 2 (n : Int) with | (lo, hi) => pure (lo, (2 : Int), Builtin.Slice.slicePlaces lo hi 2)) _ _ s
  rw [ev_adjust lo l n hlo]
  show wpAny _ _ (pure ((l : Int), (2 : Int), Builtin.Slice.slicePlaces (l : Int) (n : Int) 2)) _ _ s
  rw [ev_places l n hln]
  exact wpAny_pure h
theorem ev_item {a sl : Addr} {items : Array Value} {vl : Value} {lo : Option Int} {l : Nat} {t : Tok} {Q : Value → Shared → Prop} (ht : IsTup s.heap a items) (hs : s.heap.IsSliceOf sl vl .none (.int 2 t)) (pl : IsPart vl lo) (hlo : lo = none ∧ l = 0 ∨ lo = some 1 ∧ l = min 1 items.size)
    (h : Q (.ref s.heap.objs.size) { s with heap := s.heap.push { cls := .type "tuple", data := .seq (evG items.toList l).toArray } }) (hz : items.size ≤ sizeLine) : wpAny (model prog w) A (getItem (.ref a) (.ref sl)) Q E s := by
  have fits : sizeOk (.seq (evG items.toList l).toArray) := by
    show (evG items.toList l).toArray.size ≤ sizeLine
    rw [List.size_toArray]
    refine Nat.le_trans (ev_len _ _) ?_
    rw [Array.length_toList]
    exact hz
  have isSl : s.TypeIs (.ref sl) "slice" := by
    obtain ⟨ob, hob, hcl, _⟩ := id hs
    exact ⟨ob, hob, hcl⟩
  unfold getItem
  try with_reducible refine wpAny_holding ?_
  first | refine wpAny_bind (wpAny_pure ?_) | skip
  refine wpAny_bind (wpAny_sequenceKey ht.typeIs (by decide) ?_)
  refine wpAny_bind (wpAny_callSpecial?_slot (name := Str.ofString "__getitem__") ht.typeIs PyProof.Rows.slot_tuple_getitem (wpAny_call_entry PyProof.Rows.slot_tuple_getitem ht.typeIs entry_tuple_getitem ?_ (args_tuple_getitem _ _)))
  show wpAny _ _ (Builtin.Tuple.tupleItemsOf (.ref a) >>= _) _ _ s
  refine wpAny_bind (tupleItemsOf_ ht (wpAny_bind (wpAny_typeOf isSl ?_)))
  rw [if_pos (by decide)]
  refine wpAny_bind (ev_applied hs pl hlo ?_)
  show wpAny _ _ (if ((l : Int) == 0 && (2 : Int) == 1 && (items.size - l + 1) / 2 == items.size) = true then _ else _) _ _ s
  rw [if_neg (by simp)]
  have pk : ((List.range ((items.size - l + 1) / 2)).filterMap fun (k : Nat) => items[((l : Int) + (k : Int) * 2).toNat]?).toArray = (evG items.toList l).toArray := by
    unfold evG
    rw [Array.length_toList]
    congr 1
    refine congrArg (fun f => List.filterMap f _) (funext fun k => ?_)
    rw [show ((l : Int) + (k : Int) * 2).toNat = l + k * 2 by omega, Array.getElem?_toList]
  rw [pk]
  first
    | exact wpAny_bind (m := Builtin.Tuple.tupleExact _) (wpAny_newObj_type (wpAny_pure ⟨_, rfl, wpAny_pure h⟩) fits)
    | exact wpAny_bind (m := Builtin.Tuple.tupleExact _) (wpAny_newObj_type (wpAny_bind (wpAny_pure (wpAny_pure ⟨_, rfl, wpAny_pure h⟩))) fits)
    | exact wpAny_bind (wpAny_bind (m := Builtin.Tuple.tupleExact _) (wpAny_newObj_type (wpAny_pure (wpAny_pure ⟨_, rfl, wpAny_pure h⟩)) fits))
    | exact wpAny_bind (wpAny_bind (m := Builtin.Tuple.tupleExact _) (wpAny_newObj_type (wpAny_pure ⟨_, rfl, wpAny_pure h⟩) fits))
end
theorem reps_pick {K : PySem.W.Frag} {P : Hp} {ds : List D} {vs : List V} (r : Reps K P ds vs) (f : Nat → Nat) : ∀ ks : List Nat, Reps K P (ks.filterMap fun k => ds[f k]?) (ks.filterMap fun k => vs[f k]?)
  | [] => .nil
  | k :: ks => by
    cases e : ds[f k]? with
    | none =>
      have hl : vs.length ≤ f k := by rw [← r.length]; exact List.getElem?_eq_none_iff.mp e
      rw [List.filterMap_cons_none (f := fun k => ds[f k]?) e, List.filterMap_cons_none (f := fun k => vs[f k]?) (List.getElem?_eq_none hl)]
      exact reps_pick r f ks
    | some d =>
      obtain ⟨v, e2, r2⟩ := r.get e
      rw [List.filterMap_cons_some (f := fun k => ds[f k]?) e, List.filterMap_cons_some (f := fun k => vs[f k]?) e2]
      exact .cons r2 (reps_pick r f ks)
theorem vals_pick {vs : List V} {us : List Value} (r : Vals vs us) (f : Nat → Nat) : ∀ ks : List Nat, Vals (ks.filterMap fun k => vs[f k]?) (ks.filterMap fun k => us[f k]?)
  | [] => .nil
  | k :: ks => by
    cases e : vs[f k]? with
    | none =>
      have hl : us.length ≤ f k := by rw [← r.length]; exact List.getElem?_eq_none_iff.mp e
      rw [List.filterMap_cons_none (f := fun k => vs[f k]?) e, List.filterMap_cons_none (f := fun k => us[f k]?) (List.getElem?_eq_none hl)]
      exact vals_pick r f ks
    | some d =>
      obtain ⟨v, e2, r2⟩ := r.get e
      rw [List.filterMap_cons_some (f := fun k => vs[f k]?) e, List.filterMap_cons_some (f := fun k => us[f k]?) e2]
      exact .cons r2 (vals_pick r f ks)
theorem reps_ev {K : PySem.W.Frag} {P : Hp} {ds : List D} {vs : List V} (r : Reps K P ds vs) (lo : Nat) : Reps K P (evG ds lo) (evG vs lo) := by
  unfold evG
  rw [r.length]
  exact reps_pick r _ _
theorem vals_ev {vs : List V} {us : List Value} (r : Vals vs us) (lo : Nat) : Vals (evG vs lo) (evG us lo) := by
  unfold evG
  rw [r.length]
  exact vals_pick r _ _
section
variable {X : Cx} {W : WX} {e : Expr} {pos : Pos} {ze : ZTE}
/-- t[::2], t[1::2] of a tuple -/
def zev (a : ZTE) (odd : Bool) : ZTE := fun ρ m Q E => a ρ m (fun x m1 => match x with
  | .tup xs => Q (.tup (evG xs (if odd then min 1 xs.length else 0))) m1
  | _ => False) E
theorem ev_core {lo : Option Expr} {odd : Bool} {k : Nat} {p1 p3 : Pos} (he : PE X e (LE X.K W ze))
    (hlo : ∀ (pins : List (Addr × Obj)) (s : Shared) (σ : St) (H : Hp), Inv X pins σ H s → wpAny (model X.prog X.w) X.A (valueOrNone (evalOpt lo X.env)) (fun v s' => Inv X pins σ H s' ∧ IsPart v (if odd then some 1 else none)) X.xe s) :
    PE X (.Subscript e (.Slice lo none (some (.Constant (.int 2) k p1)) p3) pos) (LE X.K W (zev ze odd)) := by
  refine ⟨fun pins s σ H Q I ⟨F, ρ, m, Pi, Qz, Ez, hz, hE, h, kq, kx⟩ => ?_⟩
  have h0 : LE X.K W ze σ H (fun v H1 => ∃ xs m1 P1, Zm X.K F m1 P1 H1 ∧ PLe Pi P1 ∧ Rep X.K P1 (.tup xs) v ∧ Qz (.tup (evG xs (if odd then min 1 xs.length else 0))) m1) :=
    ⟨F, ρ, m, Pi, _, Ez, hz, hE, h, fun x m1 P1 v H1 l1 z1 r1 q1 => by
      cases x with
      | tup xs => exact ⟨xs, m1, P1, z1, l1, r1, q1⟩
      | _ => exact q1.elim, kx⟩
  refine Subscript_ (thn (he.run pins s σ H _ I h0) fun v s1 ⟨x, H1, I1, rv, xs, m1, P1, z1, l1, r1, q1⟩ => ?_)
  have part : PO X (some (.Constant (.int 2) k p1)) (tPart (tC (.int 2))) := po_some pe_int
  refine wpAny_Slice (thn (hlo pins s1 σ H1 I1) fun vl s2 ⟨I2, pl⟩ => ?_)
  refine thn (po_none.run pins s2 σ H1 (fun o G => o = none ∧ G = H1) I2 ⟨rfl, rfl⟩) fun vu s3 ⟨u, G3, I3, pu, eu, e3⟩ => ?_
  subst eu e3
  refine thn (part.run pins s3 σ G3 (fun o G => o = some 2 ∧ G = G3) I3 ⟨2, rfl, rfl, rfl⟩) fun vst s4 ⟨o, G4, I4, pst, eo, e4⟩ => ?_
  subst eo e4
  have I5 : Inv X pins σ G4 { s4 with heap := s4.heap.push { cls := .type "slice", data := .fields #[vl, vu, vst] } } := I4.kept (t' := s4.toks) fun b ob q => Heap.get?_push_of_some _ q
  cases r1 with
  | tup hs rs =>
    rename_i a vs
    obtain rfl : v = .ref a := rv
    obtain ⟨its, r, ht, hsz⟩ := I5.tuple (z1.sub.sqt hs)
    have hlen := r.length
    have hl2 := rs.length
    cases pu
    cases pst with
    | int i t =>
      refine tail_any (ops := [.ref a, .ref s4.heap.objs.size]) ht.typeIs (PyProof.Rows.slot_tuple_getitem.lookup) ?_ (by with_unfolding_all rfl)
      refine ev_item (l := if odd then min 1 xs.length else 0) ht (Heap.IsSliceOf.new _ vl .none (.int 2 t)) pl ?_ ?_ (by rw [List.size_toArray]; omega)
      · cases odd with
        | false => exact .inl ⟨rfl, rfl⟩
        | true => exact .inr ⟨rfl, by rw [List.size_toArray, ← hlen, ← hl2]; rfl⟩
      · refine ⟨.ref _, _, I5.laid (t' := s4.toks) (o := .tup (evG vs (if odd then min 1 xs.length else 0))) (fun b ob q => Heap.get?_push_of_some _ q) (Nat.le_refl _) ?_, rfl, fin_tup (kq.mono l1) z1 (reps_ev rs _) (I5.hok.fresh (Nat.le_refl _)) q1⟩
        exact ⟨Nat.le_trans (ev_len _ _) hsz, _, vals_ev r _, IsTup.new _ _⟩
theorem r_ev0 {k : Nat} {p1 p3 : Pos} (he : PE X e (LE X.K W ze)) : PE X (.Subscript e (.Slice none none (some (.Constant (.int 2) k p1)) p3) pos) (LE X.K W (zev ze false)) :=
  ev_core he fun pins s σ H I => thn (po_none.run pins s σ H (fun o G => o = none ∧ G = H) I ⟨rfl, rfl⟩) fun v s2 ⟨l, G, I2, pl, el, e2⟩ => by
    subst el e2
    exact ⟨I2, pl⟩
theorem r_ev1 {k k2 : Nat} {p1 p2 p3 : Pos} (he : PE X e (LE X.K W ze)) : PE X (.Subscript e (.Slice (some (.Constant (.int 1) k2 p2)) none (some (.Constant (.int 2) k p1)) p3) pos) (LE X.K W (zev ze true)) :=
  ev_core he fun pins s σ H I => by
    have part : PO X (some (.Constant (.int 1) k2 p2)) (tPart (tC (.int 1))) := po_some pe_int
    exact thn (part.run pins s σ H (fun o G => o = some 1 ∧ G = H) I ⟨1, rfl, rfl, rfl⟩) fun v s2 ⟨l, G, I2, pl, el, e2⟩ => by
      subst el e2
      exact ⟨I2, pl⟩
end
end Zed
end
section
set_option maxHeartbeats 4000000
/-! ZLib0: short words for readings; figures by a base. -/
namespace Zed
open PySem PySem.Spec PyProof.Rows L2

theorem dropM_updM {m : Mu} {p : Addr} {o : MO} (h : m p = none) : dropM (updM m p o) p = m := by
  funext b
  unfold dropM updM
  by_cases hb : b = p
  · subst hb; rw [if_pos rfl, h]
  · rw [if_neg hb, if_neg hb]
section
variable {m : Mu} {Q : QE}
theorem q_truD_1 : truD .non m = some false := rfl
theorem q_truD_2 {b} : truD (.bl b) m = some b := rfl
theorem q_truD_3 {i} : truD (.int i) m = some (i != 0) := rfl
theorem q_truD_4 {x} : truD (.str x) m = if x.length ≤ sizeLine then some ((x.length : Int) != 0) else none := rfl
theorem q_truD_5 {xs} : truD (.tup xs) m = some (!xs.isEmpty) := rfl
theorem q_truD_6 {xs} : truD (.fl xs) m = some (!xs.isEmpty) := rfl
theorem q_oAdd_1 {i j} : oAdd (.int i) (.int j) m Q = Q (.int (i + j)) m := rfl
theorem q_oAdd_2 {x y} : oAdd (.str x) (.str y) m Q = (x.length + y.length ≤ sizeLine ∧ Q (.str (x ++ y)) m) := rfl
theorem q_oAdd_3 {xs ys} : oAdd (.tup xs) (.tup ys) m Q = (xs.length + ys.length ≤ sizeLine ∧ Q (.tup (xs ++ ys)) m) := rfl
theorem q_oAdd_4 {i k} : oAdd (.int i) (.bl k) m Q = Q (.int (i + b2i k)) m := rfl
theorem q_oInt_1 {C f i j} : oInt C f (.int i) (.int j) m Q = (C i j ∧ Q (.int (f i j)) m) := rfl
theorem q_oSub_1 {i j} : oSub (.int i) (.int j) m Q = Q (.int (i - j)) m := rfl
theorem q_oLt_1 {f i j} : oLt' f (.int i) (.int j) m Q = Q (.bl (f i j)) m := rfl
theorem q_oEq_1 {i j} : oEq (.int i) (.int j) m Q = Q (.bl (decide (i = j))) m := rfl
theorem q_oNe_1 {i j} : oNe (.int i) (.int j) m Q = Q (.bl (!decide (i = j))) m := rfl
theorem q_oNe_2 {xs ys} : oNe (.tup xs) (.tup ys) m Q = (SeqAt.shaped (D.tup xs).toP = true ∧ SeqAt.shaped (D.tup ys).toP = true ∧ Q (.bl (!PyData.eqv (D.tup xs).toP (D.tup ys).toP)) m) := rfl
theorem q_oEq_2 {xs ys} : oEq (.tup xs) (.tup ys) m Q = (SeqAt.shaped (D.tup xs).toP = true ∧ SeqAt.shaped (D.tup ys).toP = true ∧ Q (.bl (PyData.eqv (D.tup xs).toP (D.tup ys).toP)) m) := rfl
theorem q_oIs_1 {d} : oIs d .non m Q = Q (.bl (isNon d)) m := rfl
theorem q_oIs_2 {a b} : oIs (.bl a) (.bl b) m Q = Q (.bl (decide (a = b))) m := rfl
theorem q_oIsNot_1 {d} : oIsNot d .non m Q = Q (.bl (!isNon d)) m := rfl
theorem q_oIsNot_2 {a b} : oIsNot (.bl a) (.bl b) m Q = Q (.bl (!decide (a = b))) m := rfl
theorem q_oNeg_1 {i} : oNeg (.int i) m Q = Q (.int (-i)) m := rfl
theorem q_cAbs_1 {i} : cAbs [.int i] m Q = Q (.int (if i < 0 then -i else i)) m := rfl
theorem q_cMax_1 {i j} : cMax [.int i, .int j] m Q = Q (.int (if j > i then j else i)) m := rfl
theorem q_cMin_1 {i j} : cMin [.int i, .int j] m Q = Q (.int (if j < i then j else i)) m := rfl
theorem q_cInt_1 {i} : cInt [.int i] m Q = Q (.int i) m := rfl
theorem q_cInt_2 {k} : cInt [.bl k] m Q = Q (.int (if k then 1 else 0)) m := rfl
theorem q_cDivmod_1 {i j} : cDivmod [.int i, .int j] m Q = (CDivP i j ∧ Q (.tup [.int (i / j), .int (i % j)]) m) := rfl
theorem q_lenD_1 {x} : lenD m (.str x) = if x.length ≤ sizeLine then some x.length else none := rfl
theorem q_lenD_2 {xs} : lenD m (.tup xs) = some xs.length := rfl
theorem q_lenD_3 {xs} : lenD m (.fl xs) = some xs.length := rfl
theorem q_cLen_1 {d} : cLen [d] m Q = (match lenD m d with | some n => Q (.int n) m | none => False) := rfl
theorem q_cTuple_1 {xs} : cTuple [.tup xs] m Q = Q (.tup xs) m := rfl
theorem q_cTuple_2 {xs} : cTuple [.fl xs] m Q = Q (.tup xs) m := rfl
theorem q_cTuple_3 {a} : cTuple [.ref a] m Q = (match m a with | some (.lst xs) => Q (.tup xs) m | _ => False) := rfl
theorem q_cListF_1 {xs} : cListF [.tup xs] m Q = Q (.fl xs) m := rfl
theorem q_cListF_2 {xs} : cListF [.fl xs] m Q = Q (.fl xs) m := rfl
theorem q_cListF_3 {a} : cListF [.ref a] m Q = (match m a with | some (.lst xs) => Q (.fl xs) m | _ => False) := rfl
theorem q_cList_1 {xs} : cList [.tup xs] m Q = (∀ p, m p = none → Q (.ref p) (updM m p (.lst xs))) := rfl
theorem q_cList_2 {xs} : cList [.fl xs] m Q = (∀ p, m p = none → Q (.ref p) (updM m p (.lst xs))) := rfl
theorem q_seqD_1 {xs} : seqD m (.fl xs) = some xs := rfl
theorem q_seqD_2 {a} : seqD m (.ref a) = (match m a with | some (.lst xs) => some xs | _ => none) := rfl
theorem q_lenD_4 {a} : lenD m (.ref a) = (match m a with | some (.lst xs) => some xs.length | _ => none) := rfl
theorem q_oIx_1 {xs i} : oIx (.tup xs) (.int i) m Q = (match atI xs i with | some d => Q d m | none => False) := rfl
theorem q_oIx_2 {xs i} : oIx (.fl xs) (.int i) m Q = (match atI xs i with | some d => Q d m | none => False) := rfl
theorem q_oIx_4 {a i} : oIx (.ref a) (.int i) m Q = (match m a with | some (.lst xs) => (match atI xs i with | some d => Q d m | none => False) | _ => False) := rfl
theorem q_oSl_1 {xs l h} : oSl (.tup xs) l h m Q = Q (.tup (cutG xs l h)) m := rfl
theorem q_oSl_2 {xs l h} : oSl (.fl xs) l h m Q = Q (.fl (cutG xs l h)) m := rfl
theorem q_oSl_3 {a l h} : oSl (.ref a) l h m Q = (match m a with | some (.lst xs) => Q (.fl (cutG xs l h)) m | _ => False) := rfl
theorem q_oSl_4 {x l h} : oSl (.str x) l h m Q = (x.length ≤ sizeLine ∧ Q (.str (cutS x l h)) m) := rfl
theorem q_tyD_1 : tyD m .non = some .non := rfl
theorem q_tyD_2 {b} : tyD m (.bl b) = some .bool := rfl
theorem q_tyD_3 {i} : tyD m (.int i) = some .int := rfl
theorem q_tyD_4 {x} : tyD m (.str x) = some .str := rfl
theorem q_tyD_5 {xs} : tyD m (.tup xs) = some .tuple := rfl
theorem q_tyD_6 {xs} : tyD m (.fl xs) = some .list := rfl
theorem q_cIsi_1 {T x n} : cIsi T [x, .ty n] m Q = (n = T.nm ∧ match tyD m x with | some t => Q (.bl (isiB t T)) m | none => False) := rfl
theorem q_oSet_1 {a k d R} : oSet (.ref a) (.int k) d m R = (match m a with | some (.lst xs) => (match ixN xs.length k with | some j => R (updM m a (.lst (xs.set j d))) | none => False) | _ => False) := rfl
theorem q_oIAdd_1 {i j} : oIAdd (.int i) (.int j) m Q = Q (.int (i + j)) m := rfl
theorem q_oIAdd_2 {x y} : oIAdd (.str x) (.str y) m Q = (x.length + y.length ≤ sizeLine ∧ Q (.str (x ++ y)) m) := rfl
end
theorem isi_ii : isiB .int .int = true := rfl
theorem isi_bi : isiB .bool .int = true := rfl
theorem isi_ib : isiB .int .bool = false := rfl
theorem isi_bb : isiB .bool .bool = true := rfl
theorem isi_tt : isiB .tuple .tuple = true := rfl
theorem while_i {t : ZTT} {b : ZTS} {Dz : ZEnds} {ρ : ZEnv} {m : Mu} (I : Nat → ZEnv → Mu → Prop) (k : Nat) (h0 : I k ρ m)
    (h : ∀ k ρ m, I k ρ m → t ρ m (fun c m1 => if c = true then b ⟨fun ρ' m' => ∃ k', k' < k ∧ I k' ρ' m', Dz.rt, Dz.ex⟩ ρ m1 else Dz.nx ρ m1) (xat Dz ρ)) : swhile t b Dz ρ m := ⟨I, ⟨k, h0⟩, h⟩
def LoopP (wk : Wk) (g : ZTG) (b : ZTS) (Dz : ZEnds) (ρ : ZEnv) (m : Mu) : Prop := ∃ I : Nat → ZEnv → Mu → Prop, I 0 ρ m ∧ ∀ i ρ m, I i ρ m → wk.inv m ∧
  (i < wk.n → g (wk.item i) ρ m (fun ρ2 m2 => b ⟨I (i + 1), Dz.rt, Dz.ex⟩ ρ2 m2) (fun x m => ∀ ρ', Dz.ex x ρ' m)) ∧ (i = wk.n → Dz.nx ρ m)
theorem for_i {it : ZTI} {g : ZTG} {b : ZTS} {Dz : ZEnds} {ρ : ZEnv} {m : Mu} (h : it ρ m (fun wk m1 => LoopP wk g b Dz ρ m1) (xat Dz ρ)) : sfor it g b Dz ρ m := h
theorem loop_i {wk : Wk} {g : ZTG} {b : ZTS} {Dz : ZEnds} {ρ : ZEnv} {m : Mu} (I : Nat → ZEnv → Mu → Prop) (h0 : I 0 ρ m) (h : ∀ i ρ m, I i ρ m → wk.inv m ∧
    (i < wk.n → g (wk.item i) ρ m (fun ρ2 m2 => b ⟨I (i + 1), Dz.rt, Dz.ex⟩ ρ2 m2) (fun x m => ∀ ρ', Dz.ex x ρ' m)) ∧ (i = wk.n → Dz.nx ρ m)) : LoopP wk g b Dz ρ m := ⟨I, h0, h⟩
def CompP (wk : Wk) (g : ZTG) (t : ZTT) (e : ZTE) (vs : List Nat) (ρ : ZEnv) (m : Mu) (Q : QE) : Prop := ∃ I : Nat → List D → Mu → Prop, I 0 [] m ∧ ∀ i acc m, I i acc m → wk.inv m ∧
  (i < wk.n → g (wk.item i) (wipeZ ρ vs) m (fun ρ2 m2 => t ρ2 m2 (fun c m3 => if c = true then e ρ2 m3 (fun y m4 => acc.length < sizeLine ∧ I (i + 1) (acc ++ [y]) m4) noX else I (i + 1) acc m3) noX) noX) ∧ (i = wk.n → Q (.fl acc) m)
theorem comp_e {it : ZTI} {g : ZTG} {t : ZTT} {e : ZTE} {vs : List Nat} {ρ : ZEnv} {m : Mu} {Q : QE} {E : QX} : zlc it g t e vs ρ m Q E = it ρ m (fun wk m1 => CompP wk g t e vs ρ m1 Q) E := rfl
theorem comp_i {wk : Wk} {g : ZTG} {t : ZTT} {e : ZTE} {vs : List Nat} {ρ : ZEnv} {m : Mu} {Q : QE} (I : Nat → List D → Mu → Prop) (h0 : I 0 [] m) (h : ∀ i acc m, I i acc m → wk.inv m ∧
    (i < wk.n → g (wk.item i) (wipeZ ρ vs) m (fun ρ2 m2 => t ρ2 m2 (fun c m3 => if c = true then e ρ2 m3 (fun y m4 => acc.length < sizeLine ∧ I (i + 1) (acc ++ [y]) m4) noX else I (i + 1) acc m3) noX) noX) ∧ (i = wk.n → Q (.fl acc) m)) : CompP wk g t e vs ρ m Q := ⟨I, h0, h⟩
/-! sizes -/
theorem two_le {j k : Nat} (h : j ≤ k) : (2 : Int) ^ j ≤ 2 ^ k := by
  rw [← PySem.W.kbt_cast, ← PySem.W.kbt_cast]
  exact Int.ofNat_le.mpr (Nat.pow_le_pow_right (by decide) h)
theorem abs_lt {i : Int} {k : Nat} (h0 : 0 ≤ i) (h : i < 2 ^ k) : i.natAbs < 2 ^ k := by
  rw [← PySem.W.kbt_cast] at h
  omega
theorem lt_abs {i : Int} {k : Nat} (h : i.natAbs < 2 ^ k) : i < 2 ^ k := by
  rw [← PySem.W.kbt_cast]
  omega
theorem abs_mul {i j : Int} {a b : Nat} (h1 : i.natAbs < 2 ^ a) (h2 : j.natAbs < 2 ^ b) : (i * j).natAbs < 2 ^ (a + b) := wide_lt h1 h2
theorem abs_more {i : Int} {a b : Nat} (h1 : i.natAbs < 2 ^ a) (h : a ≤ b) : i.natAbs < 2 ^ b := Nat.lt_of_lt_of_le h1 (Nat.pow_le_pow_right (by decide) h)
theorem abs_pow {i : Int} {a : Nat} (k : Nat) (h1 : i.natAbs ≤ 2 ^ a) : (i ^ k).natAbs ≤ 2 ^ (a * k) := by
  rw [Int.natAbs_pow, Nat.pow_mul]
  exact Nat.pow_le_pow_left h1 k
theorem mul_ok {i j : Int} {a b : Nat} (h1 : i.natAbs < 2 ^ a) (h2 : j.natAbs < 2 ^ b) (h3 : a + b ≤ 999990) : CMulW i j := wide_mul (a := a + 1) (b := b + 1) (abs_more h1 (Nat.le_succ a)) (abs_more h2 (Nat.le_succ b)) (Nat.succ_pos _) (Nat.succ_pos _) (by omega)
theorem lt_two {i : Int} {j k : Nat} (h : i ≤ 2 ^ j) (hjk : j < k) : i < 2 ^ k := by
  have h1 : (2 : Int) ^ j < 2 ^ k := by
    rw [← PySem.W.kbt_cast, ← PySem.W.kbt_cast]
    exact Int.ofNat_lt.mpr (Nat.pow_lt_pow_right (by decide) hjk)
  omega
theorem cp_2 : CPow 10 2 = True := eq_true ⟨by decide, by decide, by decide⟩
theorem vp_2 : (10 : Int) ^ Int.toNat 2 = 100 := by decide +kernel
theorem cp_3 : CPow 10 3 = True := eq_true ⟨by decide, by decide, by decide⟩
theorem vp_3 : (10 : Int) ^ Int.toNat 3 = 1000 := by decide +kernel
theorem cp_6 : CPow 10 6 = True := eq_true ⟨by decide, by decide, by decide⟩
theorem vp_6 : (10 : Int) ^ Int.toNat 6 = 1000000 := by decide +kernel
theorem cp_7 : CPow 10 7 = True := eq_true ⟨by decide, by decide, by decide⟩
theorem vp_7 : (10 : Int) ^ Int.toNat 7 = 10000000 := by decide +kernel
theorem cp_18 : CPow 10 18 = True := eq_true ⟨by decide, by decide, by decide⟩
theorem vp_18 : (10 : Int) ^ Int.toNat 18 = 1000000000000000000 := by decide +kernel
theorem cp_60 : CPow 10 60 = True := eq_true ⟨by decide, by decide, by decide⟩
theorem vp_60 : (10 : Int) ^ Int.toNat 60 = 1000000000000000000000000000000000000000000000000000000000000 := by decide +kernel
theorem getD_ints {xs : List Int} {i : Nat} : (xs.map D.int).getD i .non = if i < xs.length then .int (xs.getD i 0) else .non := by
  rw [List.getD_eq_getElem?_getD, List.getElem?_map]
  by_cases h : i < xs.length
  · rw [if_pos h, List.getElem?_eq_getElem h, List.getD_eq_getElem?_getD, List.getElem?_eq_getElem h]
    rfl
  · rw [if_neg h, List.getElem?_eq_none (by omega)]
    rfl
theorem at1_0 {α : Type} {a : α} : atI [a] 0 = some a := rfl
theorem at2_0 {α : Type} {a b : α} : atI [a, b] 0 = some a := rfl
theorem at2_1 {α : Type} {a b : α} : atI [a, b] 1 = some b := rfl
theorem at3_0 {α : Type} {a b c : α} : atI [a, b, c] 0 = some a := rfl
theorem at3_1 {α : Type} {a b c : α} : atI [a, b, c] 1 = some b := rfl
theorem at3_2 {α : Type} {a b c : α} : atI [a, b, c] 2 = some c := rfl
theorem at4_0 {α : Type} {a b c d : α} : atI [a, b, c, d] 0 = some a := rfl
theorem at4_1 {α : Type} {a b c d : α} : atI [a, b, c, d] 1 = some b := rfl
theorem at4_2 {α : Type} {a b c d : α} : atI [a, b, c, d] 2 = some c := rfl
theorem at4_3 {α : Type} {a b c d : α} : atI [a, b, c, d] 3 = some d := rfl
theorem at5_0 {α : Type} {a b c d e : α} : atI [a, b, c, d, e] 0 = some a := rfl
theorem at5_1 {α : Type} {a b c d e : α} : atI [a, b, c, d, e] 1 = some b := rfl
theorem at5_2 {α : Type} {a b c d e : α} : atI [a, b, c, d, e] 2 = some c := rfl
theorem at5_3 {α : Type} {a b c d e : α} : atI [a, b, c, d, e] 3 = some d := rfl
theorem at5_4 {α : Type} {a b c d e : α} : atI [a, b, c, d, e] 4 = some e := rfl
theorem at6_0 {α : Type} {a b c d e f : α} : atI [a, b, c, d, e, f] 0 = some a := rfl
theorem at6_1 {α : Type} {a b c d e f : α} : atI [a, b, c, d, e, f] 1 = some b := rfl
theorem at6_2 {α : Type} {a b c d e f : α} : atI [a, b, c, d, e, f] 2 = some c := rfl
theorem at6_3 {α : Type} {a b c d e f : α} : atI [a, b, c, d, e, f] 3 = some d := rfl
theorem at6_4 {α : Type} {a b c d e f : α} : atI [a, b, c, d, e, f] 4 = some e := rfl
theorem at6_5 {α : Type} {a b c d e f : α} : atI [a, b, c, d, e, f] 5 = some f := rfl
theorem at7_0 {α : Type} {a b c d e f g : α} : atI [a, b, c, d, e, f, g] 0 = some a := rfl
theorem at7_1 {α : Type} {a b c d e f g : α} : atI [a, b, c, d, e, f, g] 1 = some b := rfl
theorem at7_2 {α : Type} {a b c d e f g : α} : atI [a, b, c, d, e, f, g] 2 = some c := rfl
theorem at7_3 {α : Type} {a b c d e f g : α} : atI [a, b, c, d, e, f, g] 3 = some d := rfl
theorem at7_4 {α : Type} {a b c d e f g : α} : atI [a, b, c, d, e, f, g] 4 = some e := rfl
theorem at7_5 {α : Type} {a b c d e f g : α} : atI [a, b, c, d, e, f, g] 5 = some f := rfl
theorem at7_6 {α : Type} {a b c d e f g : α} : atI [a, b, c, d, e, f, g] 6 = some g := rfl
theorem at8_0 {α : Type} {a b c d e f g h : α} : atI [a, b, c, d, e, f, g, h] 0 = some a := rfl
theorem at8_1 {α : Type} {a b c d e f g h : α} : atI [a, b, c, d, e, f, g, h] 1 = some b := rfl
theorem at8_2 {α : Type} {a b c d e f g h : α} : atI [a, b, c, d, e, f, g, h] 2 = some c := rfl
theorem at8_3 {α : Type} {a b c d e f g h : α} : atI [a, b, c, d, e, f, g, h] 3 = some d := rfl
theorem at8_4 {α : Type} {a b c d e f g h : α} : atI [a, b, c, d, e, f, g, h] 4 = some e := rfl
theorem at8_5 {α : Type} {a b c d e f g h : α} : atI [a, b, c, d, e, f, g, h] 5 = some f := rfl
theorem at8_6 {α : Type} {a b c d e f g h : α} : atI [a, b, c, d, e, f, g, h] 6 = some g := rfl
theorem at8_7 {α : Type} {a b c d e f g h : α} : atI [a, b, c, d, e, f, g, h] 7 = some h := rfl
theorem sl_0 : (0 ≤ sizeLine) = True := eq_true (Nat.zero_le _)
theorem sl_1 : (1 ≤ sizeLine) = True := eq_true (by rw [sizeLine_eq]; decide)
theorem sl_2 : (2 ≤ sizeLine) = True := eq_true (by rw [sizeLine_eq]; decide)
theorem sl_3 : (3 ≤ sizeLine) = True := eq_true (by rw [sizeLine_eq]; decide)
theorem sl_4 : (4 ≤ sizeLine) = True := eq_true (by rw [sizeLine_eq]; decide)
theorem sl_5 : (5 ≤ sizeLine) = True := eq_true (by rw [sizeLine_eq]; decide)
theorem sl_6 : (6 ≤ sizeLine) = True := eq_true (by rw [sizeLine_eq]; decide)
theorem sl_7 : (7 ≤ sizeLine) = True := eq_true (by rw [sizeLine_eq]; decide)
theorem sl_8 : (8 ≤ sizeLine) = True := eq_true (by rw [sizeLine_eq]; decide)
theorem at2_if {a b : Int} {c : Prop} [Decidable c] : atI [D.int a, D.int b] (if c then 1 else 0) = some (.int (if c then b else a)) := by split <;> rfl
theorem ixn2_0 : ixN 2 0 = some 0 := rfl
theorem ixn2_1 : ixN 2 1 = some 1 := rfl
theorem ixn3_0 : ixN 3 0 = some 0 := rfl
theorem ixn3_1 : ixN 3 1 = some 1 := rfl
theorem ixn3_2 : ixN 3 2 = some 2 := rfl
end Zed
end
section
set_option maxHeartbeats 4000000
/-! ZData: plain data, equal to itself; comprehensions that change nothing. -/
namespace Zed
open PySem PySem.Spec PyProof.Rows L2
/-- plain data, at most n deep -/
def Pl : Nat → D → Prop
  | _, .non => True
  | _, .bl _ => True
  | _, .int _ => True
  | _, .str x => PyData.canLay0 (.str x) = true
  | n + 1, .tup xs => ∀ x ∈ xs, Pl n x
  | n + 1, .fl xs => ∀ x ∈ xs, Pl n x
  | _, _ => False
theorem toPs_map : ∀ xs : List D, toPs xs = xs.map D.toP
  | [] => by rw [toPs]; rfl
  | x :: xs => by rw [toPs, toPs_map xs]; rfl
theorem lay_all {n : Nat} (ih : ∀ d : D, Pl n d → PyData.canLay0 d.toP = true ∧ PyData.depth d.toP ≤ n ∧ PyData.eqv d.toP d.toP = true) : ∀ xs : List D, (∀ x ∈ xs, Pl n x) → PyData.canLayAll0 (toPs xs) = true ∧ PyData.depthAll (toPs xs) ≤ n ∧ PyData.eqvAll (toPs xs) (toPs xs) = true
  | [], _ => ⟨by simp [toPs, PyData.canLayAll0], by simp [toPs, PyData.depthAll], by simp [toPs, PyData.eqvAll]⟩
  | x :: xs, h => by
    obtain ⟨a, b, c⟩ := ih x (h x List.mem_cons_self)
    obtain ⟨d, e, f⟩ := lay_all ih xs fun y hy => h y (List.mem_cons_of_mem _ hy)
    rw [toPs]
    refine ⟨?_, ?_, ?_⟩
    · rw [PyData.canLayAll0, a, d]; rfl
    · rw [PyData.depthAll]; omega
    · rw [PyData.eqvAll, c, f]; rfl
theorem Pl.all : ∀ {n : Nat} {d : D}, Pl n d → PyData.canLay0 d.toP = true ∧ PyData.depth d.toP ≤ n ∧ PyData.eqv d.toP d.toP = true
  | n, .non, _ => by rw [D.toP]; exact ⟨rfl, Nat.zero_le _, rfl⟩
  | n, .bl b, _ => by rw [D.toP]; exact ⟨rfl, Nat.zero_le _, by simp [PyData.eqv]⟩
  | n, .int b, _ => by rw [D.toP]; exact ⟨rfl, Nat.zero_le _, by simp [PyData.eqv]⟩
  | n, .str x, h => by
    have h : PyData.canLay0 (.str x) = true := by
      cases n <;> exact h
    rw [D.toP]; exact ⟨h, by simp [PyData.depth], by simp [PyData.eqv]⟩
  | 0, .tup xs, h => h.elim
  | 0, .fl xs, h => h.elim
  | n + 1, .tup xs, h => by
    obtain ⟨a, b, c⟩ := lay_all (fun d hd => Pl.all (n := n) (d := d) hd) xs h
    rw [D.toP]
    exact ⟨by rw [PyData.canLay0]; exact a, by rw [PyData.depth]; omega, by rw [PyData.eqv]; exact c⟩
  | n + 1, .fl xs, h => by
    obtain ⟨a, b, c⟩ := lay_all (fun d hd => Pl.all (n := n) (d := d) hd) xs h
    rw [D.toP]
    exact ⟨by rw [PyData.canLay0]; exact a, by rw [PyData.depth]; omega, by rw [PyData.eqv]; exact c⟩
  | 0, .ty _, h => h.elim
  | 0, .ref _, h => h.elim
  | 0, .obj _ _, h => h.elim
  | _ + 1, .ty _, h => h.elim
  | _ + 1, .ref _, h => h.elim
  | _ + 1, .obj _ _, h => h.elim
theorem Pl.shaped {n : Nat} {d : D} (h : Pl n d) (hn : n ≤ 64) : SeqAt.shaped d.toP = true := by
  obtain ⟨a, b, _⟩ := h.all
  unfold SeqAt.shaped
  rw [a, Bool.true_and]
  exact decide_eq_true (Nat.le_trans b hn)
theorem Pl.eq {n : Nat} {d : D} (h : Pl n d) : PyData.eqv d.toP d.toP = true := h.all.2.2
theorem pl_ints (xs : List Int) : ∀ x ∈ xs.map D.int, Pl 0 x := fun x hx => by
  obtain ⟨i, _, rfl⟩ := List.mem_map.mp hx
  exact True.intro
theorem pl_tup (xs : List Int) : Pl 1 (.tup (xs.map .int)) := pl_ints xs
theorem pl_fl (xs : List Int) : Pl 1 (.fl (xs.map .int)) := pl_ints xs
theorem eqv_tup_nil (xs : List D) : PyData.eqv (D.tup xs).toP (D.tup []).toP = xs.isEmpty := by
  rw [D.toP, D.toP, PyData.eqv]
  cases xs with
  | nil => simp [toPs, PyData.eqvAll]
  | cons x xs => simp [toPs, PyData.eqvAll]
theorem oEq_tup {n : Nat} {xs : List D} {m : Mu} {Q : QE} (h : Pl n (.tup xs)) (hn : n ≤ 64) (q : Q (.bl true) m) : oEq (.tup xs) (.tup xs) m Q := by
  rw [q_oEq_2]
  exact ⟨h.shaped hn, h.shaped hn, by rw [h.eq]; exact q⟩
theorem oNe_tup {n : Nat} {xs : List D} {m : Mu} {Q : QE} (h : Pl n (.tup xs)) (hn : n ≤ 64) (q : Q (.bl false) m) : oNe (.tup xs) (.tup xs) m Q := by
  rw [q_oNe_2]
  exact ⟨h.shaped hn, h.shaped hn, by rw [h.eq]; exact q⟩
theorem q_oEq_fl {xs ys : List D} {m : Mu} {Q : QE} : oEq (.fl xs) (.fl ys) m Q = (SeqAt.shaped (D.fl xs).toP = true ∧ SeqAt.shaped (D.fl ys).toP = true ∧ Q (.bl (PyData.eqv (D.fl xs).toP (D.fl ys).toP)) m) := rfl
theorem q_oNe_fl {xs ys : List D} {m : Mu} {Q : QE} : oNe (.fl xs) (.fl ys) m Q = (SeqAt.shaped (D.fl xs).toP = true ∧ SeqAt.shaped (D.fl ys).toP = true ∧ Q (.bl (!PyData.eqv (D.fl xs).toP (D.fl ys).toP)) m) := rfl
theorem oEq_fl {n : Nat} {xs : List D} {m : Mu} {Q : QE} (h : Pl n (.fl xs)) (hn : n ≤ 64) (q : Q (.bl true) m) : oEq (.fl xs) (.fl xs) m Q := by
  rw [q_oEq_fl]
  exact ⟨h.shaped hn, h.shaped hn, by rw [h.eq]; exact q⟩
theorem oNe_fl {n : Nat} {xs : List D} {m : Mu} {Q : QE} (h : Pl n (.fl xs)) (hn : n ≤ 64) (q : Q (.bl false) m) : oNe (.fl xs) (.fl xs) m Q := by
  rw [q_oNe_fl]
  exact ⟨h.shaped hn, h.shaped hn, by rw [h.eq]; exact q⟩
theorem oEq_str {x y : Str} {m : Mu} {Q : QE} (hx : PyData.canLay0 (.str x) = true) (hy : PyData.canLay0 (.str y) = true) (q : Q (.bl (x == y)) m) : oEq (.str x) (.str y) m Q := by
  have sh : ∀ z, PyData.canLay0 (.str z) = true → SeqAt.shaped (D.str z).toP = true := fun z hz => Pl.shaped (n := 0) hz (by decide)
  refine ⟨sh x hx, sh y hy, ?_⟩
  show Q (.bl (PyData.eqv (D.str x).toP (D.str y).toP)) m
  rw [D.toP, D.toP, PyData.eqv]
  exact q
theorem oNe_str {x y : Str} {m : Mu} {Q : QE} (hx : PyData.canLay0 (.str x) = true) (hy : PyData.canLay0 (.str y) = true) (q : Q (.bl (!(x == y))) m) : oNe (.str x) (.str y) m Q := by
  have sh : ∀ z, PyData.canLay0 (.str z) = true → SeqAt.shaped (D.str z).toP = true := fun z hz => Pl.shaped (n := 0) hz (by decide)
  refine ⟨sh x hx, sh y hy, ?_⟩
  show Q (.bl (!PyData.eqv (D.str x).toP (D.str y).toP)) m
  rw [D.toP, D.toP, PyData.eqv]
  exact q
theorem eqv_fl_nil (xs : List D) : PyData.eqv (D.fl xs).toP (D.fl []).toP = xs.isEmpty := by
  rw [D.toP, D.toP, PyData.eqv]
  cases xs with
  | nil => simp [toPs, PyData.eqvAll]
  | cons x xs => simp [toPs, PyData.eqvAll]
theorem oNe_fl_nil {n : Nat} {xs : List D} {m : Mu} {Q : QE} (h : Pl n (.fl xs)) (hn : n ≤ 64) (q : Q (.bl (!xs.isEmpty)) m) : oNe (.fl xs) (.fl []) m Q := by
  rw [q_oNe_fl, eqv_fl_nil]
  exact ⟨h.shaped hn, Pl.shaped (n := 1) (d := .fl []) (fun x hx => by cases hx) (by decide), q⟩
theorem oNe_tup_nil {n : Nat} {xs : List D} {m : Mu} {Q : QE} (h : Pl n (.tup xs)) (hn : n ≤ 64) (q : Q (.bl (!xs.isEmpty)) m) : oNe (.tup xs) (.tup []) m Q := by
  rw [q_oNe_2, eqv_tup_nil]
  exact ⟨h.shaped hn, Pl.shaped (n := 1) (d := .tup []) (fun x hx => by cases hx) (by decide), q⟩
theorem oEq_tup_nil {n : Nat} {xs : List D} {m : Mu} {Q : QE} (h : Pl n (.tup xs)) (hn : n ≤ 64) (q : Q (.bl xs.isEmpty) m) : oEq (.tup xs) (.tup []) m Q := by
  rw [q_oEq_2, eqv_tup_nil]
  exact ⟨h.shaped hn, Pl.shaped (n := 1) (d := .tup []) (fun x hx => by cases hx) (by decide), q⟩
/-- a list that may change, told empty -/
theorem oNe_ref_nil {n : Nat} {a : Addr} {xs : List D} {m : Mu} {Q : QE} (ha : m a = some (.lst xs)) (h : Pl n (.fl xs)) (hn : n ≤ 64) (q : Q (.bl (!xs.isEmpty)) m) : oNe (.ref a) (.fl []) m Q := by
  show SeqAt.shaped (rsD m (.ref a)).toP = true ∧ _ ∧ Q (.bl (!PyData.eqv (rsD m (.ref a)).toP (D.fl []).toP)) m
  have e : rsD m (.ref a) = .fl xs := by
    show (match m a with | some (.lst xs) => D.fl xs | _ => .ref a) = _
    rw [ha]
  rw [e, eqv_fl_nil]
  exact ⟨h.shaped hn, Pl.shaped (n := 1) (d := .fl []) (fun x hx => by cases hx) (by decide), q⟩
/-! ### what stands -/
def Ext (m m' : Mu) : Prop := ∀ b, m b ≠ none → m' b = m b
theorem Ext.refl (m : Mu) : Ext m m := fun _ _ => rfl
theorem Ext.trans {m m1 m2 : Mu} (h : Ext m m1) (g : Ext m1 m2) : Ext m m2 := fun b hb => by
  rw [g b (by rw [h b hb]; exact hb), h b hb]
theorem Ext.upd {m : Mu} {p : Addr} (h : m p = none) (o : MO) : Ext m (updM m p o) := fun b hb => by
  unfold updM
  rw [if_neg (fun e => hb (by rw [e]; exact h))]
theorem Ext.upd2 {m m2 : Mu} {p : Addr} (h : Ext m m2) (np : m p = none) (o : MO) : Ext m (updM m2 p o) := fun b hb => by
  unfold updM
  rw [if_neg (fun e => hb (by rw [e]; exact np))]
  exact h b hb
theorem updM_id {m : Mu} {p : Addr} {o : MO} (h : m p = some o) : updM m p o = m := by
  funext b
  unfold updM
  by_cases e : b = p
  · rw [if_pos e, e, h]
  · rw [if_neg e]
theorem Ext.at {m m2 : Mu} {p : Addr} {o : MO} (h : Ext m m2) (hp : m p = some o) : m2 p = some o := by
  rw [h p (by rw [hp]; exact fun e => by cases e), hp]
theorem atI_end {xs : List D} {x : D} (h : xs.getLast? = some x) : atI xs (-1) = some x := by
  have hx : xs ≠ [] := fun e => by rw [e] at h; cases h
  have e := List.dropLast_concat_getLast hx
  have e2 : xs.getLast hx = x := by
    rw [List.getLast?_eq_getLast hx] at h
    exact Option.some.inj h
  rw [e2] at e
  rw [← e]
  exact atI_last _ _
/-! ### comprehensions -/
/-- items by place, all of them -/
theorem comp_map {wk : Wk} {g : ZTG} {t : ZTT} {e : ZTE} {vs : List Nat} {ρ : ZEnv} {m : Mu} {Q : QE} (f : Nat → D) (hs : wk.n ≤ sizeLine) (hi : wk.inv m)
    (h : ∀ i, i < wk.n → ∀ (K1 : QE) (K2 : Mu → Prop), K1 (f i) m → g (wk.item i) (wipeZ ρ vs) m (fun ρ2 m2 => t ρ2 m2 (fun c m3 => if c = true then e ρ2 m3 K1 noX else K2 m3) noX) noX)
    (hq : Q (.fl ((List.range wk.n).map f)) m) : CompP wk g t e vs ρ m Q := by
  refine comp_i (fun i acc m' => i ≤ wk.n ∧ acc = (List.range i).map f ∧ m' = m) ⟨Nat.zero_le _, rfl, rfl⟩ ?_
  rintro i acc m' ⟨hl, rfl, rfl⟩
  refine ⟨hi, fun hlt => ?_, fun e => by rw [e]; exact hq⟩
  refine h i hlt _ _ ⟨?_, hlt, ?_, rfl⟩
  · rw [List.length_map, List.length_range]; omega
  · rw [List.range_succ, List.map_append]; rfl
/-- some of them -/
theorem comp_filter {wk : Wk} {g : ZTG} {t : ZTT} {e : ZTE} {vs : List Nat} {ρ : ZEnv} {m : Mu} {Q : QE} (f : Nat → D) (p : Nat → Bool) (hs : wk.n ≤ sizeLine) (hi : wk.inv m)
    (h : ∀ i, i < wk.n → ∀ (K1 : QE) (K2 : Mu → Prop), (p i = true → K1 (f i) m) → (p i = false → K2 m) → g (wk.item i) (wipeZ ρ vs) m (fun ρ2 m2 => t ρ2 m2 (fun c m3 => if c = true then e ρ2 m3 K1 noX else K2 m3) noX) noX)
    (hq : Q (.fl (((List.range wk.n).filter p).map f)) m) : CompP wk g t e vs ρ m Q := by
  refine comp_i (fun i acc m' => i ≤ wk.n ∧ acc = ((List.range i).filter p).map f ∧ m' = m) ⟨Nat.zero_le _, rfl, rfl⟩ ?_
  rintro i acc m' ⟨hl, rfl, rfl⟩
  refine ⟨hi, fun hlt => ?_, fun e => by rw [e]; exact hq⟩
  refine h i hlt _ _ (fun hp => ⟨?_, hlt, ?_, rfl⟩) (fun hp => ⟨hlt, ?_, rfl⟩)
  · rw [List.length_map]
    have := List.length_filter_le p (List.range i)
    rw [List.length_range] at this
    omega
  · rw [List.range_succ, List.filter_append, List.map_append]
    simp [hp]
  · rw [List.range_succ, List.filter_append, List.map_append]
    simp [hp]
def CompPM (wk : Wk) (g : ZTG) (t : ZTT) (e : ZTE) (vs : List Nat) (ρ : ZEnv) (m : Mu) (Q : QE) : Prop := ∃ I : Nat → List D → Mu → Prop, I 0 [] m ∧ ∀ i acc m, I i acc m → wk.inv m ∧
  (i < wk.n → g (wk.item i) (wipeZ ρ vs) m (fun ρ2 m2 => t ρ2 m2 (fun c m3 => if c = true then e ρ2 m3 (fun y m4 => acc.length < sizeLine ∧ I (i + 1) (acc ++ [y]) m4) noX else I (i + 1) acc m3) noX) noX) ∧ (i = wk.n → ∀ p, m p = none → Q (.ref p) (updM m p (.lst acc)))
theorem comp_eM {it : ZTI} {g : ZTG} {t : ZTT} {e : ZTE} {vs : List Nat} {ρ : ZEnv} {m : Mu} {Q : QE} {E : QX} : zlcM it g t e vs ρ m Q E = it ρ m (fun wk m1 => CompPM wk g t e vs ρ m1 Q) E := rfl
theorem comp_mapM {wk : Wk} {g : ZTG} {t : ZTT} {e : ZTE} {vs : List Nat} {ρ : ZEnv} {m : Mu} {Q : QE} (f : Nat → D) (hs : wk.n ≤ sizeLine) (hi : wk.inv m)
    (h : ∀ i, i < wk.n → ∀ (K1 : QE) (K2 : Mu → Prop), K1 (f i) m → g (wk.item i) (wipeZ ρ vs) m (fun ρ2 m2 => t ρ2 m2 (fun c m3 => if c = true then e ρ2 m3 K1 noX else K2 m3) noX) noX)
    (hq : ∀ p, m p = none → Q (.ref p) (updM m p (.lst ((List.range wk.n).map f)))) : CompPM wk g t e vs ρ m Q := by
  refine ⟨fun i acc m' => i ≤ wk.n ∧ acc = (List.range i).map f ∧ m' = m, ⟨Nat.zero_le _, rfl, rfl⟩, ?_⟩
  rintro i acc m' ⟨hl, rfl, rfl⟩
  refine ⟨hi, fun hlt => ?_, fun e => by rw [e]; exact hq⟩
  refine h i hlt _ _ ⟨?_, hlt, ?_, rfl⟩
  · rw [List.length_map, List.length_range]; omega
  · rw [List.range_succ, List.map_append]; rfl
theorem ixN_nat {n j : Nat} (h : j < n) : ixN n (j : Int) = some j := by
  unfold ixN
  rw [if_pos (Int.natCast_nonneg j), if_pos (by omega)]
  rfl
theorem range_getD {α β : Type} (xs : List α) (d : α) (f : α → β) : (List.range xs.length).map (fun i => f (xs.getD i d)) = xs.map f := by
  apply List.ext_getElem
  · simp
  · intro i h1 h2
    have h3 : i < xs.length := by simpa using h2
    simp [h3, List.getD_eq_getElem?_getD]
/-- any, all of truths -/
theorem cAny_bls {bs : List Bool} {m : Mu} {Q : QE} (q : Q (.bl (bs.any id)) m) : cAny [.fl (bs.map .bl)] m Q := by
  simp only [cAny, cBls, q_seqD_1, blsD_map]
  exact q
theorem cAll_bls {bs : List Bool} {m : Mu} {Q : QE} (q : Q (.bl (bs.all id)) m) : cAll [.fl (bs.map .bl)] m Q := by
  simp only [cAll, cBls, q_seqD_1, blsD_map]
  exact q
/-! ### pairs of numbers -/
def pr (p : Int × Int) : D := .tup [.int p.1, .int p.2]
theorem getD_prs {ps : List (Int × Int)} {i : Nat} (h : i < ps.length) : (ps.map pr).getD i .non = .tup [.int (ps.getD i (0, 0)).1, .int (ps.getD i (0, 0)).2] := by
  simp [List.getD_eq_getElem?_getD, h, pr]
theorem pl_prs (ps : List (Int × Int)) : Pl 2 (.tup (ps.map pr)) := fun x hx => by
  obtain ⟨p, _, rfl⟩ := List.mem_map.mp hx
  intro y hy
  rcases List.mem_cons.mp hy with rfl | hy
  · exact True.intro
  · rw [List.mem_singleton.mp hy]
    exact True.intro
theorem all_rep (k : Nat) : (List.replicate k true).all id = true := by
  induction k with
  | zero => rfl
  | succ k ih => rw [List.replicate_succ, List.all_cons, ih]; rfl
theorem rng_bl (k : Nat) : (List.range k).map (fun _ => D.bl true) = (List.replicate k true).map .bl := by
  rw [List.map_const', List.length_range, List.map_replicate]
theorem lt_len {α β : Type} {f : α → β} {xs : List α} {i : Nat} (h : i < (xs.map f).length) : i < xs.length := by rwa [List.length_map] at h
theorem eq_len {α β : Type} {f : α → β} {xs : List α} {i : Nat} (h : i = (xs.map f).length) : i = xs.length := by rwa [List.length_map] at h
theorem getD_mem {α : Type} {xs : List α} {i : Nat} {d : α} (h : i < xs.length) : xs.getD i d ∈ xs := by
  rw [List.getD_eq_getElem?_getD, List.getElem?_eq_getElem h]
  exact List.getElem_mem h
end Zed
end
section
set_option maxHeartbeats 4000000
/-! ZLib1: limbs.py. -/
namespace Zed
open PySem PySem.Spec PyProof.Rows L2
local macro_rules | `(tactic| walk_at "zs") => `(tactic| simp only [zv, zc, zop, zun, anil, acons, ztup, zfl, zlst, zbl, zcall, zcallK, tvl, ttr, tand, tor, tnot, zand, zor, zorT, znot, zif, zchn, zsl, onone, osome, zrev, zrevA, zisi, gn, gnil, gcons, gtup, gsub, snil, sseq, sexp, sret, sretN, sif, sasg, sset, spar, spar3, saug, wkL, zapp, zpop, zseal, xat, snever, tyes, ilist, itup, istr, irng1, irng2, irng3, ienum, ienumT, izip, irev, wipeZ, zev, oAddL, isNon, at2_if, iseq, ienumT, gstar, gtupA, saugS, oGetL, sl_0, sl_1, sl_2, sl_3, sl_4, sl_5, sl_6, sl_7, sl_8, at1_0, at2_0, at2_1, at3_0, at3_1, at3_2, at4_0, at4_1, at4_2, at4_3, at5_0, at5_1, at5_2, at5_3, at5_4, at6_0, at6_1, at6_2, at6_3, at6_4, at6_5, at7_0, at7_1, at7_2, at7_3, at7_4, at7_5, at7_6, at8_0, at8_1, at8_2, at8_3, at8_4, at8_5, at8_6, at8_7, ixn2_0, ixn2_1, ixn3_0, ixn3_1, ixn3_2, cp_2, vp_2, cp_3, vp_3, cp_6, vp_6, cp_7, vp_7, cp_18, vp_18, cp_60, vp_60, q_truD_1, q_truD_2, q_truD_3, q_truD_4, q_truD_5, q_truD_6, q_oAdd_1, q_oAdd_2, q_oAdd_3, q_oAdd_4, q_oInt_1, q_oSub_1, q_oLt_1, q_oEq_1, q_oNe_1, q_oNe_2, q_oEq_2, q_oIs_1, q_oIs_2, q_oIsNot_1, q_oIsNot_2, q_oNeg_1, q_cAbs_1, q_cMax_1, q_cMin_1, q_cInt_1, q_cInt_2, q_cDivmod_1, q_lenD_1, q_lenD_2, q_lenD_3, q_cLen_1, q_cTuple_1, q_cTuple_2, q_cTuple_3, q_cListF_1, q_cListF_2, q_cListF_3, q_cList_1, q_cList_2, q_seqD_1, q_seqD_2, q_lenD_4, q_oIx_1, q_oIx_2, q_oIx_4, q_oSl_1, q_oSl_2, q_oSl_3, q_oSl_4, q_tyD_1, q_tyD_2, q_tyD_3, q_tyD_4, q_tyD_5, q_tyD_6, q_cIsi_1, q_oSet_1, q_oIAdd_1, q_oIAdd_2, List.getD_cons_zero, List.getD_cons_succ, List.take_zero, List.drop_zero, updM_same, updM_upd, dropM_updM, isi_ii, isi_bi, isi_ib, isi_bb, isi_tt, List.map_cons, List.map_nil, List.replicate_succ, List.replicate_zero, List.cons_append, List.nil_append, List.append_nil, List.set_cons_zero, List.set_cons_succ, List.getElem?_cons_zero, List.getElem?_cons_succ, List.length_cons, List.length_nil, Bool.false_eq_true, if_true, if_false, Bool.not_true, Bool.not_false, Bool.not_eq_true, Bool.not_eq_false', decide_eq_true_eq, true_and, and_true, exists_eq_left', Nat.reduceAdd, Nat.reduceSub, reduceCtorEq, decide_true, decide_false, Bool.true_eq_false, ite_true, ite_false])
/-! ### figures by a base -/
def digF (b : Int) : Nat → Int → List Int
  | 0, _ => []
  | k + 1, n => if 0 < n then n % b :: digF b k (n / b) else []
def digs (b n : Int) : List Int := digF b n.toNat n
def vals (b : Int) : List Int → Int
  | [] => 0
  | x :: xs => x + b * vals b xs
theorem div_lt {b n : Int} (hb : 2 ≤ b) (hn : 0 < n) : n / b < n := by
  have h1 := Int.ediv_mul_le n (show b ≠ 0 by omega)
  have h2 : 0 ≤ n / b := Int.ediv_nonneg (by omega) (by omega)
  have h3 : n / b * 2 ≤ n / b * b := Int.mul_le_mul_of_nonneg_left hb h2
  omega
theorem digF_more {b : Int} (hb : 2 ≤ b) : ∀ (k j : Nat) (n : Int), n.toNat ≤ k → n.toNat ≤ j → digF b k n = digF b j n
  | 0, 0, _, _, _ => rfl
  | 0, j + 1, n, h, _ => by
    have : ¬ 0 < n := by omega
    simp only [digF, this, if_false]
  | k + 1, 0, n, _, h => by
    have : ¬ 0 < n := by omega
    simp only [digF, this, if_false]
  | k + 1, j + 1, n, h1, h2 => by
    simp only [digF]
    split
    · rename_i hn
      have hd := div_lt hb hn
      have h0 : 0 ≤ n / b := Int.ediv_nonneg (by omega) (by omega)
      rw [digF_more hb k j (n / b) (by omega) (by omega)]
    · rfl
theorem digs_pos {b n : Int} (hb : 2 ≤ b) (hn : 0 < n) : digs b n = n % b :: digs b (n / b) := by
  have hd := div_lt hb hn
  have h0 : 0 ≤ n / b := Int.ediv_nonneg (by omega) (by omega)
  obtain ⟨k, hk⟩ : ∃ k, n.toNat = k + 1 := ⟨n.toNat - 1, by omega⟩
  unfold digs
  rw [hk]
  simp only [digF, hn, if_true]
  rw [digF_more hb k (n / b).toNat (n / b) (by omega) (by omega)]
theorem digs_zero {b n : Int} (hn : n ≤ 0) : digs b n = [] := by
  have h : n.toNat = 0 := by omega
  unfold digs
  rw [h]
  rfl
theorem digs_ind {b : Int} (hb : 2 ≤ b) {P : Int → Prop} (h0 : ∀ n, n ≤ 0 → P n) (h1 : ∀ n, 0 < n → P (n / b) → P n) : ∀ n, P n := by
  have key : ∀ (k : Nat) (n : Int), n.toNat ≤ k → P n := by
    intro k
    induction k with
    | zero => intro n h; exact h0 n (by omega)
    | succ k ih =>
      intro n h
      by_cases hn : 0 < n
      · have hd := div_lt hb hn
        exact h1 n hn (ih _ (by omega))
      · exact h0 n (by omega)
  exact fun n => key _ n (Nat.le_refl _)
theorem vals_digs {b n : Int} (hb : 2 ≤ b) (hn : 0 ≤ n) : vals b (digs b n) = n := by
  revert hn
  refine digs_ind hb (P := fun n => 0 ≤ n → vals b (digs b n) = n) (fun n h h' => ?_) (fun n h ih _ => ?_) n
  · rw [digs_zero h]
    show (0 : Int) = n
    omega
  · rw [digs_pos hb h]
    show n % b + b * vals b (digs b (n / b)) = n
    rw [ih (Int.ediv_nonneg (by omega) (by omega))]
    exact Int.emod_add_mul_ediv n b
theorem digs_mem {b n : Int} (hb : 2 ≤ b) : ∀ x ∈ digs b n, 0 ≤ x ∧ x < b := by
  refine digs_ind hb (P := fun n => ∀ x ∈ digs b n, 0 ≤ x ∧ x < b) (fun n h => ?_) (fun n h ih => ?_) n
  · rw [digs_zero h]
    intro x hx
    cases hx
  · rw [digs_pos hb h]
    intro x hx
    rcases List.mem_cons.mp hx with e | e
    · subst e
      exact ⟨Int.emod_nonneg _ (by omega), Int.emod_lt_of_pos _ (by omega)⟩
    · exact ih x e
theorem digs_last {b n : Int} (hb : 2 ≤ b) : ∀ x, (digs b n).getLast? = some x → x ≠ 0 := by
  refine digs_ind hb (P := fun n => ∀ x, (digs b n).getLast? = some x → x ≠ 0) (fun n h => ?_) (fun n h ih => ?_) n
  · rw [digs_zero h]
    intro x hx
    cases hx
  · rw [digs_pos hb h]
    intro x hx
    by_cases hq : 0 < n / b
    · rw [digs_pos hb hq, List.getLast?_cons_cons, ← digs_pos hb hq] at hx
      exact ih x hx
    · rw [digs_zero (show n / b ≤ 0 by omega)] at hx
      have hx' : n % b = x := by simpa using hx
      have h1 := Int.emod_add_mul_ediv n b
      have h2 : 0 ≤ n / b := Int.ediv_nonneg (by omega) (by omega)
      have h3 : n / b = 0 := by omega
      rw [h3, Int.mul_zero] at h1
      omega
theorem digs_len {b : Int} (hb : 2 ≤ b) : ∀ (k : Nat) (n : Int), n < 2 ^ k → (digs b n).length ≤ k := by
  intro k
  induction k with
  | zero =>
    intro n h
    rw [digs_zero (by omega)]
    exact Nat.le_refl _
  | succ k ih =>
    intro n h
    by_cases hn : 0 < n
    · rw [digs_pos hb hn, List.length_cons]
      have h2 : n / b < 2 ^ k := by
        have h3 : n / b ≤ n / 2 := by
          have h5 : 0 ≤ n / b := Int.ediv_nonneg (by omega) (by omega)
          have h6 := Int.ediv_mul_le n (show b ≠ 0 by omega)
          have h7 : n / b * 2 ≤ n / b * b := Int.mul_le_mul_of_nonneg_left hb h5
          omega
        have h4 : (2 : Int) ^ (k + 1) = 2 ^ k * 2 := Int.pow_succ 2 k
        omega
      exact Nat.succ_le_succ (ih _ h2)
    · rw [digs_zero (by omega)]
      exact Nat.zero_le _
theorem vals_nn {b : Int} (hb : 0 ≤ b) : ∀ {xs : List Int}, (∀ x ∈ xs, 0 ≤ x) → 0 ≤ vals b xs
  | [], _ => Int.le_refl 0
  | x :: xs, h => by
    have h1 := h x List.mem_cons_self
    have h2 := vals_nn hb fun y hy => h y (List.mem_cons_of_mem _ hy)
    have h3 := Int.mul_nonneg hb h2
    show 0 ≤ x + b * vals b xs
    omega
theorem vals_lt {b : Int} (hb : 1 ≤ b) : ∀ {xs : List Int}, (∀ x ∈ xs, 0 ≤ x ∧ x < b) → vals b xs < b ^ xs.length
  | [], _ => by
    show (0 : Int) < b ^ 0
    rw [Int.pow_zero]
    decide
  | x :: xs, h => by
    have h1 := h x List.mem_cons_self
    have h2 := vals_lt hb fun y hy => h y (List.mem_cons_of_mem _ hy)
    have h3 : b * vals b xs ≤ b * (b ^ xs.length - 1) := Int.mul_le_mul_of_nonneg_left (by omega) (by omega)
    show x + b * vals b xs < b ^ (xs.length + 1)
    rw [Int.pow_succ, Int.mul_comm _ b]
    have h4 : b * (b ^ xs.length - 1) = b * b ^ xs.length - b := by rw [Int.mul_sub, Int.mul_one]
    omega
/-- figures, the last one above 0, are those of their number -/
theorem digs_vals {b : Int} (hb : 2 ≤ b) : ∀ {xs : List Int}, (∀ x ∈ xs, 0 ≤ x ∧ x < b) → (∀ x, xs.getLast? = some x → x ≠ 0) → digs b (vals b xs) = xs
  | [], _, _ => digs_zero (Int.le_refl 0)
  | x :: xs, h, hl => by
    have h1 := h x List.mem_cons_self
    have hr : ∀ y ∈ xs, 0 ≤ y ∧ y < b := fun y hy => h y (List.mem_cons_of_mem _ hy)
    have h2 : 0 ≤ vals b xs := vals_nn (by omega) fun y hy => (hr y hy).1
    have hl2 : ∀ y, xs.getLast? = some y → y ≠ 0 := fun y hy => hl y (by
      cases xs with
      | nil => cases hy
      | cons z zs => rw [List.getLast?_cons_cons]; exact hy)
    have ih := digs_vals hb hr hl2
    have hm : (x + b * vals b xs) % b = x := by
      rw [Int.add_mul_emod_self_left]
      exact Int.emod_eq_of_lt h1.1 h1.2
    have hd : (x + b * vals b xs) / b = vals b xs := by
      rw [Int.add_mul_ediv_left _ _ (show b ≠ 0 by omega), Int.ediv_eq_zero_of_lt h1.1 h1.2, Int.zero_add]
    have hp : 0 < x + b * vals b xs := by
      have h3 := Int.mul_nonneg (show 0 ≤ b by omega) h2
      cases xs with
      | nil =>
        have := hl x rfl
        show 0 < x + b * 0
        omega
      | cons z zs =>
        have h4 : vals b (z :: zs) ≠ 0 := fun e => by
          rw [e, digs_zero (Int.le_refl 0)] at ih
          cases ih
        have h5 : 0 < vals b (z :: zs) := by omega
        have h6 := Int.mul_pos (show 0 < b by omega) h5
        omega
    show digs b (x + b * vals b xs) = x :: xs
    rw [digs_pos hb hp, hm, hd, ih]

/-! ### limbs.py -/
def b_is_whole : ZTS :=
  (sret (zand (zisi .int (zv 0)) (znot (zisi .bool (zv 0)))))
def c_is_whole : ZSp := fun ds m Q _ => match ds with
  | [d] => match tyD m d with
    | some t => Q (.bl (decide (t = .int))) m
    | none => False
  | _ => False
theorem w_is_whole (ds : List D) (m : Mu) (Q : QE) (E : QX) (h : c_is_whole ds m Q E) : ds.length = 1 ∧ b_is_whole ⟨fun _ m => Q .non m, Q, fun x _ m => E x m⟩ (ds.map some ++ List.replicate (1 - ds.length) none) m := by
  unfold c_is_whole at h
  split at h
  · rename_i d
    refine ⟨rfl, ?_⟩
    split at h
    · rename_i t q
      unfold b_is_whole
      walk_at "zs"
      simp only [q]
      cases t <;> exact h
    · exact h.elim
  · exact h.elim
theorem isw_int {n : Int} {m : Mu} {Q : QE} {E : QX} : c_is_whole [.int n] m Q E = Q (.bl true) m := by
  unfold c_is_whole
  simp only [q_tyD_3, decide_true]
def b_check_number : ZTS :=
  (sif (tor (tnot (tvl (zcall c_is_whole (acons (zv 0) anil)))) (tvl (zop oLt (zv 0) (zc (.int 0))))) snever snil)
def c_check_number : ZSp := fun ds m Q _ => ∃ n : Int, ds = [.int n] ∧ 0 ≤ n ∧ Q .non m
theorem w_check_number (ds : List D) (m : Mu) (Q : QE) (E : QX) (h : c_check_number ds m Q E) : ds.length = 1 ∧ b_check_number ⟨fun _ m => Q .non m, Q, fun x _ m => E x m⟩ (ds.map some ++ List.replicate (1 - ds.length) none) m := by
  obtain ⟨n, rfl, h0, h⟩ := h
  refine ⟨rfl, ?_⟩
  unfold b_check_number
  walk_at "zs"
  simp only [c_is_whole, q_tyD_3, decide_true, Bool.not_true, Bool.false_eq_true, if_false, show ¬ n < 0 by omega, decide_false]
  exact h
def b_check_base : ZTS :=
  (sif (tor (tnot (tvl (zcall c_is_whole (acons (zv 0) anil)))) (tnot (tvl (zchn oLe oLe (zc (.int 2)) (zv 0) (zc (.int 1000000)))))) snever snil)
def c_check_base : ZSp := fun ds m Q _ => ∃ n : Int, ds = [.int n] ∧ 2 ≤ n ∧ n ≤ 1000000 ∧ Q .non m
theorem w_check_base (ds : List D) (m : Mu) (Q : QE) (E : QX) (h : c_check_base ds m Q E) : ds.length = 1 ∧ b_check_base ⟨fun _ m => Q .non m, Q, fun x _ m => E x m⟩ (ds.map some ++ List.replicate (1 - ds.length) none) m := by
  obtain ⟨n, rfl, h0, h1, h⟩ := h
  refine ⟨rfl, ?_⟩
  unfold b_check_base
  walk_at "zs"
  simp only [c_is_whole, q_tyD_3, decide_true, Bool.not_true, Bool.false_eq_true, if_false, h0, h1, if_true]
  exact h
def b_figures_of : ZTS :=
  (sseq (sset (zlst anil) 2)
    (sseq (swhile (tvl (zop oGt (zv 0) (zc (.int 0)))) (sseq (sasg (zbl (acons (zv 0) (acons (zv 1) anil)) cDivmod) (gtup 2 (gcons (gn 0) (gcons (gn 3) gnil))))
    (sexp (zapp (zv 2) (acons (zv 3) anil)))))
    (sret (zseal (zv 2)))))
def c_figures_of : ZSp := fun ds m Q _ => ∃ n b : Int, ds = [.int n, .int b] ∧ 0 ≤ n ∧ n < 2 ^ 100000 ∧ 2 ≤ b ∧ b < 2 ^ 8000 ∧ Q (.fl ((digs b n).map .int)) m
theorem w_figures_of (ds : List D) (m : Mu) (Q : QE) (E : QX) (h : c_figures_of ds m Q E) : ds.length = 2 ∧ b_figures_of ⟨fun _ m => Q .non m, Q, fun x _ m => E x m⟩ (ds.map some ++ List.replicate (4 - ds.length) none) m := by
  obtain ⟨n, b, rfl, h0, h1, h2, h3, h⟩ := h
  refine ⟨rfl, ?_⟩
  unfold b_figures_of
  walk_at "zs"
  refine fun p np => ?_
  have hlen := digs_len h2 _ n h1
  refine while_i (fun k ρ m' => ∃ (r : Int) (acc : List Int) (y : Option D), k = r.toNat ∧ 0 ≤ r ∧ acc ++ digs b r = digs b n ∧ ρ = [some (.int r), some (.int b), some (.ref p), y] ∧ m' = updM m p (.lst (acc.map .int))) n.toNat ⟨n, [], none, rfl, h0, rfl, rfl, rfl⟩ ?_
  rintro k ρ m' ⟨r, acc, y, rfl, hr, ha, rfl, rfl⟩
  walk_at "zs"
  by_cases hp : 0 < r
  · simp only [hp, decide_true, if_true]
    refine ⟨small_div (by omega) h3, ⟨_, rfl⟩, ?_⟩
    rw [digs_pos h2 hp] at ha
    have hl : acc.length < sizeLine := by
      have := congrArg List.length ha
      rw [List.length_append, List.length_cons] at this
      rw [sizeLine_eq]
      omega
    refine ⟨by rw [List.length_map]; exact hl, (r / b).toNat, ?_, r / b, acc ++ [r % b], _, rfl, Int.ediv_nonneg (by omega) (by omega), by rw [List.append_assoc]; exact ha, rfl, by rw [List.map_append]; rfl⟩
    have := div_lt h2 hp
    have h5 : 0 ≤ r / b := Int.ediv_nonneg (by omega) (by omega)
    omega
  · simp only [hp, decide_false, Bool.false_eq_true, if_false]
    rw [digs_zero (by omega), List.append_nil] at ha
    rw [dropM_updM np, ha]
    exact h
/-- a row of figures as data -/
def RowD (d : D) (xs : List Int) : Prop := d = .tup (xs.map .int) ∨ d = .fl (xs.map .int)
theorem vals_drop {b : Int} {xs : List Int} {i : Nat} (h : i < xs.length) : vals b (xs.drop (xs.length - 1 - i)) = vals b (xs.drop (xs.length - i)) * b + xs.getD (xs.length - 1 - i) 0 := by
  have h1 : xs.length - 1 - i < xs.length := by omega
  rw [List.drop_eq_getElem_cons h1, show xs.length - 1 - i + 1 = xs.length - i by omega]
  show xs[xs.length - 1 - i] + b * vals b (xs.drop (xs.length - i)) = _
  rw [List.getD_eq_getElem?_getD, List.getElem?_eq_getElem h1, Int.mul_comm b]
  exact Int.add_comm _ _
theorem getD_rev {xs : List Int} {i : Nat} (h : i < xs.length) : xs.reverse.getD i 0 = xs.getD (xs.length - 1 - i) 0 := by
  rw [List.getD_eq_getElem?_getD, List.getD_eq_getElem?_getD, List.getElem?_reverse h]
theorem vals_small {b : Int} {xs : List Int} (h0 : 1 ≤ b) (hb : b ≤ 2 ^ 20) (h : ∀ x ∈ xs, 0 ≤ x ∧ x < b) : (vals b xs).natAbs < 2 ^ (20 * xs.length + 1) := by
  have g1 := vals_nn (b := b) (by omega) fun z hz => (h z hz).1
  have g2 := vals_lt h0 h
  have g3 : (b ^ xs.length).natAbs ≤ 2 ^ (20 * xs.length) := abs_pow _ (by
    have : (2 : Int) ^ 20 = ((2 ^ 20 : Nat) : Int) := by decide
    omega)
  have g4 : 2 ^ (20 * xs.length) < 2 ^ (20 * xs.length + 1) := Nat.pow_lt_pow_right (by decide) (Nat.lt_succ_self _)
  omega
def b_put_together : ZTS :=
  (sseq (sset (zc (.int 0)) 2)
    (sseq (sfor (iseq (zrevA (zv 0))) (gn 3) (sset (zop oAdd (zop oMul (zv 2) (zv 1)) (zv 3)) 2))
    (sret (zv 2))))
def c_put_together : ZSp := fun ds m Q _ => ∃ (d : D) (xs : List Int) (b : Int), ds = [d, .int b] ∧ RowD d xs ∧ (∀ x ∈ xs, 0 ≤ x ∧ x < b) ∧ 2 ≤ b ∧ b ≤ 1000000 ∧ xs.length ≤ 15000 ∧ Q (.int (vals b xs)) m
theorem million_lt {b : Int} (h : b ≤ 1000000) : b < 2 ^ 8000 := lt_two (j := 20) (by
  have : (2 : Int) ^ 20 = 1048576 := by decide
  omega) (by decide)
theorem w_put_together (ds : List D) (m : Mu) (Q : QE) (E : QX) (h : c_put_together ds m Q E) : ds.length = 2 ∧ b_put_together ⟨fun _ m => Q .non m, Q, fun x _ m => E x m⟩ (ds.map some ++ List.replicate (4 - ds.length) none) m := by
  obtain ⟨d, xs, b, rfl, hd, hx, h0, h1, h2, h⟩ := h
  refine ⟨rfl, ?_⟩
  have hb20 : b ≤ 2 ^ 20 := by
    have : (2 : Int) ^ 20 = 1048576 := by decide
    omega
  have key : ∀ i, i < xs.length → CMulW (vals b (xs.drop (xs.length - i))) b ∧ vals b (xs.drop (xs.length - i)) * b + xs.getD (xs.length - 1 - i) 0 = vals b (xs.drop (xs.length - 1 - i)) := fun i hi => by
    refine ⟨?_, (vals_drop hi).symm⟩
    have hd : ∀ z ∈ xs.drop (xs.length - i), 0 ≤ z ∧ z < b := fun z hz => hx z (List.mem_of_mem_drop hz)
    have g1 := vals_small (by omega) hb20 hd
    refine mul_ok (a := 300001) (b := 8000) (abs_more g1 ?_) (abs_lt (by omega) (million_lt h1)) (by decide)
    rw [List.length_drop]
    omega
  unfold b_put_together
  have body : ∀ (Dz : ZEnds) (ys : List D) (inv : Mu → Prop), ys = (xs.map D.int).reverse → inv m → (∀ y, Dz.nx [some d, some (.int b), some (.int (vals b xs)), y] m) → LoopP ⟨ys.length, fun i => ys.getD i .non, inv⟩ (gn 3) (sset (zop oAdd (zop oMul (zv 2) (zv 1)) (zv 3)) 2)
      Dz [some d, some (.int b), some (.int 0), none] m := by
    intro Dz ys inv hy hi hnx
    obtain ⟨I, hI⟩ : ∃ I : Nat → ZEnv → Mu → Prop, I = fun i ρ m' => ∃ y, i ≤ xs.length ∧ ρ = [some d, some (.int b), some (.int (vals b (xs.drop (xs.length - i)))), y] ∧ m' = m := ⟨_, rfl⟩
    refine loop_i I (by rw [hI]; exact ⟨none, Nat.zero_le _, by rw [Nat.sub_zero, List.drop_length]; rfl, rfl⟩) fun i ρ m' hi' => ?_
    rw [hI] at hi'
    obtain ⟨y, hl, rfl, rfl⟩ := hi'
    have hn : ys.length = xs.length := by rw [hy]; simp
    refine ⟨hi, fun hlt => ?_, fun e => ?_⟩
    · have hlt' : i < xs.length := by rw [← hn]; exact hlt
      have ey : ys.getD i .non = .int (xs.getD (xs.length - 1 - i) 0) := by
        rw [hy, ← List.map_reverse, getD_ints, if_pos (by rw [List.length_reverse]; exact hlt'), getD_rev hlt']
      show gn 3 (ys.getD i .non) _ _ _ _
      rw [ey]
      walk_at "zs"
      obtain ⟨k1, k2⟩ := key i hlt'
      rw [k2, show xs.length - 1 - i = xs.length - (i + 1) by omega, hI]
      exact ⟨k1, _, hlt', rfl, rfl⟩
    · have e' : i = xs.length := by rw [← hn]; exact e
      subst e'
      rw [Nat.sub_self]
      exact hnx y
  rcases hd with rfl | rfl
  · walk_at "zs"
    refine for_i ?_
    walk_at "zs"
    refine body _ _ _ rfl ?_ ?_
    · trivial
    · exact fun y => h
  · walk_at "zs"
    refine for_i ?_
    walk_at "zs"
    refine body _ _ _ rfl ?_ ?_
    · trivial
    · exact fun y => h
def b_limbs_of : ZTS :=
  (sseq (sexp (zcall c_check_number (acons (zv 0) anil)))
    (sseq (sexp (zcall c_check_base (acons (zv 1) anil)))
    (sret (zbl (acons (zcall c_figures_of (acons (zv 0) (acons (zv 1) anil))) anil) cTuple))))
def c_limbs_of0 : ZSp := fun ds m Q _ => ∃ n b : Int, ds = [.int n, .int b] ∧ 0 ≤ n ∧ n < 2 ^ 100000 ∧ 2 ≤ b ∧ b ≤ 1000000 ∧ Q (.tup ((digs b n).map .int)) m
theorem w_limbs_of (ds : List D) (m : Mu) (Q : QE) (E : QX) (h : c_limbs_of0 ds m Q E) : ds.length = 2 ∧ b_limbs_of ⟨fun _ m => Q .non m, Q, fun x _ m => E x m⟩ (ds.map some ++ List.replicate (2 - ds.length) none) m := by
  obtain ⟨n, b, rfl, h0, h1, h2, h3, h⟩ := h
  refine ⟨rfl, ?_⟩
  unfold b_limbs_of
  walk_at "zs"
  exact ⟨n, rfl, h0, b, rfl, h2, h3, n, b, rfl, h0, h1, h2, million_lt h3, h⟩
theorem shaped_ints (xs : List Int) : SeqAt.shaped (D.tup (xs.map .int)).toP = true := by
  have h1 : ∀ ys : List Int, PyData.canLayAll0 (toPs (ys.map .int)) = true ∧ PyData.depthAll (toPs (ys.map .int)) = 0 := by
    intro ys
    induction ys with
    | nil => exact ⟨by simp [toPs, PyData.canLayAll0], by simp [toPs, PyData.depthAll]⟩
    | cons y ys ih =>
      rw [List.map_cons, toPs, D.toP]
      exact ⟨by rw [PyData.canLayAll0, ih.1]; rfl, by rw [PyData.depthAll, ih.2]; rfl⟩
  obtain ⟨a, b⟩ := h1 xs
  unfold SeqAt.shaped
  rw [D.toP]
  simp only [PyData.canLay0, PyData.depth, a, b, Bool.true_and]
  decide
theorem eqv_ints : ∀ xs ys : List Int, PyData.eqvAll (toPs (xs.map .int)) (toPs (ys.map .int)) = decide (xs = ys)
  | [], [] => by simp [toPs, PyData.eqvAll]
  | [], y :: ys => by
    rw [List.map_cons, List.map_nil, toPs, toPs, PyData.eqvAll]
    simp
  | x :: xs, [] => by
    rw [List.map_cons, List.map_nil, toPs, toPs, PyData.eqvAll]
    simp
  | x :: xs, y :: ys => by
    rw [List.map_cons, List.map_cons, toPs, toPs, D.toP, D.toP, PyData.eqvAll, eqv_ints xs ys, PyData.eqv]
    by_cases h1 : x = y
    · by_cases h2 : xs = ys
      · simp [h1, h2]
      · simp [h1, h2]
    · simp [h1]
theorem eqv_tups (xs ys : List Int) : PyData.eqv (D.tup (xs.map .int)).toP (D.tup (ys.map .int)).toP = decide (xs = ys) := by
  rw [D.toP, D.toP, PyData.eqv]
  exact eqv_ints xs ys
theorem atI_last_int {xs : List Int} {x : Int} (h : xs.getLast? = some x) : atI (xs.map D.int) (-1) = some (.int x) := by
  have hx : xs ≠ [] := fun e => by rw [e] at h; cases h
  have e := List.dropLast_concat_getLast hx
  have e2 : xs.getLast hx = x := by
    rw [List.getLast?_eq_getLast hx] at h
    exact Option.some.inj h
  rw [e2] at e
  rw [← e, List.map_append]
  exact atI_last _ _
def b_number_of : ZTS :=
  (sseq (sexp (zcall c_check_base (acons (zv 1) anil)))
    (sseq (sif (tnot (tvl (zisi .tuple (zv 0)))) snever snil)
    (sseq (sfor (ienumT (acons (zv 0) anil)) (gtup 2 (gcons (gn 2) (gcons (gn 3) gnil))) (sif (tor (tnot (tvl (zcall c_is_whole (acons (zv 3) anil)))) (tnot (tvl (zchn oLe oLt (zc (.int 0)) (zv 3) (zv 1))))) snever snil))
    (sseq (sif (tand (tvl (zop oNe (zv 0) (ztup anil))) (tvl (zop oEq (zop oIx (zv 0) (zun oNeg (zc (.int 1)))) (zc (.int 0))))) snever snil)
    (sret (zcall c_put_together (acons (zv 0) (acons (zv 1) anil))))))))
def c_number_of0 : ZSp := fun ds m Q _ => ∃ (xs : List Int) (b : Int), ds = [.tup (xs.map .int), .int b] ∧ (∀ x ∈ xs, 0 ≤ x ∧ x < b) ∧ (∀ x, xs.getLast? = some x → x ≠ 0) ∧ xs.length ≤ 15000 ∧ 2 ≤ b ∧ b ≤ 1000000 ∧ Q (.int (vals b xs)) m
theorem w_number_of (ds : List D) (m : Mu) (Q : QE) (E : QX) (h : c_number_of0 ds m Q E) : ds.length = 2 ∧ b_number_of ⟨fun _ m => Q .non m, Q, fun x _ m => E x m⟩ (ds.map some ++ List.replicate (4 - ds.length) none) m := by
  obtain ⟨xs, b, rfl, hx, hl, hn, h2, h3, h⟩ := h
  refine ⟨rfl, ?_⟩
  unfold b_number_of
  walk_at "zs"
  refine ⟨b, rfl, h2, h3, for_i ?_⟩
  walk_at "zs"
  obtain ⟨I, hI⟩ : ∃ I : Nat → ZEnv → Mu → Prop, I = fun i ρ m' => ∃ y z, ρ = [some (.tup (xs.map .int)), some (.int b), y, z] ∧ m' = m := ⟨_, rfl⟩
  refine loop_i I (by rw [hI]; exact ⟨_, _, rfl, rfl⟩) fun i ρ m' hi' => ?_
  rw [hI] at hi'
  obtain ⟨y, z, rfl, rfl⟩ := hi'
  refine ⟨trivial, fun hlt => ?_, fun e => ?_⟩
  · have hlt' : i < xs.length := by
      have hlt2 : i < (xs.map D.int).length := hlt
      rwa [List.length_map] at hlt2
    show gtup 2 _ (.tup [.int i, (xs.map D.int).getD i .non]) _ _ _ _
    rw [getD_ints, if_pos hlt']
    have hm := hx (xs.getD i 0) (by
      rw [List.getD_eq_getElem?_getD, List.getElem?_eq_getElem hlt']
      exact List.getElem_mem hlt')
    walk_at "zs"
    simp only [c_is_whole, q_tyD_3, decide_true, Bool.not_true, Bool.false_eq_true, if_false, hm.1, hm.2, if_true]
    rw [hI]
    exact ⟨_, _, rfl, rfl⟩
  · walk_at "zs"
    have sh0 := shaped_ints []
    rw [List.map_nil] at sh0
    have ev := eqv_tups xs []
    rw [List.map_nil] at ev
    refine ⟨shaped_ints xs, sh0, ?_⟩
    rw [ev]
    cases hxs : xs.getLast? with
    | none =>
      have e0 : xs = [] := List.getLast?_eq_none_iff.mp hxs
      subst e0
      simp only [decide_true, Bool.not_true, Bool.false_eq_true, if_false]
      exact ⟨_, [], b, rfl, .inl rfl, fun x hx => (by cases hx), h2, h3, Nat.zero_le _, h⟩
    | some x =>
      have e0 : xs ≠ [] := fun e => by rw [e] at hxs; cases hxs
      simp only [e0, decide_false, Bool.not_false, if_true, atI_last_int hxs, q_oEq_1, hl x hxs, Bool.false_eq_true, if_false]
      exact ⟨_, xs, b, rfl, .inl rfl, hx, h2, h3, hn, h⟩
end Zed
end
section
set_option maxHeartbeats 4000000
/-! ZEuc: the rows of Euclid's division. -/
namespace Zed
open PySem PySem.Spec PyProof.Rows L2
local macro_rules | `(tactic| walk_at "zs") => `(tactic| simp only [zv, zc, zop, zun, anil, acons, ztup, zfl, zlst, zbl, zcall, zcallK, tvl, ttr, tand, tor, tnot, zand, zor, zorT, znot, zif, zchn, zsl, onone, osome, zrev, zrevA, zisi, gn, gnil, gcons, gtup, gsub, snil, sseq, sexp, sret, sretN, sif, sasg, sset, spar, spar3, saug, wkL, zapp, zpop, zseal, xat, snever, tyes, ilist, itup, istr, irng1, irng2, irng3, ienum, ienumT, izip, irev, wipeZ, zev, oAddL, isNon, at2_if, iseq, ienumT, gstar, gtupA, saugS, oGetL, sl_0, sl_1, sl_2, sl_3, sl_4, sl_5, sl_6, sl_7, sl_8, at1_0, at2_0, at2_1, at3_0, at3_1, at3_2, at4_0, at4_1, at4_2, at4_3, at5_0, at5_1, at5_2, at5_3, at5_4, at6_0, at6_1, at6_2, at6_3, at6_4, at6_5, at7_0, at7_1, at7_2, at7_3, at7_4, at7_5, at7_6, at8_0, at8_1, at8_2, at8_3, at8_4, at8_5, at8_6, at8_7, ixn2_0, ixn2_1, ixn3_0, ixn3_1, ixn3_2, cp_2, vp_2, cp_3, vp_3, cp_6, vp_6, cp_7, vp_7, cp_18, vp_18, cp_60, vp_60, q_truD_1, q_truD_2, q_truD_3, q_truD_4, q_truD_5, q_truD_6, q_oAdd_1, q_oAdd_2, q_oAdd_3, q_oAdd_4, q_oInt_1, q_oSub_1, q_oLt_1, q_oEq_1, q_oNe_1, q_oNe_2, q_oEq_2, q_oIs_1, q_oIs_2, q_oIsNot_1, q_oIsNot_2, q_oNeg_1, q_cAbs_1, q_cMax_1, q_cMin_1, q_cInt_1, q_cInt_2, q_cDivmod_1, q_lenD_1, q_lenD_2, q_lenD_3, q_cLen_1, q_cTuple_1, q_cTuple_2, q_cTuple_3, q_cListF_1, q_cListF_2, q_cListF_3, q_cList_1, q_cList_2, q_seqD_1, q_seqD_2, q_lenD_4, q_oIx_1, q_oIx_2, q_oIx_4, q_oSl_1, q_oSl_2, q_oSl_3, q_oSl_4, q_tyD_1, q_tyD_2, q_tyD_3, q_tyD_4, q_tyD_5, q_tyD_6, q_cIsi_1, q_oSet_1, q_oIAdd_1, q_oIAdd_2, List.getD_cons_zero, List.getD_cons_succ, List.take_zero, List.drop_zero, updM_same, updM_upd, dropM_updM, isi_ii, isi_bi, isi_ib, isi_bb, isi_tt, List.map_cons, List.map_nil, List.replicate_succ, List.replicate_zero, List.cons_append, List.nil_append, List.append_nil, List.set_cons_zero, List.set_cons_succ, List.getElem?_cons_zero, List.getElem?_cons_succ, List.length_cons, List.length_nil, Bool.false_eq_true, if_true, if_false, Bool.not_true, Bool.not_false, Bool.not_eq_true, Bool.not_eq_false', decide_eq_true_eq, true_and, and_true, exists_eq_left', Nat.reduceAdd, Nat.reduceSub, reduceCtorEq, decide_true, decide_false, Bool.true_eq_false, ite_true, ite_false, isw_int])
abbrev Tri : Type := Int × Int × Int
def tri (x : Tri) : D := .tup [.int x.1, .int x.2.1, .int x.2.2]
def nxt (x y : Tri) : Tri := (x.1 - x.1 / y.1 * y.1, x.2.1 - x.1 / y.1 * y.2.1, x.2.2 - x.1 / y.1 * y.2.2)
structure EuS (a b e : Int) (x y : Tri) : Prop where
  x0 : 0 ≤ x.1
  y0 : 0 ≤ y.1
  lx : x.1 = x.2.1 * a + x.2.2 * b
  ly : y.1 = y.2.1 * a + y.2.2 * b
  g : Int.gcd x.1 y.1 = Int.gcd a b
  ee : e = 1 ∨ e = -1
  ds : e * (x.1 * y.2.1 - y.1 * x.2.1) = b
  dt : e * (x.1 * y.2.2 - y.1 * x.2.2) = -a
  sy : 0 ≤ e * y.2.1
  sx : e * x.2.1 ≤ 0
  ty : e * y.2.2 ≤ 0
  tx : 0 ≤ e * x.2.2
theorem EuS.init {a b : Int} (ha : 0 ≤ a) (hb : 0 ≤ b) : EuS a b (-1) (a, 1, 0) (b, 0, 1) := by
  constructor <;> simp <;> omega
theorem nxt_mod (x y : Tri) : (nxt x y).1 = x.1 % y.1 := by
  show x.1 - x.1 / y.1 * y.1 = x.1 % y.1
  have := Int.mul_ediv_add_emod x.1 y.1
  rw [Int.mul_comm] at this
  omega
theorem mul_nn {a b : Int} (ha : 0 ≤ a) (hb : 0 ≤ b) : 0 ≤ a * b := Int.mul_nonneg ha hb
theorem EuS.step {a b e : Int} {x y : Tri} (h : EuS a b e x y) (hy : 0 < y.1) : EuS a b (-e) y (nxt x y) := by
  have hq : 0 ≤ x.1 / y.1 := Int.ediv_nonneg h.x0 h.y0
  have hz : (nxt x y).1 = x.1 % y.1 := nxt_mod x y
  obtain ⟨x0, y0, lx, ly, g, ee, ds, dt, sy, sx, ty, tx⟩ := h
  obtain ⟨x1, x2, x3⟩ := x
  obtain ⟨y1, y2, y3⟩ := y
  simp only [nxt] at *
  generalize x1 / y1 = q at *
  have e1 : y1 * (x2 - q * y2) - (x1 - q * y1) * y2 = -(x1 * y2 - y1 * x2) := by
    simp only [Int.mul_sub, Int.sub_mul]
    have : y1 * (q * y2) = q * y1 * y2 := by rw [← Int.mul_assoc, Int.mul_comm y1 q]
    omega
  have e2 : y1 * (x3 - q * y3) - (x1 - q * y1) * y3 = -(x1 * y3 - y1 * x3) := by
    simp only [Int.mul_sub, Int.sub_mul]
    have : y1 * (q * y3) = q * y1 * y3 := by rw [← Int.mul_assoc, Int.mul_comm y1 q]
    omega
  refine ⟨y0, by rw [hz]; exact Int.emod_nonneg _ (by omega), ly, ?_, ?_, by omega, by rw [e1, Int.neg_mul_neg]; exact ds, by rw [e2, Int.neg_mul_neg]; exact dt, ?_, by rw [Int.neg_mul]; show -(e * y2) ≤ 0; omega, ?_, by rw [Int.neg_mul]; show 0 ≤ -(e * y3); omega⟩
  · simp only [Int.sub_mul, Int.mul_assoc]
    rw [lx, ly, Int.mul_add]
    omega
  · rw [← g]
    show Int.gcd y1 (x1 - q * y1) = Int.gcd x1 y1
    rw [Int.sub_eq_add_neg, ← Int.neg_mul, Int.gcd_add_mul_right_right, Int.gcd_comm]
  · rw [Int.neg_mul, Int.mul_sub]
    have h1 : 0 ≤ q * (e * y2) := mul_nn hq sy
    have h2 : e * (q * y2) = q * (e * y2) := by rw [← Int.mul_assoc, Int.mul_comm e q, Int.mul_assoc]
    omega
  · rw [Int.neg_mul, Int.mul_sub]
    have h1 : 0 ≤ q * -(e * y3) := mul_nn hq (by omega)
    have h2 : e * (q * y3) = q * (e * y3) := by rw [← Int.mul_assoc, Int.mul_comm e q, Int.mul_assoc]
    rw [Int.mul_neg] at h1
    omega
/-- coefficients are small -/
theorem EuS.small {a b e : Int} {x y : Tri} (h : EuS a b e x y) (hx : 0 < x.1) : (y.2.1.natAbs : Int) ≤ b ∧ (y.2.2.natAbs : Int) ≤ a := by
  obtain ⟨x0, y0, lx, ly, g, ee, ds, dt, sy, sx, ty, tx⟩ := h
  have p1 : 0 ≤ y.1 * -(e * x.2.1) := mul_nn y0 (by omega)
  have p2 : 0 ≤ y.1 * (e * x.2.2) := mul_nn y0 tx
  have q1 : e * y.2.1 ≤ x.1 * (e * y.2.1) := by
    have := Int.mul_le_mul_of_nonneg_right (show (1 : Int) ≤ x.1 by omega) sy
    omega
  have q2 : -(e * y.2.2) ≤ x.1 * -(e * y.2.2) := by
    have := Int.mul_le_mul_of_nonneg_right (show (1 : Int) ≤ x.1 by omega) (show 0 ≤ -(e * y.2.2) by omega)
    omega
  have d1 : x.1 * (e * y.2.1) + y.1 * -(e * x.2.1) = b := by
    rw [← ds, Int.mul_sub, Int.mul_neg, ← Int.mul_assoc, ← Int.mul_assoc, ← Int.mul_assoc, ← Int.mul_assoc, Int.mul_comm x.1 e, Int.mul_comm y.1 e]
    omega
  have d2 : x.1 * -(e * y.2.2) + y.1 * (e * x.2.2) = a := by
    have : a = -(e * (x.1 * y.2.2 - y.1 * x.2.2)) := by omega
    rw [this, Int.mul_sub, Int.mul_neg, ← Int.mul_assoc, ← Int.mul_assoc, ← Int.mul_assoc, ← Int.mul_assoc, Int.mul_comm x.1 e, Int.mul_comm y.1 e]
    omega
  have u1 : e * y.2.1 = y.2.1.natAbs := by rcases ee with rfl | rfl <;> omega
  have u2 : -(e * y.2.2) = y.2.2.natAbs := by rcases ee with rfl | rfl <;> omega
  constructor <;> omega
/-- how many there may be -/
def EuL (a b : Int) (x y : Tri) (n : Nat) : Prop := n = 2 ∧ x.1 = a ∧ y.1 = b ∨ y.1 < x.1 ∧ 2 ^ n * (x.1 * y.1) ≤ 16 * (a * b)
theorem EuL.step {a b : Int} {x y : Tri} {n : Nat} (h : EuL a b x y n) (hx : 0 ≤ x.1) (hy : 0 < y.1) : EuL a b y (nxt x y) (n + 1) := by
  have hz : (nxt x y).1 = x.1 % y.1 := nxt_mod x y
  have z0 := Int.emod_nonneg x.1 (show y.1 ≠ 0 by omega)
  have z1 := Int.emod_lt_of_pos x.1 hy
  refine .inr ⟨by rw [hz]; exact z1, ?_⟩
  rw [hz]
  rcases h with ⟨rfl, rfl, rfl⟩ | ⟨h1, h2⟩
  · have zx : x.1 % y.1 ≤ x.1 := by
      have e1 := Int.mul_ediv_add_emod x.1 y.1
      have := mul_nn (show 0 ≤ y.1 by omega) (Int.ediv_nonneg hx (show 0 ≤ y.1 by omega))
      omega
    have := Int.mul_le_mul_of_nonneg_left zx (show 0 ≤ y.1 by omega)
    rw [Int.mul_comm y.1 x.1] at this
    have p : 0 ≤ x.1 * y.1 := mul_nn hx (by omega)
    have e : (2 : Int) ^ (2 + 1) = 8 := by decide
    rw [e]
    omega
  · have e1 := Int.mul_ediv_add_emod x.1 y.1
    have q1 : 1 ≤ x.1 / y.1 := Int.le_ediv_of_mul_le hy (by omega)
    have q2 : y.1 ≤ y.1 * (x.1 / y.1) := by
      have := Int.mul_le_mul_of_nonneg_left q1 (show 0 ≤ y.1 by omega)
      omega
    have zz : 2 * (x.1 % y.1) ≤ x.1 := by omega
    have h3 := Int.mul_le_mul_of_nonneg_right zz (show 0 ≤ y.1 by omega)
    have h4 := Int.mul_le_mul_of_nonneg_left h3 (show (0 : Int) ≤ 2 ^ n from Int.le_of_lt (Int.pow_pos (by decide)))
    have e3 : (2 : Int) ^ (n + 1) * (y.1 * (x.1 % y.1)) = 2 ^ n * (2 * (x.1 % y.1) * y.1) := by
      rw [Int.pow_succ, Int.mul_assoc, Int.mul_assoc, Int.mul_comm y.1]
    rw [e3]
    exact Int.le_trans h4 h2
theorem EuL.len {a b : Int} {x y : Tri} {n : Nat} (h : EuL a b x y n) (ha : 0 ≤ a) (hb : 0 ≤ b) (a1 : a < 2 ^ 7000) (b1 : b < 2 ^ 7000) (hy : 0 < y.1) : n < 14010 := by
  rcases h with ⟨rfl, _⟩ | ⟨h1, h2⟩
  · decide
  · have p : 1 ≤ x.1 * y.1 := Int.mul_pos (by omega) hy
    have h3 := Int.mul_le_mul_of_nonneg_left p (show (0 : Int) ≤ 2 ^ n from Int.le_of_lt (Int.pow_pos (by decide)))
    have h4 := lt_abs (abs_mul (abs_lt ha a1) (abs_lt hb b1))
    have h5 : 16 * (a * b) < 2 ^ 14010 := by
      have e : (2 : Int) ^ 14010 = 1024 * 2 ^ (7000 + 7000) := by
        rw [show 14010 = 10 + (7000 + 7000) from rfl, Int.pow_add]
        rfl
      rw [e]
      have : (0 : Int) < 2 ^ (7000 + 7000) := Int.pow_pos (by decide)
      omega
    have h6 : (2 : Int) ^ n < 2 ^ 14010 := by omega
    rcases Nat.lt_or_ge n 14010 with h | h
    · exact h
    · exact absurd (two_le h) (by omega)
def EuR (a b : Int) (rows : List Tri) : Prop := ∃ (pre : List Tri) (l e : Tri), rows = pre ++ [l] ++ [e] ∧ 0 < l.1 ∧ e.1 = 0 ∧ l.1 = Int.gcd a b ∧ l.1 = l.2.1 * a + l.2.2 * b ∧ (l.2.1.natAbs : Int) ≤ b + 1 ∧ rows.length ≤ 14020
theorem cut_two {xs : List D} {u v : D} : cutG (xs ++ [u] ++ [v]) (some (-2)) none = [u, v] := by
  have hl : (xs ++ [u] ++ [v]).length = xs.length + 2 := by simp
  have e1 : HT.sIx (xs.length + 2) 0 (some (-2)) = xs.length := by
    show (if (-2 : Int) < 0 then ((-2 : Int) + ((xs.length + 2 : Nat) : Int)).toNat else min (-2 : Int).toNat (xs.length + 2)) = xs.length
    rw [if_pos (by decide)]
    omega
  unfold cutG
  rw [hl, e1, HT.sIx_none, List.append_assoc, List.drop_left]
  show List.take (xs.length + 2 - xs.length) [u, v] = [u, v]
  rw [show xs.length + 2 - xs.length = 2 by omega]
  rfl
def b_rows_of : ZTS :=
  (sseq (sset (zlst (acons (ztup (acons (zv 0) (acons (zc (.int 1)) (acons (zc (.int 0)) anil)))) (acons (ztup (acons (zv 1) (acons (zc (.int 0)) (acons (zc (.int 1)) anil)))) anil))) 2)
    (sseq (swhile (tvl (zop oGt (zop oIx (zop oIx (zv 2) (zun oNeg (zc (.int 1)))) (zc (.int 0))) (zc (.int 0)))) (sseq (sasg (zsl (zv 2) (osome (zun oNeg (zc (.int 2)))) onone) (gtupA 2 (gcons (gn 3) (gcons (gn 4) gnil))))
    (sseq (sset (zop oFdv (zop oIx (zv 3) (zc (.int 0))) (zop oIx (zv 4) (zc (.int 0)))) 5)
    (sexp (zapp (zv 2) (acons (zbl (acons (zlc (izip (acons (zv 3) (acons (zv 4) anil))) (gtup 2 (gcons (gn 6) (gcons (gn 7) gnil))) tyes (zop oSub (zv 6) (zop oMul (zv 5) (zv 7))) [6, 7]) anil) cTuple) anil))))))
    (sret (zseal (zv 2)))))
def c_rows_of : ZSp := fun ds m Q _ => ∃ a b : Int, ds = [.int a, .int b] ∧ 0 ≤ a ∧ a < 2 ^ 7000 ∧ 0 ≤ b ∧ b < 2 ^ 7000 ∧ (0 < a ∨ 0 < b) ∧ ∀ rows, EuR a b rows → Q (.fl (rows.map tri)) m
theorem w_rows_of (ds : List D) (m : Mu) (Q : QE) (E : QX) (h : c_rows_of ds m Q E) : ds.length = 2 ∧ b_rows_of ⟨fun _ m => Q .non m, Q, fun x _ m => E x m⟩ (ds.map some ++ List.replicate (8 - ds.length) none) m := by
  obtain ⟨a, b, rfl, a0, a1, b0, b1, ab, h⟩ := h
  refine ⟨rfl, ?_⟩
  unfold b_rows_of
  walk_at "zs"
  refine fun p np => ?_
  refine while_i (fun k ρ m' => ∃ (pre : List Tri) (x y : Tri) (e : Int) (y3 y4 y5 y6 y7 : Option D), k = y.1.toNat ∧ EuS a b e x y ∧ EuL a b x y (pre.length + 2) ∧ (x.2.1.natAbs : Int) ≤ b + 1 ∧ (x.2.2.natAbs : Int) ≤ a + 1 ∧ (y.2.1.natAbs : Int) ≤ b + 1 ∧ (y.2.2.natAbs : Int) ≤ a + 1 ∧ pre.length ≤ 14010 ∧ x.1 < 2 ^ 7000 ∧ y.1 < 2 ^ 7000 ∧
      ρ = [some (.int a), some (.int b), some (.ref p), y3, y4, y5, y6, y7] ∧ m' = updM m p (.lst ((pre ++ [x] ++ [y]).map tri))) b.toNat ⟨[], (a, 1, 0), (b, 0, 1), -1, none, none, none, none, none, rfl, EuS.init a0 b0, .inl ⟨rfl, rfl, rfl⟩, by simp; omega, by simp; omega, by simp; omega, by simp; omega, by simp, a1, b1, rfl, rfl⟩ ?_
  rintro k ρ m' ⟨pre, x, y, e, y3, y4, y5, y6, y7, rfl, hs, hl, bx, bx2, by1, by2, hp, hx7, hy7, rfl, rfl⟩
  have eL : (pre ++ [x] ++ [y]).map tri = (pre ++ [x]).map tri ++ [tri y] := by rw [List.map_append]; rfl
  walk_at "zs"
  rw [eL, atI_last, show tri y = .tup [.int y.1, .int y.2.1, .int y.2.2] from rfl]
  walk_at "zs"
  by_cases hy : 0 < y.1
  · rw [if_pos hy]
    rw [show (pre ++ [x]).map tri = pre.map tri ++ [tri x] by rw [List.map_append]; rfl]
    rw [cut_two]
    walk_at "zs"
    rw [show tri x = .tup [.int x.1, .int x.2.1, .int x.2.2] from rfl]
    walk_at "zs"
    have y8 : y.1 < 2 ^ 8000 := Int.lt_of_lt_of_le hy7 (two_le (by decide))
    refine ⟨small_fdv hy y8, ⟨_, rfl⟩, ?_⟩
    rw [comp_e]
    walk_at "zs"
    have q0 : 0 ≤ x.1 / y.1 := Int.ediv_nonneg hs.x0 hs.y0
    have q1 : x.1 / y.1 ≤ x.1 := Int.ediv_le_self _ hs.x0
    have qs : (x.1 / y.1).natAbs < 2 ^ 7000 := abs_lt q0 (by omega)
    have a8 : a + 1 < 2 ^ 7001 := by
      have : (2 : Int) ^ 7001 = 2 ^ 7000 * 2 := Int.pow_succ 2 7000
      omega
    have b8 : b + 1 < 2 ^ 7001 := by
      have : (2 : Int) ^ 7001 = 2 ^ 7000 * 2 := Int.pow_succ 2 7000
      omega
    have m1 : CMulW (x.1 / y.1) y.1 := mul_ok qs (abs_lt hs.y0 hy7) (by decide)
    have m2 : CMulW (x.1 / y.1) y.2.1 := mul_ok qs (b := 7001) (by rw [← PySem.W.kbt_cast] at b8; omega) (by decide)
    have m3 : CMulW (x.1 / y.1) y.2.2 := mul_ok qs (b := 7001) (by rw [← PySem.W.kbt_cast] at a8; omega) (by decide)
    refine comp_map (fun i => match i with | 0 => D.int (x.1 - x.1 / y.1 * y.1) | 1 => .int (x.2.1 - x.1 / y.1 * y.2.1) | _ => .int (x.2.2 - x.1 / y.1 * y.2.2)) (by show (3 : Nat) ≤ sizeLine; rw [sizeLine_eq]; decide) trivial (fun i hi K1 K2 hK => ?_) ?_
    · have hi' : i < 3 := hi
      have cs : i = 0 ∨ i = 1 ∨ i = 2 := by omega
      rcases cs with rfl | rfl | rfl
      · walk_at "zs"
        exact ⟨m1, hK⟩
      · walk_at "zs"
        exact ⟨m2, hK⟩
      · walk_at "zs"
        exact ⟨m3, hK⟩
    · show cTuple [.fl [.int (nxt x y).1, .int (nxt x y).2.1, .int (nxt x y).2.2]] _ _
      walk_at "zs"
      have st := hs.step hy
      have z1 : (nxt x y).1 < y.1 := by rw [nxt_mod]; exact Int.emod_lt_of_pos _ hy
      have sm := st.small hy
      have ln := hl.len a0 b0 a1 b1 hy
      refine ⟨by simp [sizeLine_eq]; omega, (nxt x y).1.toNat, by have := st.y0; omega, pre ++ [x], y, nxt x y, -e, _, _, _, _, _, rfl, st, ?_, by1, by2, by omega, by omega, ?_, hy7, by omega, rfl, ?_⟩
      · rw [List.length_append]
        exact hl.step hs.x0 hy
      · rw [List.length_append]
        show pre.length + 1 ≤ 14010
        omega
      · rw [List.map_append, List.map_append, List.map_append]
        rfl
  · rw [if_neg hy]
    have hy' : y.1 = 0 := by have := hs.y0; omega
    have hg := hs.g
    rw [hy', Int.gcd_zero_right] at hg
    have x0 := hs.x0
    have gp : 0 < Int.gcd a b := Int.gcd_pos_iff.mpr (by omega)
    have := h (pre ++ [x] ++ [y]) ⟨pre, x, y, rfl, by omega, hy', by omega, hs.lx, bx, by simp; omega⟩
    rw [eL] at this
    rw [dropM_updM np]
    exact this
def b_last_row : ZTS :=
  (sret (zop oIx (zlc (iseq (zcall c_rows_of (acons (zv 0) (acons (zv 1) anil)))) (gn 2) (tvl (zop oGt (zop oIx (zv 2) (zc (.int 0))) (zc (.int 0)))) (zv 2) [2]) (zun oNeg (zc (.int 1)))))
def c_last_row : ZSp := fun ds m Q _ => ∃ a b : Int, ds = [.int a, .int b] ∧ 0 ≤ a ∧ a < 2 ^ 7000 ∧ 0 ≤ b ∧ b < 2 ^ 7000 ∧ (0 < a ∨ 0 < b) ∧ ∀ l : Tri, 0 < l.1 → l.1 = Int.gcd a b → l.1 = l.2.1 * a + l.2.2 * b → (l.2.1.natAbs : Int) ≤ b + 1 → Q (tri l) m
theorem getD_tri {xs : List Tri} {i : Nat} (h : i < xs.length) : (xs.map tri).getD i .non = .tup [.int (xs.getD i (0, 0, 0)).1, .int (xs.getD i (0, 0, 0)).2.1, .int (xs.getD i (0, 0, 0)).2.2] := by
  simp [List.getD_eq_getElem?_getD, h, tri]
theorem w_last_row (ds : List D) (m : Mu) (Q : QE) (E : QX) (h : c_last_row ds m Q E) : ds.length = 2 ∧ b_last_row ⟨fun _ m => Q .non m, Q, fun x _ m => E x m⟩ (ds.map some ++ List.replicate (3 - ds.length) none) m := by
  obtain ⟨a, b, rfl, a0, a1, b0, b1, ab, h⟩ := h
  refine ⟨rfl, ?_⟩
  unfold b_last_row
  walk_at "zs"
  rw [comp_e]
  walk_at "zs"
  refine ⟨a, b, rfl, a0, a1, b0, b1, ab, fun rows hr => ?_⟩
  obtain ⟨pre, l, e, hrw, l0, e0, lg, lc, ls, hl⟩ := hr
  walk_at "zs"
  have el : rows.length = pre.length + 2 := by rw [hrw]; simp
  refine comp_filter (fun i => tri (rows.getD i (0, 0, 0))) (fun i => decide (0 < (rows.getD i (0, 0, 0)).1)) (by show (rows.map tri).length ≤ _; rw [List.length_map, sizeLine_eq]; omega) trivial (fun i hi K1 K2 k1 k2 => ?_) ?_
  · have hi' : i < rows.length := by
      have h3 : i < (rows.map tri).length := hi
      rwa [List.length_map] at h3
    show gn 2 ((rows.map tri).getD i .non) _ _ _ _
    rw [getD_tri hi']
    walk_at "zs"
    by_cases hp : 0 < (rows.getD i (0, 0, 0)).1
    · rw [if_pos hp]
      exact k1 (decide_eq_true hp)
    · rw [if_neg hp]
      exact k2 (decide_eq_false hp)
  · have e1 : (rows.map tri).length = pre.length + 1 + 1 := by rw [List.length_map, el]
    have g1 : rows.getD pre.length (0, 0, 0) = l := by rw [hrw]; simp
    have g2 : rows.getD (pre.length + 1) (0, 0, 0) = e := by rw [hrw]; simp [List.getElem?_append_right]
    show oIx (.fl (((List.range (rows.map tri).length).filter _).map _)) _ _ _
    rw [e1, List.range_succ, List.range_succ, List.filter_append, List.filter_append]
    rw [show List.filter (fun i => decide (0 < (rows.getD i (0, 0, 0)).1)) [pre.length] = [pre.length] by rw [List.filter_cons_of_pos (by rw [g1]; exact decide_eq_true l0)]; rfl]
    rw [show List.filter (fun i => decide (0 < (rows.getD i (0, 0, 0)).1)) [pre.length + 1] = [] by rw [List.filter_cons_of_neg (by rw [g2, e0]; decide)]; rfl]
    rw [List.append_nil, List.map_append, show List.map (fun i => tri (rows.getD i (0, 0, 0))) [pre.length] = [tri l] by rw [List.map_cons, g1]; rfl]
    walk_at "zs"
    rw [atI_last]
    exact h l l0 lg lc ls
def b_gcd_of : ZTS :=
  (sret (zop oIx (zcall c_last_row (acons (zv 0) (acons (zv 1) anil))) (zc (.int 0))))
def c_gcd_of : ZSp := fun ds m Q _ => ∃ a b : Int, ds = [.int a, .int b] ∧ 0 ≤ a ∧ a < 2 ^ 7000 ∧ 0 ≤ b ∧ b < 2 ^ 7000 ∧ (0 < a ∨ 0 < b) ∧ Q (.int (Int.gcd a b)) m
theorem w_gcd_of (ds : List D) (m : Mu) (Q : QE) (E : QX) (h : c_gcd_of ds m Q E) : ds.length = 2 ∧ b_gcd_of ⟨fun _ m => Q .non m, Q, fun x _ m => E x m⟩ (ds.map some ++ List.replicate (2 - ds.length) none) m := by
  obtain ⟨a, b, rfl, a0, a1, b0, b1, ab, h⟩ := h
  refine ⟨rfl, ?_⟩
  unfold b_gcd_of
  walk_at "zs"
  refine ⟨a, b, rfl, a0, a1, b0, b1, ab, fun l l0 lg lc ls => ?_⟩
  rw [show tri l = .tup [.int l.1, .int l.2.1, .int l.2.2] from rfl]
  walk_at "zs"
  rw [lg]
  exact h
def b_inverse_by : ZTS :=
  (sseq (sasg (zcall c_rows_of (acons (zop oMod (zv 0) (zv 1)) (acons (zv 1) anil))) (gstar 3 0 (gcons (gn 2) (gcons (gn 3) (gcons (gn 4) gnil)))))
    (sret (zop oMod (zop oIx (zv 3) (zc (.int 1))) (zv 1))))
def c_inverse_by : ZSp := fun ds m Q _ => ∃ n M : Int, ds = [.int n, .int M] ∧ 0 < M ∧ M < 2 ^ 7000 ∧ ∀ s, 0 ≤ s → s < M → (s * n) % M = Int.gcd n M % M → Q (.int s) m
theorem inv_fact {n M s t : Int} (hM : 0 < M) (h : (Int.gcd (n % M) M : Int) = s * (n % M) + t * M) : (s % M * n) % M = Int.gcd n M % M := by
  have g : Int.gcd (n % M) M = Int.gcd n M := by
    have e := Int.mul_ediv_add_emod n M
    have e2 : n % M = n + -(n / M) * M := by rw [Int.neg_mul, Int.mul_comm (n / M) M]; omega
    rw [Int.gcd_comm, e2, Int.gcd_add_mul_right_right, Int.gcd_comm]
  rw [g] at h
  rw [h, Int.add_mul_emod_self_right, Int.mul_emod s, Int.emod_emod_of_dvd _ (Int.dvd_refl M), Int.mul_emod (s % M), Int.emod_emod_of_dvd _ (Int.dvd_refl M)]
theorem w_inverse_by (ds : List D) (m : Mu) (Q : QE) (E : QX) (h : c_inverse_by ds m Q E) : ds.length = 2 ∧ b_inverse_by ⟨fun _ m => Q .non m, Q, fun x _ m => E x m⟩ (ds.map some ++ List.replicate (5 - ds.length) none) m := by
  obtain ⟨n, M, rfl, M0, M1, h⟩ := h
  refine ⟨rfl, ?_⟩
  unfold b_inverse_by
  walk_at "zs"
  have n0 := Int.emod_nonneg n (show M ≠ 0 by omega)
  have n1 := Int.emod_lt_of_pos n M0
  refine ⟨M0, n % M, M, rfl, n0, by omega, by omega, M1, .inr M0, fun rows hr => ?_⟩
  obtain ⟨pre, l, e, rfl, l0, e0, lg, lc, ls, hl⟩ := hr
  walk_at "zs"
  rw [lg] at lc
  have hf := inv_fact M0 lc
  have el : ((pre ++ [l] ++ [e]).map tri).length = pre.length + 2 := by simp
  have ed : ((pre ++ [l] ++ [e]).map tri).drop pre.length = [tri l, tri e] := by
    rw [List.append_assoc, List.map_append]
    rw [show pre.length = (pre.map tri).length by rw [List.length_map], List.drop_left]
    rfl
  have hl' : pre.length + 2 ≤ 14020 := by
    have : (pre ++ [l] ++ [e]).length = pre.length + 2 := by simp
    omega
  rw [el, show pre.length + 2 + 1 - 3 = pre.length by omega, ed]
  refine ⟨by decide, by omega, by omega, ?_⟩
  rw [show tri l = .tup [.int l.1, .int l.2.1, .int l.2.2] from rfl]
  walk_at "zs"
  exact ⟨M0, h _ (Int.emod_nonneg _ (by omega)) (Int.emod_lt_of_pos _ M0) hf⟩
end Zed
end
section
set_option maxHeartbeats 4000000
/-! ZLib2: what the laws draw. -/
namespace Zed
open PySem PySem.Spec PyProof.Rows L2
local macro_rules | `(tactic| walk_at "zs") => `(tactic| simp only [zv, zc, zop, zun, anil, acons, ztup, zfl, zlst, zbl, zcall, zcallK, tvl, ttr, tand, tor, tnot, zand, zor, zorT, znot, zif, zchn, zsl, onone, osome, zrev, zrevA, zisi, gn, gnil, gcons, gtup, gsub, snil, sseq, sexp, sret, sretN, sif, sasg, sset, spar, spar3, saug, wkL, zapp, zpop, zseal, xat, snever, tyes, ilist, itup, istr, irng1, irng2, irng3, ienum, ienumT, izip, irev, wipeZ, zev, oAddL, isNon, at2_if, iseq, ienumT, gstar, gtupA, saugS, oGetL, sl_0, sl_1, sl_2, sl_3, sl_4, sl_5, sl_6, sl_7, sl_8, at1_0, at2_0, at2_1, at3_0, at3_1, at3_2, at4_0, at4_1, at4_2, at4_3, at5_0, at5_1, at5_2, at5_3, at5_4, at6_0, at6_1, at6_2, at6_3, at6_4, at6_5, at7_0, at7_1, at7_2, at7_3, at7_4, at7_5, at7_6, at8_0, at8_1, at8_2, at8_3, at8_4, at8_5, at8_6, at8_7, ixn2_0, ixn2_1, ixn3_0, ixn3_1, ixn3_2, cp_2, vp_2, cp_3, vp_3, cp_6, vp_6, cp_7, vp_7, cp_18, vp_18, cp_60, vp_60, q_truD_1, q_truD_2, q_truD_3, q_truD_4, q_truD_5, q_truD_6, q_oAdd_1, q_oAdd_2, q_oAdd_3, q_oAdd_4, q_oInt_1, q_oSub_1, q_oLt_1, q_oEq_1, q_oNe_1, q_oNe_2, q_oEq_2, q_oIs_1, q_oIs_2, q_oIsNot_1, q_oIsNot_2, q_oNeg_1, q_cAbs_1, q_cMax_1, q_cMin_1, q_cInt_1, q_cInt_2, q_cDivmod_1, q_lenD_1, q_lenD_2, q_lenD_3, q_cLen_1, q_cTuple_1, q_cTuple_2, q_cTuple_3, q_cListF_1, q_cListF_2, q_cListF_3, q_cList_1, q_cList_2, q_seqD_1, q_seqD_2, q_lenD_4, q_oIx_1, q_oIx_2, q_oIx_4, q_oSl_1, q_oSl_2, q_oSl_3, q_oSl_4, q_tyD_1, q_tyD_2, q_tyD_3, q_tyD_4, q_tyD_5, q_tyD_6, q_cIsi_1, q_oSet_1, q_oIAdd_1, q_oIAdd_2, List.getD_cons_zero, List.getD_cons_succ, List.take_zero, List.drop_zero, updM_same, updM_upd, dropM_updM, isi_ii, isi_bi, isi_ib, isi_bb, isi_tt, List.map_cons, List.map_nil, List.replicate_succ, List.replicate_zero, List.cons_append, List.nil_append, List.append_nil, List.set_cons_zero, List.set_cons_succ, List.getElem?_cons_zero, List.getElem?_cons_succ, List.length_cons, List.length_nil, Bool.false_eq_true, if_true, if_false, Bool.not_true, Bool.not_false, Bool.not_eq_true, Bool.not_eq_false', decide_eq_true_eq, true_and, and_true, exists_eq_left', Nat.reduceAdd, Nat.reduceSub, reduceCtorEq, decide_true, decide_false, Bool.true_eq_false, ite_true, ite_false])
/-- the list that a law draws of, at p, not more than K times drawn -/
def Pool (m : Mu) (p : Addr) (K : Nat) : Prop := ∃ (s d : Int) (k : Nat), m p = some (.lst [.int s, .int d, .int (k : Int)]) ∧ 0 ≤ s ∧ s < 2147483563 ∧ 0 ≤ d ∧ k ≤ K
/-- behind some draws -/
def PM (m : Mu) (p : Addr) (K : Nat) (m' : Mu) : Prop := ∃ (s d : Int) (k : Nat), m' = updM m p (.lst [.int s, .int d, .int (k : Int)]) ∧ 0 ≤ s ∧ s < 2147483563 ∧ 0 ≤ d ∧ k ≤ K
theorem PM.pool {m m' : Mu} {p : Addr} {K : Nat} (h : PM m p K m') : Pool m' p K := by
  obtain ⟨s, d, k, rfl, h1⟩ := h
  exact ⟨s, d, k, updM_same, h1⟩
theorem PM.trans {m m1 m2 : Mu} {p : Addr} {K L : Nat} (h : PM m p K m1) (g : PM m1 p L m2) : PM m p L m2 := by
  obtain ⟨s, d, k, rfl, h1⟩ := h
  obtain ⟨s, d, k, rfl, h2⟩ := g
  exact ⟨s, d, k, updM_upd, h2⟩
theorem PM.more {m m1 : Mu} {p : Addr} {K L : Nat} (h : PM m p K m1) (g : K ≤ L) : PM m p L m1 := by
  obtain ⟨s, d, k, rfl, h1, h2, h3, h4⟩ := h
  exact ⟨s, d, k, rfl, h1, h2, h3, Nat.le_trans h4 g⟩
theorem Pool.more {m : Mu} {p : Addr} {K L : Nat} (h : Pool m p K) (g : K ≤ L) : Pool m p L := by
  obtain ⟨s, d, k, h0, h1, h2, h3, h4⟩ := h
  exact ⟨s, d, k, h0, h1, h2, h3, Nat.le_trans h4 g⟩
theorem Pool.self {m : Mu} {p : Addr} {K : Nat} (h : Pool m p K) : PM m p K m := by
  obtain ⟨s, d, k, h0, h1⟩ := h
  refine ⟨s, d, k, ?_, h1⟩
  funext b
  unfold updM
  by_cases hb : b = p
  · rw [if_pos hb, hb, h0]
  · rw [if_neg hb]
theorem million_le {b : Int} (h : b ≤ 1000000) : b < 2 ^ 8000 := lt_two (j := 20) (by
  have : (2 : Int) ^ 20 = 1048576 := by decide
  omega) (by decide)
theorem Pool.ext {m m' : Mu} {p : Addr} {K : Nat} (h : Pool m p K) (g : Ext m m') : Pool m' p K := by
  obtain ⟨s, d, k, h, r⟩ := h
  exact ⟨s, d, k, by rw [g p (by rw [h]; exact fun e => by cases e), h], r⟩
theorem b_pow {b : Int} (h0 : 0 ≤ b) (h : b ≤ 1000000) (k : Nat) : (b ^ k).natAbs < 2 ^ (20 * k + 1) := by
  have h := abs_pow (i := b) (a := 20) k (by
    have : (2 : Nat) ^ 20 = 1048576 := by decide
    omega)
  exact Nat.lt_of_le_of_lt h (Nat.pow_lt_pow_right (by decide) (Nat.lt_succ_self _))
def b_cell : ZTS :=
  (sseq (sif (tvl (zop oLt (zv 1) (zbl (acons (zv 0) anil) cLen))) (sret (zop oIx (zv 0) (zv 1))) snil)
    (sseq (sset (zop oMod (zop oMul (zc (.int 30011)) (zop oAdd (zop oAdd (zop oMul (zv 1) (zv 1)) (zop oMul (zc (.int 13)) (zv 1))) (zc (.int 7)))) (zc (.int 2147483563))) 2)
    (sseq (sfor (iseq (zsl (zv 0) onone (osome (zc (.int 3))))) (gn 3) (sset (zop oMod (zop oAdd (zop oMul (zv 2) (zc (.int 47017))) (zv 3)) (zc (.int 2147483563))) 2))
    (sret (zv 2)))))
def c_cell : ZSp := fun ds m Q _ => ∃ (ns : List Int) (k : Nat), ds = [.fl (ns.map .int), .int (k : Int)] ∧ k ≤ 1000 ∧ ns.length ≤ 63 ∧ ∀ i : Int, Q (.int i) m
theorem w_cell (ds : List D) (m : Mu) (Q : QE) (E : QX) (h : c_cell ds m Q E) : ds.length = 2 ∧ b_cell ⟨fun _ m => Q .non m, Q, fun x _ m => E x m⟩ (ds.map some ++ List.replicate (4 - ds.length) none) m := by
  obtain ⟨ns, k, rfl, hk, hn, h⟩ := h
  refine ⟨rfl, ?_⟩
  unfold b_cell
  walk_at "zs"
  by_cases hl : k < ns.length
  · have hl' : ((k : Nat) : Int) < (((ns.map D.int).length : Nat) : Int) := by rw [List.length_map]; omega
    have hx : (ns.map D.int)[k]? = some (.int ns[k]) := by rw [List.getElem?_map, List.getElem?_eq_getElem hl]; rfl
    simp only [hl', decide_true, if_true, atI_nat hx]
    exact h _
  · have hl' : ¬ ((k : Nat) : Int) < (((ns.map D.int).length : Nat) : Int) := by rw [List.length_map]; omega
    simp only [hl', decide_false, Bool.false_eq_true, if_false]
    refine ⟨mul_ok (a := 10) (b := 10) (by omega) (by omega) (by decide), mul_ok (a := 4) (b := 10) (by omega) (by omega) (by decide), mul_ok (a := 15) (b := 40) (by decide) ?_ (by decide), by decide, for_i ?_⟩
    · have hkk : (k : Int) * k ≤ 1000 * 1000 := Int.mul_le_mul (by omega) (by omega) (by omega) (by omega)
      have hk0 : (0 : Int) ≤ (k : Int) * k := Int.mul_nonneg (by omega) (by omega)
      generalize (k : Int) * k = z at hkk hk0
      have : (2 : Nat) ^ 40 = 1099511627776 := by decide
      omega
    walk_at "zs"
    obtain ⟨I, hI⟩ : ∃ I : Nat → ZEnv → Mu → Prop, I = fun i ρ m' => ∃ (s : Int) (y : Option D), 0 ≤ s ∧ s < 2147483563 ∧ ρ = [some (.fl (ns.map .int)), some (.int (k : Int)), some (.int s), y] ∧ m' = m := ⟨_, rfl⟩
    refine loop_i I (by rw [hI]; exact ⟨_, _, Int.emod_nonneg _ (by decide), Int.emod_lt_of_pos _ (by decide), rfl, rfl⟩) fun i ρ m' hi => ?_
    rw [hI] at hi
    obtain ⟨s, y, h0, h1, rfl, rfl⟩ := hi
    refine ⟨trivial, fun hlt => ?_, fun e => ?_⟩
    · have hc : cutG (ns.map D.int) none (some 3) = (cutG ns none (some 3)).map D.int := by
        unfold cutG
        rw [List.length_map, List.map_take, List.map_drop]
      have hlt' : i < (cutG ns none (some 3)).length := by
        have hlt2 : i < (cutG (ns.map D.int) none (some 3)).length := hlt
        rwa [hc, List.length_map] at hlt2
      show gn 3 ((cutG (ns.map D.int) none (some 3)).getD i .non) _ _ _ _
      rw [hc, getD_ints, if_pos hlt']
      walk_at "zs"
      rw [hI]
      exact ⟨mul_ok (a := 31) (b := 16) (by omega) (by decide) (by decide), by decide, _, _, Int.emod_nonneg _ (by decide), Int.emod_lt_of_pos _ (by decide), rfl, rfl⟩
    · walk_at "zs"
      exact h _
def b_pool : ZTS :=
  (sseq (sset (zc (.int 0)) 1)
    (sseq (sif (tor (tvl (zop oLt (zv 0) (zc (.int 0)))) (tvl (zop oGe (zv 0) (zop oPow (zc (.int 10)) (zc (.int 18)))))) (sset (zbl (acons (zv 0) anil) cAbs) 1) snil)
    (sret (zlst (acons (zop oMod (zv 0) (zc (.int 2147483563))) (acons (zv 1) (acons (zc (.int 0)) anil)))))))
def c_pool : ZSp := fun ds m Q _ => ∃ i : Int, ds = [.int i] ∧ ∀ p, m p = none → ∀ m', Pool m' p 0 → (∀ b, b ≠ p → m' b = m b) → Q (.ref p) m'
theorem w_pool (ds : List D) (m : Mu) (Q : QE) (E : QX) (h : c_pool ds m Q E) : ds.length = 1 ∧ b_pool ⟨fun _ m => Q .non m, Q, fun x _ m => E x m⟩ (ds.map some ++ List.replicate (2 - ds.length) none) m := by
  obtain ⟨i, rfl, h⟩ := h
  refine ⟨rfl, ?_⟩
  have fin : ∀ (d : Int) (p : Addr), 0 ≤ d → m p = none → Q (.ref p) (updM m p (.lst [.int (i % 2147483563), .int d, .int 0])) := fun d p hd np =>
    h p np _ ⟨_, d, 0, updM_same, Int.emod_nonneg _ (by decide), Int.emod_lt_of_pos _ (by decide), hd, Nat.le_refl _⟩ fun b hb => updM_ne hb
  have hs : (3 : Nat) ≤ sizeLine := by decide
  unfold b_pool
  walk_at "zs"
  by_cases h0 : i < 0
  · simp only [h0, decide_true, if_true]
    exact ⟨by decide, fun p np => fin (-i) p (by omega) np⟩
  · simp only [h0, decide_false, Bool.false_eq_true, if_false]
    by_cases h1 : (1000000000000000000 : Int) ≤ i
    · simp only [h1, decide_true, if_true]
      exact ⟨by decide, fun p np => fin i p (by omega) np⟩
    · simp only [h1, decide_false, Bool.false_eq_true, if_false]
      exact ⟨by decide, fun p np => fin 0 p (by omega) np⟩
def b_take : ZTS :=
  (sseq (sasg (zop oAdd (zop oIx (zv 0) (zc (.int 2))) (zc (.int 1))) (gsub (zv 0) (zc (.int 2))))
    (sseq (sif (tvl (zop oGt (zop oIx (zv 0) (zc (.int 1))) (zc (.int 0)))) (sseq (sasg (zbl (acons (zop oIx (zv 0) (zc (.int 1))) (acons (zv 1) anil)) cDivmod) (gtup 2 (gcons (gsub (zv 0) (zc (.int 1))) (gcons (gn 2) gnil))))
    (sret (zv 2))) snil)
    (sseq (sasg (ztup (acons (zc (.int 0)) (acons (zc (.int 1)) anil))) (gtup 2 (gcons (gn 3) (gcons (gn 4) gnil))))
    (sseq (swhile (tvl (zop oLt (zv 4) (zop oMul (zv 1) (zc (.int 1000))))) (sseq (sset (zop oMul (zop oIx (zv 0) (zc (.int 0))) (zop oAdd (zop oMod (zop oIx (zv 0) (zc (.int 0))) (zc (.int 43003))) (zc (.int 35023)))) 5)
    (sseq (sasg (zop oMod (zop oAdd (zop oAdd (zv 5) (zop oMul (zc (.int 70001)) (zop oIx (zv 0) (zc (.int 2))))) (zop oMod (zv 4) (zc (.int 1009)))) (zc (.int 2147483563))) (gsub (zv 0) (zc (.int 0))))
    (spar 3 4 (acons (zop oAdd (zop oMul (zv 3) (zop oPow (zc (.int 10)) (zc (.int 7)))) (zop oMod (zop oFdv (zop oIx (zv 0) (zc (.int 0))) (zc (.int 64))) (zop oPow (zc (.int 10)) (zc (.int 7))))) (acons (zop oMul (zv 4) (zop oPow (zc (.int 10)) (zc (.int 7)))) anil))))))
    (sret (zop oMod (zv 3) (zv 1)))))))
def c_take : ZSp := fun ds m Q _ => ∃ (p : Addr) (many : Int) (K : Nat), ds = [.ref p, .int many] ∧ Pool m p K ∧ K ≤ 1000000000 ∧ 0 < many ∧ many < 2 ^ 7000 ∧ ∀ r m', 0 ≤ r → r < many → PM m p (K + 1) m' → Q (.int r) m'
theorem w_take (ds : List D) (m : Mu) (Q : QE) (E : QX) (h : c_take ds m Q E) : ds.length = 2 ∧ b_take ⟨fun _ m => Q .non m, Q, fun x _ m => E x m⟩ (ds.map some ++ List.replicate (6 - ds.length) none) m := by
  obtain ⟨p, many, K, rfl, ⟨s, d, k, hp, s0, s1, d0, hk⟩, hK, m0, m1, h⟩ := h
  refine ⟨rfl, ?_⟩
  have m8 : many < 2 ^ 8000 := lt_two (Int.le_of_lt m1) (by decide)
  unfold b_take
  walk_at "zs"
  iterate 4 ((try simp only [hp]); (try walk_at "zs"))
  by_cases hd : 0 < d
  · simp only [hd, decide_true, if_true]
    refine ⟨small_div m0 m8, ?_⟩
    exact h _ _ (Int.emod_nonneg _ (by omega)) (Int.emod_lt_of_pos _ m0) ⟨s, d / many, k + 1, rfl, s0, s1, Int.ediv_nonneg (by omega) (by omega), by omega⟩
  · simp only [hd, decide_false, Bool.false_eq_true, if_false]
    have dz : d = 0 := by omega
    subst dz
    have hkk : (k : Int) + 1 ≤ 1000000001 := by omega
    obtain ⟨I, hI⟩ : ∃ I : Nat → ZEnv → Mu → Prop, I = fun j ρ m' => ∃ (f z t : Int) (y5 : Option D), j = (many * 1000 - z).toNat ∧ 1 ≤ z ∧ z < many * 10000000000 ∧ 0 ≤ f ∧ f < z ∧ 0 ≤ t ∧ t < 2147483563 ∧
      ρ = [some (.ref p), some (.int many), none, some (.int f), some (.int z), y5] ∧ m' = updM m p (.lst [.int t, .int 0, .int ((k : Int) + 1)]) := ⟨_, rfl⟩
    refine while_i I (many * 1000 - 1).toNat (by rw [hI]; exact ⟨0, 1, s, none, rfl, by omega, by omega, by omega, by omega, s0, s1, rfl, rfl⟩) fun j ρ m' hi => ?_
    rw [hI] at hi
    obtain ⟨f, z, t, y5, rfl, z0, z1, f0, f1, t0, t1, rfl, rfl⟩ := hi
    have hmany : many.natAbs < 2 ^ 8000 := abs_lt (by omega) m8
    walk_at "zs"
    refine ⟨mul_ok (a := 8000) (b := 10) hmany (by decide) (by decide), ?_⟩
    by_cases hz : z < many * 1000
    · simp only [hz, decide_true, if_true]
      iterate 3 (try walk_at "zs")
      have e1 := Int.emod_nonneg t (show (43003 : Int) ≠ 0 by decide)
      have e2 := Int.emod_lt_of_pos t (show (0 : Int) < 43003 by decide)
      have zs : z.natAbs < 2 ^ 9000 := by
        have h1 : (many * 10000000000).natAbs < 2 ^ (8000 + 40) := abs_mul hmany (by decide)
        have h2 : (2 : Nat) ^ (8000 + 40) ≤ 2 ^ 9000 := Nat.pow_le_pow_right (by decide) (by decide)
        omega
      have fs : f.natAbs < 2 ^ 9000 := by omega
      have g1 : ∀ x : Int, 0 ≤ x % 2147483563 ∧ x % 2147483563 < 2147483563 := fun x => ⟨Int.emod_nonneg x (by decide), Int.emod_lt_of_pos x (by decide)⟩
      refine ⟨by decide, mul_ok (a := 40) (b := 40) (by omega) (by omega) (by decide), mul_ok (a := 20) (b := 40) (by decide) (by omega) (by decide), by decide, by decide, mul_ok (a := 9000) (b := 30) fs (by decide) (by decide), small_fdv (by decide) (million_le (by decide)), by decide, mul_ok (a := 9000) (b := 30) zs (by decide) (by decide), ?_⟩
      rw [hI]
      generalize hT : (t * (t % 43003 + 35023) + 70001 * ((k : Int) + 1) + z % 1009) % 2147483563 = T
      have gT := g1 (t * (t % 43003 + 35023) + 70001 * ((k : Int) + 1) + z % 1009)
      rw [hT] at gT
      have e3 := Int.emod_nonneg (T / 64) (show (10000000 : Int) ≠ 0 by decide)
      have e4 := Int.emod_lt_of_pos (T / 64) (show (0 : Int) < 10000000 by decide)
      refine ⟨_, ?_, f * 10000000 + T / 64 % 10000000, z * 10000000, T, _, rfl, by omega, by omega, by omega, by omega, gT.1, gT.2, rfl, rfl⟩
      omega
    · simp only [hz, decide_false, Bool.false_eq_true, if_false]
      exact ⟨m0, h _ _ (Int.emod_nonneg _ (by omega)) (Int.emod_lt_of_pos _ m0) ⟨t, 0, k + 1, rfl, t0, t1, Int.le_refl 0, by omega⟩⟩
def b_figures : ZTS :=
  (sseq (sset (zc (.int 10)) 2)
    (sseq (sfor (irng1 (acons (zcall c_take (acons (zv 0) (acons (zv 1) anil))) anil)) (gn 3) (sset (zop oMul (zv 2) (zc (.int 10))) 2))
    (sret (zcall c_take (acons (zv 0) (acons (zv 2) anil))))))
def c_figures : ZSp := fun ds m Q _ => ∃ (p : Addr) (most : Int) (K : Nat), ds = [.ref p, .int most] ∧ Pool m p K ∧ K ≤ 100000000 ∧ 0 < most ∧ most ≤ 400 ∧ ∀ r m', 0 ≤ r → r < 2 ^ 2000 → PM m p (K + 2) m' → r < 10 ^ most.toNat → Q (.int r) m'
theorem ten_pow (k : Nat) : ((10 : Int) ^ k).natAbs < 2 ^ (4 * k + 1) := by
  have h := abs_pow (i := 10) (a := 4) k (by decide)
  exact Nat.lt_of_le_of_lt h (Nat.pow_lt_pow_right (by decide) (Nat.lt_succ_self _))
theorem ten_le {j k : Nat} (h : j ≤ k) : (10 : Int) ^ j ≤ 10 ^ k := by
  obtain ⟨i, rfl⟩ := Nat.exists_eq_add_of_le h
  rw [Int.pow_add]
  have h1 : 0 < (10 : Int) ^ j := Int.pow_pos (by decide)
  have h2 : 0 < (10 : Int) ^ i := Int.pow_pos (by decide)
  have := Int.mul_le_mul_of_nonneg_left (show (1 : Int) ≤ 10 ^ i by omega) (show 0 ≤ (10 : Int) ^ j by omega)
  omega
theorem w_figures (ds : List D) (m : Mu) (Q : QE) (E : QX) (h : c_figures ds m Q E) : ds.length = 2 ∧ b_figures ⟨fun _ m => Q .non m, Q, fun x _ m => E x m⟩ (ds.map some ++ List.replicate (4 - ds.length) none) m := by
  obtain ⟨p, most, K, rfl, hp, hK, h0, h1, h⟩ := h
  refine ⟨rfl, ?_⟩
  unfold b_figures
  walk_at "zs"
  refine for_i ?_
  walk_at "zs"
  refine ⟨p, most, K, rfl, hp, by omega, h0, lt_two (j := 20) (by
    have : (2 : Int) ^ 20 = 1048576 := by decide
    omega) (by decide), fun r m1 r0 r1 hm1 => ⟨⟨by omega, by omega⟩, ?_⟩⟩
  obtain ⟨I, hI⟩ : ∃ I : Nat → ZEnv → Mu → Prop, I = fun i ρ m' => ∃ (y : Option D), i ≤ 400 ∧ ρ = [some (.ref p), some (.int most), some (.int (10 ^ (i + 1))), y] ∧ m' = m1 := ⟨_, rfl⟩
  refine loop_i I (by rw [hI]; exact ⟨none, by decide, rfl, rfl⟩) fun i ρ m' hi => ?_
  rw [hI] at hi
  obtain ⟨y, hi, rfl, rfl⟩ := hi
  have sz := abs_more (b := 1900) (ten_pow (i + 1)) (by omega)
  refine ⟨trivial, fun hlt => ?_, fun e => ?_⟩
  · have hlt' : i < r.toNat := hlt
    walk_at "zs"
    rw [hI]
    exact ⟨mul_ok (a := 1900) (b := 10) sz (by decide) (by decide), _, by omega, by rw [Int.pow_succ 10 (i + 1)], rfl⟩
  · walk_at "zs"
    have pos : 0 < (10 : Int) ^ (i + 1) := Int.pow_pos (by decide)
    refine ⟨p, _, K + 1, rfl, hm1.pool, by omega, pos, ?_, fun r2 m2 h2 h3 hm2 => h r2 m2 h2 ?_ (hm1.trans hm2) (Int.lt_of_lt_of_le h3 (ten_le (by have : i = r.toNat := e; omega)))⟩
    · exact Int.lt_of_lt_of_le (lt_abs sz) (two_le (by decide))
    · exact Int.lt_trans h3 (Int.lt_of_lt_of_le (lt_abs sz) (two_le (by decide)))
def b_base7 : ZTS :=
  (sret (zop oIx (zfl (acons (zc (.int 2)) (acons (zc (.int 3)) (acons (zc (.int 10)) (acons (zc (.int 16)) (acons (zc (.int 97)) (acons (zop oPow (zc (.int 10)) (zc (.int 6))) (acons (zop oAdd (zc (.int 2)) (zcall c_take (acons (zv 0) (acons (zop oSub (zop oPow (zc (.int 10)) (zc (.int 6))) (zc (.int 1))) anil)))) anil)))))))) (zcall c_take (acons (zv 0) (acons (zc (.int 7)) anil)))))
def c_base7 : ZSp := fun ds m Q _ => ∃ (p : Addr) (K : Nat), ds = [.ref p] ∧ Pool m p K ∧ K ≤ 100000000 ∧ ∀ r m', 2 ≤ r → r ≤ 1000000 → PM m p (K + 2) m' → Q (.int r) m'
theorem small_lt {b : Int} (h : b ≤ 1000000) : b < 2 ^ 7000 := lt_two (j := 20) (by
  have : (2 : Int) ^ 20 = 1048576 := by decide
  omega) (by decide)
theorem w_base7 (ds : List D) (m : Mu) (Q : QE) (E : QX) (h : c_base7 ds m Q E) : ds.length = 1 ∧ b_base7 ⟨fun _ m => Q .non m, Q, fun x _ m => E x m⟩ (ds.map some ++ List.replicate (1 - ds.length) none) m := by
  obtain ⟨p, K, rfl, hp, hK, h⟩ := h
  refine ⟨rfl, ?_⟩
  unfold b_base7
  walk_at "zs"
  refine ⟨p, _, K, rfl, hp, by omega, by decide, small_lt (by decide), fun r m1 r0 r1 hm1 => ⟨p, _, K + 1, rfl, hm1.pool, by omega, by decide, small_lt (by decide), fun r2 m2 h2 h3 hm2 => ?_⟩⟩
  have fin : ∀ x : Int, 2 ≤ x → x ≤ 1000000 → Q (.int x) m2 := fun x a b => h x m2 a b (hm1.trans hm2)
  have cs : r2 = 0 ∨ r2 = 1 ∨ r2 = 2 ∨ r2 = 3 ∨ r2 = 4 ∨ r2 = 5 ∨ r2 = 6 := by omega
  rcases cs with rfl | rfl | rfl | rfl | rfl | rfl | rfl <;> walk_at "zs" <;> exact fin _ (by omega) (by omega)
/-- a draw under another list -/
theorem PM.under {m m2 : Mu} {p q : Addr} {K : Nat} {o : MO} (h : PM (updM m q o) p K m2) (hq : q ≠ p) : ∃ m1, PM m p K m1 ∧ m2 = updM m1 q o := by
  obtain ⟨s, d, k, rfl, r⟩ := h
  refine ⟨updM m p _, ⟨s, d, k, rfl, r⟩, ?_⟩
  funext b
  unfold updM
  by_cases h1 : b = p
  · rw [if_pos h1, if_neg (fun e => hq (by rw [← e, h1])), if_pos h1]
  · rw [if_neg h1]
    by_cases h2 : b = q
    · rw [if_pos h2, if_pos h2]
    · rw [if_neg h2, if_neg h2, if_neg h1]
theorem Pool.upd {m : Mu} {p q : Addr} {K : Nat} {o : MO} (h : Pool m p K) (hq : q ≠ p) : Pool (updM m q o) p K := by
  obtain ⟨s, d, k, hp, r⟩ := h
  exact ⟨s, d, k, by rw [updM_ne (fun e => hq e.symm)]; exact hp, r⟩
theorem PM.at {m m1 : Mu} {p q : Addr} {K : Nat} (h : PM m p K m1) (hq : q ≠ p) : m1 q = m q := by
  obtain ⟨s, d, k, rfl, r⟩ := h
  rw [updM_ne hq]
theorem Pool.ne {m : Mu} {p q : Addr} {K : Nat} (h : Pool m p K) (hq : m q = none) : q ≠ p := fun e => by
  obtain ⟨s, d, k, hp, _⟩ := h
  rw [e, hp] at hq
  cases hq
end Zed
end
section
set_option maxHeartbeats 4000000
/-! Zed12: zip of two lists of one length, told strict. -/
namespace Zed
open PySem PySem.Spec PyProof.Rows L2
abbrev IsZipS (h : Heap) (z TI TO : Addr) (f0 : Value) : Prop :=
  h.get? z = some { cls := .type "zip", dict := none, data := .fields #[f0, .bool false, .bool true, .ref TI, .ref TO], slots := #[] }
section
variable {prog : Program} {w : World} {A : Around} {E : Value → Shared → Prop} {s : Shared}
theorem nextOrEnd_item {it l : Addr} {i : Nat} {items : Array Value} {x : Value} {Q : Option Value → Shared → Prop} (hit : s.heap.IsListIter it l i)
    (hl : s.heap.IsList l items) (hx : items[i]? = some x)
    (hQ : ∀ h', h'.IsListIter it l (i + 1) → Heap.SameBut it s.heap h' → Q (some x) { s with heap := h' }) :
    wpAny (model prog w) A (Builtin.SmallTypes.nextOrEnd (.ref it)) Q E s := by
  unfold Builtin.SmallTypes.nextOrEnd
  exact wpAny_bind (wpAny_attempt (wpAny_nextOf_list_item hit hl hx fun h' a b => wpAny_pure (hQ h' a b)))
theorem nextOrEnd_end {it l : Addr} {i : Nat} {items : Array Value} {Q : Option Value → Shared → Prop} (hh : A.handled = none)
    (hit : s.heap.IsListIter it l i) (hl : s.heap.IsList l items) (hx : items[i]? = none)
    (hQ : ∀ h', Heap.ExtBut it s.heap h' → Q none { s with heap := h' }) :
    wpAny (model prog w) A (Builtin.SmallTypes.nextOrEnd (.ref it)) Q E s := by
  unfold Builtin.SmallTypes.nextOrEnd
  refine wpAny_bind (wpAny_attempt (wpAny_nextOf_list_end hh hit hl hx fun h' e hk he => ?_))
  obtain ⟨o, ho, hc⟩ := he
  exact wpAny_bind (wpAny_isInstance (T := "StopIteration") (b := true) ⟨o, ho, hc⟩ isSubtype_stop (wpAny_pure (hQ h' hk)))
theorem zipS_next_item {z TI TO i1 i2 l1 l2 : Addr} {k1 k2 : Nat} {xs ys : Array Value} {x y a b : Value} {Q : Value → Shared → Prop} (D : ZipApart z TI TO i1 i2 l1 l2)
    (hz : IsZipS s.heap z TI TO .none) (hTI : IsPair s.heap TI (.ref i1) (.ref i2)) (hTO : IsPair s.heap TO a b)
    (h1 : s.heap.IsListIter i1 l1 k1) (h2 : s.heap.IsListIter i2 l2 k2) (hl1 : s.heap.IsList l1 xs) (hl2 : s.heap.IsList l2 ys) (hx : xs[k1]? = some x) (hy : ys[k2]? = some y)
    (hQ : ∀ h', IsZipS h' z TI TO (rawInt s.heap.objs.size) → IsPair h' TO x y → h'.IsListIter i1 l1 (k1 + 1) → h'.IsListIter i2 l2 (k2 + 1) → IsPair h' s.heap.objs.size x y → h'.objs.size = s.heap.objs.size + 1 →
      (∀ c o, c ≠ z → c ≠ TO → c ≠ i1 → c ≠ i2 → s.heap.get? c = some o → h'.get? c = some o) → Q (.ref s.heap.objs.size) { s with heap := h' }) :
    wpAny (model prog w) A (Builtin.«zip.__next__» ⟨[.ref z], []⟩) (fun fin s' => ∃ v, fin = .done (.ret v) ∧ Q v s') E s := by
  show wpAny _ _ (field (.ref z) 2 >>= _) _ _ _
  refine wpAny_bind (wpAny_field hz rfl (x := .bool true) rfl ?_)
  show wpAny _ _ (field (.ref z) 3 >>= _) _ _ _
  refine wpAny_bind (wpAny_field hz rfl (x := .ref TI) rfl ?_)
  refine wpAny_bind (wpAny_seqItems hTI rfl ?_)
  show wpAny _ _ (Builtin.SmallTypes.ownedTupleIsFree (.ref z) >>= _) _ _ _
  refine wpAny_bind ?_
  unfold Builtin.SmallTypes.ownedTupleIsFree
  refine wpAny_bind (wpAny_field hz rfl (x := .none) rfl (wpAny_pure ?_))
  simp only [if_true]
  refine wpAny_bind (wpAny_rule ?_)
  refine wpAny_bind (wpAny_field hz rfl (x := .ref TO) rfl ?_)
  refine wpAny_bind (wpAny_setField_rec hz (by simp) fun h₁ hz₁ hs₁ => ?_)
  replace hz₁ : IsZipS h₁ z TI TO .ellipsis := hz₁
  refine wpAny_bind ?_
  simp only [List.zipIdx_cons, List.zipIdx_nil, List.forIn_cons, List.forIn_nil]

  refine wpAny_bind (wpAny_bind (wpAny_onRaise ?_))
  show wpAny _ _ (Builtin.SmallTypes.nextOrEnd (.ref i1)) _ _ _
  refine (nextOrEnd_item (h1.extBut hs₁.extBut D.i1z) (hl1.extBut hs₁.extBut D.l1z) hx fun h₂ h1₂ hs₂ => ?_)
  have hTO₂ : IsPair h₂ TO a b := hs₂.extBut _ _ D.TOi1 (hs₁.extBut _ _ D.TOz hTO)
  refine wpAny_bind (wpAny_seqItems hTO₂ rfl ?_)
  refine wpAny_bind (wpAny_updateSeq_pair hTO₂ fun h₃ hTO₃ hs₃ => ?_)
  replace hTO₃ : IsPair h₃ TO x b := hTO₃
  refine wpAny_bind (wpAny_letGo (wpAny_pure ?_))

  refine wpAny_bind (wpAny_bind (wpAny_onRaise ?_))
  show wpAny _ _ (Builtin.SmallTypes.nextOrEnd (.ref i2)) _ _ _
  refine (nextOrEnd_item (((h2.extBut hs₁.extBut D.i2z).extBut hs₂.extBut D.i12.symm).extBut hs₃.extBut D.TOi2.symm)
    (((hl2.extBut hs₁.extBut D.l2z).extBut hs₂.extBut D.l2i1).extBut hs₃.extBut D.l2TO) hy fun h₄ h2₄ hs₄ => ?_)
  have hTO₄ : IsPair h₄ TO x b := hs₄.extBut _ _ D.TOi2 hTO₃
  refine wpAny_bind (wpAny_seqItems hTO₄ rfl ?_)
  refine wpAny_bind (wpAny_updateSeq_pair hTO₄ fun h₅ hTO₅ hs₅ => ?_)
  replace hTO₅ : IsPair h₅ TO x y := hTO₅
  refine wpAny_bind (wpAny_letGo (wpAny_pure (wpAny_pure ?_)))

  refine wpAny_bind (wpAny_seqItems hTO₅ rfl ?_)
  refine wpAny_bind (wpAny_newTuple ?_)
  have hsz : h₅.objs.size = s.heap.objs.size := by rw [hs₅.1, hs₄.1, hs₃.1, hs₂.1, hs₁.1]
  have hz₅ : IsZipS h₅ z TI TO .ellipsis := hs₅.extBut _ _ D.TOz.symm (hs₄.extBut _ _ D.i2z.symm (hs₃.extBut _ _ D.TOz.symm (hs₂.extBut _ _ D.i1z.symm hz₁)))
  have hk₅ : ∀ c o, c ≠ z → c ≠ TO → c ≠ i1 → c ≠ i2 → s.heap.get? c = some o → h₅.get? c = some o := fun c o c1 c2 c3 c4 e =>
    hs₅.extBut _ _ c2 (hs₄.extBut _ _ c4 (hs₃.extBut _ _ c2 (hs₂.extBut _ _ c3 (hs₁.extBut _ _ c1 e))))
  have h1₅ : h₅.IsListIter i1 l1 (k1 + 1) := ((h1₂.extBut hs₃.extBut D.TOi1.symm).extBut hs₄.extBut D.i12).extBut hs₅.extBut D.TOi1.symm
  have h2₅ : h₅.IsListIter i2 l2 (k2 + 1) := h2₄.extBut hs₅.extBut D.TOi2.symm
  have hzlt : z < h₅.objs.size := Heap.lt_size hz₅
  have hTOlt : TO < h₅.objs.size := Heap.lt_size hTO₅
  have hi1lt : i1 < h₅.objs.size := by obtain ⟨_, e, _⟩ := h1₅; exact Heap.lt_size e
  have hi2lt : i2 < h₅.objs.size := by obtain ⟨_, e, _⟩ := h2₅; exact Heap.lt_size e
  show wpAny _ _ (Builtin.SmallTypes.ownedTupleHandOut (.ref z) (.ref h₅.objs.size) >>= _) _ _ _
  refine wpAny_bind ?_
  unfold Builtin.SmallTypes.ownedTupleHandOut
  have hz₆ : IsZipS (h₅.push { cls := .type "tuple", data := .seq #[x, y] }) z TI TO .ellipsis := Heap.get?_push_of_some _ hz₅
  refine wpAny_bind (wpAny_setField_rec hz₆ (by simp) fun h₇ hz₇ hs₇ => ?_)
  replace hz₇ : IsZipS h₇ z TI TO (rawInt h₅.objs.size) := hz₇
  refine wpAny_setField_rec hz₇ (by simp) fun h₈ hz₈ hs₈ => ?_
  replace hz₈ : IsZipS h₈ z TI TO (rawInt h₅.objs.size) := hz₈
  have up : ∀ c o, c ≠ z → h₅.get? c = some o → h₈.get? c = some o := fun c o c1 e => hs₈.extBut _ _ c1 (hs₇.extBut _ _ c1 (Heap.get?_push_of_some _ e))
  have hT₈ : IsPair h₈ h₅.objs.size x y := hs₈.extBut _ _ (Nat.ne_of_gt hzlt) (hs₇.extBut _ _ (Nat.ne_of_gt hzlt) (Heap.get?_push_size _ rfl))
  have hz8 : h₈.objs.size = h₅.objs.size + 1 := by rw [hs₈.1, hs₇.1, Heap.size_push]
  rw [hsz] at hz₈ hT₈ hz8
  refine wpAny_pure ⟨_, rfl, ?_⟩
  show Q (.ref h₅.objs.size) _
  rw [hsz]
  exact hQ h₈ hz₈ (up _ _ D.TOz hTO₅) (h1₅.at fun o e => up _ o D.i1z e) (h2₅.at fun o e => up _ o D.i2z e) hT₈ hz8 fun c o c1 c2 c3 c4 e => up c o c1 (hk₅ c o c1 c2 c3 c4 e)

theorem zipS_next_end {z TI TO i1 i2 l1 l2 : Addr} {k1 k2 : Nat} {xs ys : Array Value} {a b : Value} {Q : Fin → Shared → Prop} (hh : A.handled = none) (D : ZipApart z TI TO i1 i2 l1 l2)
    (hz : IsZipS s.heap z TI TO .none) (hTI : IsPair s.heap TI (.ref i1) (.ref i2)) (hTO : IsPair s.heap TO a b)
    (h1 : s.heap.IsListIter i1 l1 k1) (h2 : s.heap.IsListIter i2 l2 k2) (hl1 : s.heap.IsList l1 xs) (hl2 : s.heap.IsList l2 ys) (hx : xs[k1]? = none) (hy : ys[k2]? = none)
    (hE : ∀ h' e, (∀ c o, c ≠ z → c ≠ TO → c ≠ i1 → c ≠ i2 → s.heap.get? c = some o → h'.get? c = some o) → (∃ o, h'.get? e = some o ∧ o.cls = .type "StopIteration") → E (.ref e) { s with heap := h' }) :
    wpAny (model prog w) A (Builtin.«zip.__next__» ⟨[.ref z], []⟩) Q E s := by
  show wpAny _ _ (field (.ref z) 2 >>= _) _ _ _
  refine wpAny_bind (wpAny_field hz rfl (x := .bool true) rfl ?_)
  show wpAny _ _ (field (.ref z) 3 >>= _) _ _ _
  refine wpAny_bind (wpAny_field hz rfl (x := .ref TI) rfl ?_)
  refine wpAny_bind (wpAny_seqItems hTI rfl ?_)
  show wpAny _ _ (Builtin.SmallTypes.ownedTupleIsFree (.ref z) >>= _) _ _ _
  refine wpAny_bind ?_
  unfold Builtin.SmallTypes.ownedTupleIsFree
  refine wpAny_bind (wpAny_field hz rfl (x := .none) rfl (wpAny_pure ?_))
  simp only [if_true]
  refine wpAny_bind (wpAny_rule ?_)
  refine wpAny_bind (wpAny_field hz rfl (x := .ref TO) rfl ?_)
  refine wpAny_bind (wpAny_setField_rec hz (by simp) fun h₁ hz₁ hs₁ => ?_)
  replace hz₁ : IsZipS h₁ z TI TO .ellipsis := hz₁
  refine wpAny_bind ?_
  simp only [List.zipIdx_cons, List.zipIdx_nil, List.forIn_cons, List.forIn_nil]
  refine wpAny_bind (wpAny_bind (wpAny_onRaise ?_))
  show wpAny _ _ (Builtin.SmallTypes.nextOrEnd (.ref i1)) _ _ _
  refine nextOrEnd_end hh (h1.extBut hs₁.extBut D.i1z) (hl1.extBut hs₁.extBut D.l1z) hx fun h₂ hs₂ => ?_
  have hz₂ : IsZipS h₂ z TI TO .ellipsis := hs₂ _ _ D.i1z.symm hz₁
  refine wpAny_bind (wpAny_setField_rec hz₂ (by simp) fun h₃ hz₃ hs₃ => ?_)
  refine wpAny_bind (wpAny_bind ?_)
  simp only [List.drop_succ_cons, List.drop_zero, List.zipIdx_cons, List.zipIdx_nil, List.forIn_cons, List.forIn_nil]
  refine wpAny_bind (wpAny_bind (nextOrEnd_end hh (((h2.extBut hs₁.extBut D.i2z).extBut hs₂ D.i12.symm).extBut hs₃.extBut D.i2z) (((hl2.extBut hs₁.extBut D.l2z).extBut hs₂ D.l2i1).extBut hs₃.extBut D.l2z) hy fun h₄ hs₄ => ?_))
  refine wpAny_pure (wpAny_pure ?_)
  refine wpAny_bind (wpAny_rule ?_)
  show wpAny _ _ (newExc (.type "StopIteration") [] >>= _) _ _ _
  refine wpAny_bind ?_
  simp only [newExc, newTuple]
  refine wpAny_bind (wpAny_newObj_type ?_ (by size_fits))
  refine wpAny_bind (m := firstArgMember _ _) (wpAny_of_eq (a := Value.none) (by first | rfl | (simp only [firstArgMember]; rfl)) ?_)
  refine wpAny_newObj_type ?_ (by size_fits)
  simp only [raiseNew]
  refine wpAny_bind (wpAny_handled ?_)
  first | rw [show A.in1.handled = none from hh] | rw [hh]
  refine wpAny_bind (wpAny_pure (wpAny_throw ?_))
  exact hE _ _ (fun c o c1 c2 c3 c4 e => Heap.get?_push_of_some _ (Heap.get?_push_of_some _ (hs₄ _ _ c4 (hs₃.extBut _ _ c1 (hs₂ _ _ c3 (hs₁.extBut _ _ c1 e)))))) ⟨_, Heap.get?_push_size _ rfl, rfl⟩
theorem pyNext_zipS_item {z TI TO i1 i2 l1 l2 : Addr} {k1 k2 : Nat} {xs ys : Array Value} {x y a b : Value} {Q : Option Value → Shared → Prop} (D : ZipApart z TI TO i1 i2 l1 l2)
    (hz : IsZipS s.heap z TI TO .none) (hTI : IsPair s.heap TI (.ref i1) (.ref i2)) (hTO : IsPair s.heap TO a b)
    (h1 : s.heap.IsListIter i1 l1 k1) (h2 : s.heap.IsListIter i2 l2 k2) (hl1 : s.heap.IsList l1 xs) (hl2 : s.heap.IsList l2 ys) (hx : xs[k1]? = some x) (hy : ys[k2]? = some y)
    (hQ : ∀ h', IsZipS h' z TI TO (rawInt s.heap.objs.size) → IsPair h' TO x y → h'.IsListIter i1 l1 (k1 + 1) → h'.IsListIter i2 l2 (k2 + 1) → IsPair h' s.heap.objs.size x y → h'.objs.size = s.heap.objs.size + 1 →
      (∀ c o, c ≠ z → c ≠ TO → c ≠ i1 → c ≠ i2 → s.heap.get? c = some o → h'.get? c = some o) → Q (some (.ref s.heap.objs.size)) { s with heap := h' }) :
    wpAny (model prog w) A (pyNext (.ref z)) Q E s := by
  have hT : s.TypeIs (.ref z) "zip" := ⟨_, hz, rfl⟩
  unfold pyNext
  exact wpAny_bind (wpAny_attempt (wpAny_callSpecial?_slot (name := Str.ofString "__next__") hT F.slot_zip_next
    (wpAny_call_entry F.slot_zip_next hT F.entry_zip_next
      (zipS_next_item D hz hTI hTO h1 h2 hl1 hl2 hx hy fun h' a1 a2 a3 a4 a5 a6 a7 => wpAny_pure (hQ h' a1 a2 a3 a4 a5 a6 a7)) (F.args_zip_next_1 _))))

theorem pyNext_zipS_end {z TI TO i1 i2 l1 l2 : Addr} {k1 k2 : Nat} {xs ys : Array Value} {a b : Value} {Q : Option Value → Shared → Prop} (hh : A.handled = none) (D : ZipApart z TI TO i1 i2 l1 l2)
    (hz : IsZipS s.heap z TI TO .none) (hTI : IsPair s.heap TI (.ref i1) (.ref i2)) (hTO : IsPair s.heap TO a b)
    (h1 : s.heap.IsListIter i1 l1 k1) (h2 : s.heap.IsListIter i2 l2 k2) (hl1 : s.heap.IsList l1 xs) (hl2 : s.heap.IsList l2 ys) (hx : xs[k1]? = none) (hy : ys[k2]? = none)
    (hQ : ∀ h', (∀ c o, c ≠ z → c ≠ TO → c ≠ i1 → c ≠ i2 → s.heap.get? c = some o → h'.get? c = some o) → Q none { s with heap := h' }) : wpAny (model prog w) A (pyNext (.ref z)) Q E s := by
  have hT : s.TypeIs (.ref z) "zip" := ⟨_, hz, rfl⟩
  unfold pyNext
  refine wpAny_bind (wpAny_attempt (wpAny_callSpecial?_slot (name := Str.ofString "__next__") hT F.slot_zip_next
    (wpAny_call_entry F.slot_zip_next hT F.entry_zip_next (zipS_next_end hh D hz hTI hTO h1 h2 hl1 hl2 hx hy fun h' e hk he => ?_) (F.args_zip_next_1 _))))
  obtain ⟨o, ho, hc⟩ := he
  refine wpAny_bind (wpAny_isInstance (T := "StopIteration") (b := true) ⟨o, ho, hc⟩ isSubtype_stop ?_)
  exact wpAny_pure (hQ _ hk)

theorem letGo_zipS {elts : List Expr} {x1} {pos : Pos} {z TI TO T : Addr} {Q : Unit → Shared → Prop} (hz : IsZipS s.heap z TI TO (rawInt T))
    (hQ : ∀ h', IsZipS h' z TI TO .none → Heap.SameBut z s.heap h' → Q () { s with heap := h' }) :
    wpAny (model prog w) A (letOwnedTupleGo (.Tuple elts x1 pos) (.ref z) (.ref T)) Q E s := by
  unfold letOwnedTupleGo
  refine wpAny_bind (wpAny_load hz ?_)
  show wpAny _ _ (if (["enumerate", "zip", "dict_itemiterator", "dict_reverseitemiterator", "odict_iterator", "itertools.zip_longest", "itertools.pairwise"].contains "zip" &&
      (#[rawInt T, .bool false, .bool true, .ref TI, .ref TO] : Array Value)[0]? == some (rawInt T)) = true then _ else _) Q E s
  rw [if_pos (by simp)]
  refine wpAny_bind (wpAny_rule ?_)
  show wpAny _ _ (setField (.ref z) 0 .none) Q E s
  exact wpAny_setField_rec hz (by simp) fun h' hz' hs' => hQ h' hz' hs'

theorem pyIter_zipS {z TI TO : Addr} {f0 : Value} {Q : Value → Shared → Prop} (hz : IsZipS s.heap z TI TO f0) (h : Q (.ref z) s) : wpAny (model prog w) A (pyIter (.ref z)) Q E s := by
  have hT : s.TypeIs (.ref z) "zip" := ⟨_, hz, rfl⟩
  refine wpAny_pyIter_slot hT F.slot_zip_iter (wpAny_call_entry F.slot_zip_iter hT F.entry_zip_iter ?_ (F.args_zip_iter_1 _))
  show wpAny _ _ (ret (.ref z)) _ _ s
  exact wpAny_pure ⟨_, rfl, "zip", _, hT, F.slot_zip_next.lookup, h⟩

end
abbrev zipH5S (h : Heap) (l1 l2 : Addr) : Heap := (zipH4 h l1 l2).push { cls := .type "zip", data := .fields #[.none, .bool false, .bool true, .ref (zipH2 h l1 l2).objs.size, .ref (zipH3 h l1 l2).objs.size] }
theorem typeCall_zipS (a b c : Value) : checkTypeCall "zip" ⟨[a, b], [(Str.ofString "strict", c)]⟩ = pure () := by kernel_rfl
theorem newCall_zipS (a b c : Value) : checkBuiltinCall "zip.__new__" ⟨[.type "zip", a, b], [(Str.ofString "strict", c)]⟩ = pure () := by kernel_rfl
theorem args_initS (obj a b c : Value) : argsOk "object.__init__" ⟨[obj, a, b], [(Str.ofString "strict", c)]⟩ := by unfold argsOk; kernel_rfl
theorem meets_zip_newS (l1 l2 : Addr) (xs ys : Array Value) :
    Meets (Builtin.«zip.__new__» ⟨[.type "zip", .ref l1, .ref l2], [(Str.ofString "strict", .bool true)]⟩) (fun _ R s => s.heap.IsList l1 xs ∧ s.heap.IsList l2 ys ∧
      R (.ok (.ret (.ref (zipH4 s.heap l1 l2).objs.size))) { s with heap := zipH5S s.heap l1 l2 }) :=
  .of_wp fun prog w A R s h => by
    obtain ⟨hp, g, d, tk, os⟩ := s; obtain ⟨hl1, hl2, h⟩ := h
    have hsub := sub_zip
    have hL1 : Heap.IsList (Shared.heap ⟨hp, g, d, tk, os⟩) l1 xs := hl1
    have hL2 : Heap.IsList (Shared.heap ⟨hp.push { cls := .type "list_iterator", data := .fields #[.ref l1, .int 0 0] }, g, d, tk, os⟩) l2 ys := Heap.IsList.push hl2 _
    have e1 : (Str.ofString "strict" != ("strict" : Str)) = false := by decide +kernel
    wp_walk using wpAny_pyIter_list hL1, wpAny_pyIter_list hL2
    exact ⟨_, rfl, h⟩
section
variable {prog : Program} {w : World} {A : Around} {E : Value → Shared → Prop} {s : Shared}
theorem call_zipS {l1 l2 : Addr} {xs ys : Array Value} {Q : Value → Shared → Prop} (hl1 : s.heap.IsList l1 xs) (hl2 : s.heap.IsList l2 ys)
    (h : ∀ h', IsZipS h' (s.heap.objs.size + 4) (s.heap.objs.size + 2) (s.heap.objs.size + 3) .none → IsPair h' (s.heap.objs.size + 2) (.ref s.heap.objs.size) (.ref (s.heap.objs.size + 1)) →
      IsPair h' (s.heap.objs.size + 3) .none .none → h'.IsListIter s.heap.objs.size l1 0 → h'.IsListIter (s.heap.objs.size + 1) l2 0 → h'.objs.size = s.heap.objs.size + 5 →
      (∀ c o, s.heap.get? c = some o → h'.get? c = some o) → Q (.ref (s.heap.objs.size + 4)) { s with heap := h' }) :
    wpAny (model prog w) A (call (.type "zip") [.ref l1, .ref l2] [(Str.ofString "strict", .bool true)]) Q E s := by
  refine callType_newKw F.called_zip (by decide) (typeCall_zipS _ _ _) (newCall_zipS _ _ _) (fun obj => args_initS obj _ _ _) F.entry_zip_new
    (meets_zip_newS l1 l2 xs ys) ⟨hl1, hl2, ?_⟩
  have z1 : (zipH1 s.heap l1).objs.size = s.heap.objs.size + 1 := Heap.size_push ..
  have z2 : (zipH2 s.heap l1 l2).objs.size = s.heap.objs.size + 2 := by rw [Heap.size_push, z1]
  have z3 : (zipH3 s.heap l1 l2).objs.size = s.heap.objs.size + 3 := by rw [Heap.size_push, z2]
  have z4 : (zipH4 s.heap l1 l2).objs.size = s.heap.objs.size + 4 := by rw [Heap.size_push, z3]
  have z5 : (zipH5S s.heap l1 l2).objs.size = s.heap.objs.size + 5 := by rw [Heap.size_push, z4]
  have g5 : (zipH5S s.heap l1 l2).get? (zipH4 s.heap l1 l2).objs.size = some _ := Heap.get?_push_size _ rfl
  have g4 : (zipH5S s.heap l1 l2).get? (zipH3 s.heap l1 l2).objs.size = some _ := Heap.get?_push_of_some _ (Heap.get?_push_size _ rfl)
  have g3 : (zipH5S s.heap l1 l2).get? (zipH2 s.heap l1 l2).objs.size = some _ := Heap.get?_push_of_some _ (Heap.get?_push_of_some _ (Heap.get?_push_size _ rfl))
  have g2 : (zipH5S s.heap l1 l2).get? (zipH1 s.heap l1).objs.size = some _ := Heap.get?_push_of_some _ (Heap.get?_push_of_some _ (Heap.get?_push_of_some _ (Heap.get?_push_size _ rfl)))
  have g1 : (zipH5S s.heap l1 l2).get? s.heap.objs.size = some _ := Heap.get?_push_of_some _ (Heap.get?_push_of_some _ (Heap.get?_push_of_some _ (Heap.get?_push_of_some _ (Heap.get?_push_size _ rfl))))
  show _ ∧ _
  rw [z2, z3, z4] at g5
  rw [z1, z2] at g3
  rw [z3] at g4
  rw [z1] at g2
  rw [z4]
  exact ⟨⟨_, g5, rfl⟩, h _ g5 g3 g4 ⟨_, g1, rfl, rfl⟩ ⟨_, g2, rfl, rfl⟩ z5 fun c o x =>
    Heap.get?_push_of_some _ (Heap.get?_push_of_some _ (Heap.get?_push_of_some _ (Heap.get?_push_of_some _ (Heap.get?_push_of_some _ x))))⟩

end
/-- the lists at a and b as they stand at each turn, the items in new pairs -/
def ItzS (K : PySem.W.Frag) (a b : Addr) : It :=
  ⟨fun i H => ∃ (xs ys : List V) (x y : V), SqL K H a xs ∧ SqL K H b ys ∧ xs[i]? = some x ∧ ys[i]? = some y,
    fun i H v H' => ∃ T x y, v = .ref T ∧ H T = none ∧ H' = upd H T (.tup [x, y]) ∧ (∀ xs, SqL K H a xs → xs[i]? = some x) ∧ ∀ ys, SqL K H b ys → ys[i]? = some y,
    fun i H => ∃ xs ys : List V, SqL K H a xs ∧ SqL K H b ys ∧ xs.length ≤ i ∧ ys.length ≤ i⟩
theorem turn_zipS {P : Program} {w : World} {K : PySem.W.Frag} {elts : List Expr} {kk : Nat} {tpos : Pos} {a b z TI TO i1 i2 : Addr} (D : ZipApart z TI TO i1 i2 a b) :
    Turn P w K (.Tuple elts kk tpos) (ItzS K a b) [z, TI, TO, i1, i2] z (fun i h => IsZipS h z TI TO .none ∧ IsPair h TI (.ref i1) (.ref i2) ∧ (∃ x y, IsPair h TO x y) ∧ h.IsListIter i1 a i ∧ h.IsListIter i2 b i) where
  mem := by simp
  obj := fun i h st c hc => by
    obtain ⟨hz, hTI, ⟨x, y, hTO⟩, ⟨o1, e1, _, d1⟩, ⟨o2, e2, _, d2⟩⟩ := st
    have e' : c = z ∨ c = TI ∨ c = TO ∨ c = i1 ∨ c = i2 := by simpa using hc
    rcases e' with q | q | q | q | q
    · rw [q]; exact ⟨_, hz, fun v q => nomatch q⟩
    · rw [q]; exact ⟨_, hTI, fun v q => nomatch q⟩
    · rw [q]; exact ⟨_, hTO, fun v q => nomatch q⟩
    · rw [q]; exact ⟨o1, e1, fun v q => by rw [d1] at q; cases q⟩
    · rw [q]; exact ⟨o2, e2, fun v q => by rw [d2] at q; cases q⟩
  keep := fun i h h' st k => by
    obtain ⟨hz, hTI, ⟨x, y, hTO⟩, h1, h2⟩ := st
    exact ⟨k z (by simp) _ hz, k TI (by simp) _ hTI, ⟨x, y, k TO (by simp) _ hTO⟩, h1.at fun o q => k i1 (by simp) o q, h2.at fun o q => k i2 (by simp) o q⟩
  item := by
    intro X hP hw hK hc i pins s σ H E I hf st hg
    subst hP hw hK
    obtain ⟨hz, hTI, ⟨x0, y0, hTO⟩, h1, h2⟩ := st
    obtain ⟨xs, ys, x, y, hqx, hqy, hx, hy⟩ := hg
    obtain ⟨its, rv, p, _⟩ := I.list hqx
    obtain ⟨its2, rv2, p2, _⟩ := I.list hqy
    obtain ⟨u, hu, ru⟩ := rv.get hx
    obtain ⟨u2, hu2, ru2⟩ := rv2.get hy
    have hzl : z < s.heap.objs.size := Heap.lt_size hz
    refine pyNext_zipS_item D hz hTI hTO h1 h2 p.isList p2.isList (x := u) (y := u2) (by simpa using hu) (by simpa using hu2) fun h' z' TO' h1' h2' hT hsz hk => ?_
    refine ⟨_, rfl, letGo_zipS (s := { s with heap := h' }) z' fun h'' z'' sb => ?_⟩
    have hT2 : h''.get? s.heap.objs.size = some { cls := .type "tuple", data := .seq #[u, u2] } := (sb.2 _ (Nat.ne_of_gt hzl)).trans hT
    have new : ObjOk X.prog X.w (upd H s.heap.objs.size (.tup [x, y])) h'' s.heap.objs.size (.tup [x, y]) :=
      ⟨by show 2 ≤ sizeLine; decide, [u, u2], .cons ru (.cons ru2 .nil), ⟨_, hT2, rfl, _, rfl⟩⟩
    have I1 : Inv X pins σ (upd H s.heap.objs.size (.tup [x, y])) { s with heap := h'' } :=
      I.turnedNew (t' := s.toks) (ch := [z, TI, TO, i1, i2]) (fun c o hb q => (sb.2 c (fun q' => hb (by simp [q']))).trans (hk c o (fun q' => hb (by simp [q'])) (fun q' => hb (by simp [q'])) (fun q' => hb (by simp [q'])) (fun q' => hb (by simp [q'])) q)) hf (Nat.le_refl _) new
    refine ⟨.ref s.heap.objs.size, _, I1, rfl, ⟨_, x, y, rfl, I.hok.fresh (Nat.le_refl _), rfl, fun l hl => by rw [I.list_inj hl hqx]; exact hx, fun l hl => by rw [I.list_inj hl hqy]; exact hy⟩, ⟨z'', ?_, ⟨u, u2, ?_⟩, ?_, ?_⟩, fun c hcm => ?_⟩
    · exact (sb.2 _ D.TIz).trans (hk _ _ D.TIz D.TITO D.TIi1 D.TIi2 hTI)
    · exact (sb.2 _ D.TOz).trans TO'
    · exact h1'.at fun o q => (sb.2 _ D.i1z).trans q
    · exact h2'.at fun o q => (sb.2 _ D.i2z).trans q
    · have hlt : c < s.heap.objs.size := by
        have e' : c = z ∨ c = TI ∨ c = TO ∨ c = i1 ∨ c = i2 := by simpa using hcm
        rcases e' with q | q | q | q | q
        · rw [q]; exact hzl
        · rw [q]; exact Heap.lt_size hTI
        · rw [q]; exact Heap.lt_size hTO
        · rw [q]; obtain ⟨_, e1, _⟩ := h1; exact Heap.lt_size e1
        · rw [q]; obtain ⟨_, e2, _⟩ := h2; exact Heap.lt_size e2
      rw [upd_ne (Nat.ne_of_lt hlt)]
      exact (hf c hcm).1
  done := by
    intro X hP hw hK hc i pins s σ H E I hf st hg
    subst hP hw hK
    obtain ⟨hz, hTI, ⟨x0, y0, hTO⟩, h1, h2⟩ := st
    obtain ⟨xs, ys, hqx, hqy, hend⟩ := hg
    obtain ⟨its, rv, p, _⟩ := I.list hqx
    obtain ⟨its2, rv2, p2, _⟩ := I.list hqy
    have l1 := rv.length
    have l2 := rv2.length
    have he1 : its.toArray[i]? = none := by have := hend.1; simp; omega
    have he2 : its2.toArray[i]? = none := by have := hend.2; simp; omega
    exact pyNext_zipS_end (I.ok.hd hc) D hz hTI hTO h1 h2 p.isList p2.isList he1 he2 fun h' hk => ⟨rfl, I.turnedL (t' := s.toks) (ch := [z, TI, TO, i1, i2]) (fun c o hb q =>
      hk c o (fun q' => hb (by simp [q'])) (fun q' => hb (by simp [q'])) (fun q' => hb (by simp [q'])) (fun q' => hb (by simp [q'])) q) hf⟩
  self := fun A i s Q E st h => pyIter_zipS st.1 h
theorem callWith_type_kwB {M : Model} {A : Around} {E : Value → Shared → Prop} {s : Shared} {pos : Pos} {id : String} {first : List Value} {args : List (Bool × Sem Value)} {keywords : List (Option Str × Sem Value)} {Q : Value → Shared → Prop}
    (hplain : args.any (·.1) = false) (hkw : keywords.any (·.1.isNone) = false)
    (h : wpAny M A (evalArgs (.type id) true args keywords) (fun a s₁ => wpAny M A (call (.type id) (first ++ a.pos) a.kw) Q E s₁) E s) :
    wpAny M A (callWith pos (.type id) first args keywords) Q E s := by
  unfold callWith
  refine wpAny_bind (wpAny_holding (wpAny_mono h (fun a s₁ h₁ => wpAny_bind (wpAny_standAt ?_)) fun _ _ x => x))
  simp only [hplain, hkw, Bool.or_false]
  refine wpAny_bind (wpAny_pure ?_)
  exact wpAny_bind (wpAny_mono h₁ (fun r s₂ hr => wpAny_bind (wpAny_holding (wpAny_point (wpAny_pure hr)))) fun _ _ x => x)
theorem callWith_typeK {M : Model} {A : Around} {E : Value → Shared → Prop} {s : Shared} {env : Env} {pos : Pos} {id : String} {e : Expr} {rest : List Expr} {kws : List Keyword} {Q : Value → Shared → Prop}
    (h : wpAny M A (spliced (backTo pos (starEach (e :: rest) env))) (fun vs s₁ => wpAny M A (evalAll ((backToKw pos (keywordEach kws env)).map (·.2)))
      (fun kvs s₂ => wpAny M A (call (.type id) vs (((backToKw pos (keywordEach kws env)).filterMap (·.1)).zip kvs)) Q E s₂) E s₁) E s)
    (he : backTo pos (starEach (e :: rest) env) = (false, eval e env) :: backTo pos (starEach rest env) := by rfl)
    (hplain : (backTo pos (starEach (e :: rest) env)).any (·.1) = false := by rfl)
    (hall : (backToKw pos (keywordEach kws env)).all (·.1.isSome) = true := by rfl)
    (hkw : (backToKw pos (keywordEach kws env)).any (·.1.isNone) = false := by rfl) :
    wpAny M A (callWith pos (.type id) [] (backTo pos (starEach (e :: rest) env)) (backToKw pos (keywordEach kws env))) Q E s := by
  refine callWith_type_kwB hplain hkw ?_
  rw [he] at h ⊢
  exact evalArgs_kwB hall h
def iZipS (K : PySem.W.Frag) (ta : TA) : TI := fun σ H R => ta σ H fun vs H1 => ∃ a b xs ys, vs = [.ref a, .ref b] ∧ SqL K H1 a xs ∧ SqL K H1 b ys ∧ R (ItzS K a b) H1
theorem pi_zipS {X : Cx} {e e2 : Expr} {ta : TA} {p pos tpos kp kpos : Pos} {j : Nat} {elts : List Expr} {kk : Nat} (hg : Gl X "zip") (hm : X.mg "zip" = none) (ha : PA X [e, e2] ta)
    (he : backTo pos (starEach [e, e2] X.env) = (false, eval e X.env) :: backTo pos (starEach [e2] X.env) := by rfl) (hpl : (backTo pos (starEach [e, e2] X.env)).any (·.1) = false := by rfl) :
    PI X (.Tuple elts kk tpos) (.Call (.Name "zip" p) [e, e2] [⟨some "strict", .Constant (.bool true) j kp, kpos⟩] pos) (iZipS X.K ta) := by
  refine ⟨fun pins s σ H R I h => ?_⟩
  refine wpAny_Call_Name_kw (ld_blt I hg hm PyProof.Rows.boot_zip ?_)
  refine callWith_typeK (thn (ha.run pos pins s σ H _ I h) fun us s1 ⟨vs, H1, I1, r1, q1⟩ => ?_) he hpl
  have kb : PK X [⟨some "strict", .Constant (.bool true) j kp, kpos⟩] _ := pk_cons (pe_bl (b := true)) pk_nil
  refine thn (kb.run pos pins s1 σ H1 (fun zs H2 => zs = [V.bl true] ∧ H2 = H1) I1 ⟨rfl, rfl⟩) fun ws s2 ⟨zs, H2, I2, r2, ez, eh⟩ => ?_
  subst ez eh
  obtain ⟨a, b, xs, ys, ex, hqx, hqy, q⟩ := q1
  subst ex
  cases r2 with
  | cons rw rr2 =>
    cases rr2
    cases rw
    cases r1 with
    | cons r rr =>
      cases rr with
      | cons r' rr =>
        cases rr
        cases r
        cases r'
        have fresh5 : ∀ c, c ∈ [s2.heap.objs.size + 4, s2.heap.objs.size + 2, s2.heap.objs.size + 3, s2.heap.objs.size, s2.heap.objs.size + 1] → FpOk X pins H2 c := fun c hcm => by
          have e' : c = s2.heap.objs.size + 4 ∨ c = s2.heap.objs.size + 2 ∨ c = s2.heap.objs.size + 3 ∨ c = s2.heap.objs.size ∨ c = s2.heap.objs.size + 1 := by simpa using hcm
          have hle : s2.heap.objs.size ≤ c := by
            rcases e' with z | z | z | z | z
            · rw [z]; exact Nat.le_add_right _ _
            · rw [z]; exact Nat.le_add_right _ _
            · rw [z]; exact Nat.le_add_right _ _
            · rw [z]; exact Nat.le_refl _
            · rw [z]; exact Nat.le_add_right _ _
          exact I2.fpOk hle (I2.hok.fresh hle)
        obtain ⟨its, rv, p1, _⟩ := I2.list hqx
        obtain ⟨its2, rv2, p2, _⟩ := I2.list hqy
        refine call_zipS p1.isList p2.isList fun h' hz hTI hTO h1 h2 hsz hk => pyIter_zipS hz ?_
        have I3 : Inv X pins σ H2 { s2 with heap := h' } := I2.kept (t' := s2.toks) hk
        exact ⟨s2.heap.objs.size + 4, [s2.heap.objs.size + 4, s2.heap.objs.size + 2, s2.heap.objs.size + 3, s2.heap.objs.size, s2.heap.objs.size + 1], _, _, H2, rfl, I3, turn_zipS (PySem.W.ktu_apart s2.heap.objs.size a b p1.lt p2.lt), ⟨hz, hTI, ⟨_, _, hTO⟩, h1, h2⟩, fresh5, q⟩
/-- zip(xs, ys, strict=True) of two lists of one length -/
def izipS (t : ZTA) : ZTI := fun ρ m Q E => t ρ m (fun xs m1 => match xs with
  | [.fl xs, .fl ys] => xs.length = ys.length ∧ Q ⟨xs.length, fun i => .tup [xs.getD i .non, ys.getD i .non], fun _ => True⟩ m1
  | _ => False) E
theorem r_izipS {X : Cx} {W : WX} {a b : Expr} {zl : ZTA} {p pos tpos kp kpos : Pos} {j : Nat} {elts : List Expr} {kk : Nat} (hm : X.mg "zip" = none) (ha : PA X [a, b] (LA X.K W zl)) (hg : Gl X "zip" := by rfl)
    (he : backTo pos (starEach [a, b] X.env) = (false, eval a X.env) :: backTo pos (starEach [b] X.env) := by rfl) (hpl : (backTo pos (starEach [a, b] X.env)).any (·.1) = false := by rfl) :
    PI X (.Tuple elts kk tpos) (.Call (.Name "zip" p) [a, b] [⟨some "strict", .Constant (.bool true) j kp, kpos⟩] pos) (LI X.K W (izipS zl)) := by
  refine pi_imp (pi_zipS hg hm ha he hpl) fun σ H Q ⟨F, ρ, m, Pi, Qz, Ez, hz, he, h, k, kx⟩ => ?_
  refine ⟨F, ρ, m, Pi, _, Ez, hz, he, h, fun xs m1 P1 v H1 l1 z1 r1 q1 => ?_, kx⟩
  dsimp only at q1
  split at q1
  · obtain ⟨v1, v2, rfl, r2, r3⟩ := reps2 r1
    obtain ⟨el, q1⟩ := q1
    cases r2 with
    | fl hs rs =>
      cases r3 with
      | fl hs2 rs2 =>
        rename_i xs ys a vs b ws
        refine ⟨_, _, _, _, rfl, z1.sub.sql hs, z1.sub.sql hs2, k _ m1 P1 _ H1 l1 z1 (fun F i m P' H l z _ => ⟨fun h => ?_, fun h => ⟨_, _, z.sub.sql (l.sql hs), z.sub.sql (l.sql hs2), ?_⟩⟩) q1⟩
        · have h1 : i < xs.length := h
          have h2 : i < ys.length := by omega
          obtain ⟨v, e, r⟩ := reps_getD (rs.mono l) h1
          obtain ⟨u, e2, r2⟩ := reps_getD (rs2.mono l) h2
          refine ⟨⟨_, _, v, u, z.sub.sql (l.sql hs), z.sub.sql (l.sql hs2), e, e2⟩, fun x H' hy => ?_⟩
          obtain ⟨T, y1, y2, rfl, nT, rfl, f1, f2⟩ := hy
          have g1 := f1 _ (z.sub.sql (l.sql hs))
          have g2 := f2 _ (z.sub.sql (l.sql hs2))
          rw [e] at g1
          rw [e2] at g2
          cases g1
          cases g2
          obtain ⟨z2, l2⟩ := z.newPi nT (.tup [v, u])
          exact ⟨_, l2, z2, .tup (.inl (.inl upd_same)) (.cons (r.mono l2) (.cons (r2.mono l2) .nil))⟩
        · rw [← rs.length, ← rs2.length]
          have h' : i = xs.length := h
          omega
  · exact q1.elim
end Zed
end
section
set_option maxHeartbeats 4000000
/-! ZMod: a modulus. -/
namespace Zed
open PySem PySem.Spec PyProof.Rows L2
local macro_rules | `(tactic| walk_at "zs") => `(tactic| simp only [zv, zc, zop, zun, anil, acons, ztup, zfl, zlst, zbl, zcall, zcallK, tvl, ttr, tand, tor, tnot, zand, zor, zorT, znot, zif, zchn, zsl, onone, osome, zrev, zrevA, zisi, gn, gnil, gcons, gtup, gsub, snil, sseq, sexp, sret, sretN, sif, sasg, sset, spar, spar3, saug, wkL, zapp, zpop, zseal, xat, snever, tyes, ilist, itup, istr, irng1, irng2, irng3, ienum, ienumT, izip, irev, wipeZ, zev, oAddL, isNon, at2_if, iseq, ienumT, gstar, gtupA, saugS, oGetL, izipS, sl_0, sl_1, sl_2, sl_3, sl_4, sl_5, sl_6, sl_7, sl_8, at1_0, at2_0, at2_1, at3_0, at3_1, at3_2, at4_0, at4_1, at4_2, at4_3, at5_0, at5_1, at5_2, at5_3, at5_4, at6_0, at6_1, at6_2, at6_3, at6_4, at6_5, at7_0, at7_1, at7_2, at7_3, at7_4, at7_5, at7_6, at8_0, at8_1, at8_2, at8_3, at8_4, at8_5, at8_6, at8_7, ixn2_0, ixn2_1, ixn3_0, ixn3_1, ixn3_2, cp_2, vp_2, cp_3, vp_3, cp_6, vp_6, cp_7, vp_7, cp_18, vp_18, cp_60, vp_60, q_truD_1, q_truD_2, q_truD_3, q_truD_4, q_truD_5, q_truD_6, q_oAdd_1, q_oAdd_2, q_oAdd_3, q_oAdd_4, q_oInt_1, q_oSub_1, q_oLt_1, q_oEq_1, q_oNe_1, q_oNe_2, q_oEq_2, q_oIs_1, q_oIs_2, q_oIsNot_1, q_oIsNot_2, q_oNeg_1, q_cAbs_1, q_cMax_1, q_cMin_1, q_cInt_1, q_cInt_2, q_cDivmod_1, q_lenD_1, q_lenD_2, q_lenD_3, q_cLen_1, q_cTuple_1, q_cTuple_2, q_cTuple_3, q_cListF_1, q_cListF_2, q_cListF_3, q_cList_1, q_cList_2, q_seqD_1, q_seqD_2, q_lenD_4, q_oIx_1, q_oIx_2, q_oIx_4, q_oSl_1, q_oSl_2, q_oSl_3, q_oSl_4, q_tyD_1, q_tyD_2, q_tyD_3, q_tyD_4, q_tyD_5, q_tyD_6, q_cIsi_1, q_oSet_1, q_oIAdd_1, q_oIAdd_2, List.getD_cons_zero, List.getD_cons_succ, List.take_zero, List.drop_zero, updM_same, updM_upd, dropM_updM, isi_ii, isi_bi, isi_ib, isi_bb, isi_tt, List.map_cons, List.map_nil, List.replicate_succ, List.replicate_zero, List.cons_append, List.nil_append, List.append_nil, List.set_cons_zero, List.set_cons_succ, List.getElem?_cons_zero, List.getElem?_cons_succ, List.length_cons, List.length_nil, Bool.false_eq_true, if_true, if_false, Bool.not_true, Bool.not_false, Bool.not_eq_true, Bool.not_eq_false', decide_eq_true_eq, true_and, and_true, exists_eq_left', Nat.reduceAdd, Nat.reduceSub, reduceCtorEq, decide_true, decide_false, Bool.true_eq_false, ite_true, ite_false, isw_int])
def b_check_modulus : ZTS :=
  (sif (tor (tnot (tvl (zcall c_is_whole (acons (zv 0) anil)))) (tnot (tvl (zchn oLe oLe (zc (.int 2)) (zv 0) (zc (.int 1000000000000000000000000000000000000000000000000000000000000)))))) snever snil)
def c_check_modulus : ZSp := fun ds m Q _ => ∃ n : Int, ds = [.int n] ∧ 2 ≤ n ∧ n ≤ 1000000000000000000000000000000000000000000000000000000000000 ∧ Q .non m
theorem w_check_modulus (ds : List D) (m : Mu) (Q : QE) (E : QX) (h : c_check_modulus ds m Q E) : ds.length = 1 ∧ b_check_modulus ⟨fun _ m => Q .non m, Q, fun x _ m => E x m⟩ (ds.map some ++ List.replicate (1 - ds.length) none) m := by
  obtain ⟨n, rfl, h0, h1, h⟩ := h
  refine ⟨rfl, ?_⟩
  unfold b_check_modulus
  walk_at "zs"
  simp only [h0, h1, if_true, decide_true, Bool.not_true, Bool.false_eq_true, if_false]
  exact h
end Zed
end
section
set_option maxHeartbeats 4000000
/-! ZHelp: comprehensions whose list is told. -/
namespace Zed
open PySem PySem.Spec PyProof.Rows L2
theorem comp_mapE {wk : Wk} {g : ZTG} {t : ZTT} {e : ZTE} {vs : List Nat} {ρ : ZEnv} {m : Mu} {Q : QE} (f : Nat → D) (ys : List D) (hs : wk.n ≤ sizeLine) (hi : wk.inv m)
    (h : ∀ i, i < wk.n → ∀ (K1 : QE) (K2 : Mu → Prop), K1 (f i) m → g (wk.item i) (wipeZ ρ vs) m (fun ρ2 m2 => t ρ2 m2 (fun c m3 => if c = true then e ρ2 m3 K1 noX else K2 m3) noX) noX)
    (he : (List.range wk.n).map f = ys) (hq : Q (.fl ys) m) : CompP wk g t e vs ρ m Q := comp_map f hs hi h (by rw [he]; exact hq)
theorem comp_filterE {wk : Wk} {g : ZTG} {t : ZTT} {e : ZTE} {vs : List Nat} {ρ : ZEnv} {m : Mu} {Q : QE} (f : Nat → D) (p : Nat → Bool) (ys : List D) (hs : wk.n ≤ sizeLine) (hi : wk.inv m)
    (h : ∀ i, i < wk.n → ∀ (K1 : QE) (K2 : Mu → Prop), (p i = true → K1 (f i) m) → (p i = false → K2 m) → g (wk.item i) (wipeZ ρ vs) m (fun ρ2 m2 => t ρ2 m2 (fun c m3 => if c = true then e ρ2 m3 K1 noX else K2 m3) noX) noX)
    (he : ((List.range wk.n).filter p).map f = ys) (hq : Q (.fl ys) m) : CompP wk g t e vs ρ m Q := comp_filter f p hs hi h (by rw [he]; exact hq)
theorem comp_mapME {wk : Wk} {g : ZTG} {t : ZTT} {e : ZTE} {vs : List Nat} {ρ : ZEnv} {m : Mu} {Q : QE} (f : Nat → D) (ys : List D) (hs : wk.n ≤ sizeLine) (hi : wk.inv m)
    (h : ∀ i, i < wk.n → ∀ (K1 : QE) (K2 : Mu → Prop), K1 (f i) m → g (wk.item i) (wipeZ ρ vs) m (fun ρ2 m2 => t ρ2 m2 (fun c m3 => if c = true then e ρ2 m3 K1 noX else K2 m3) noX) noX)
    (he : (List.range wk.n).map f = ys) (hq : ∀ p, m p = none → Q (.ref p) (updM m p (.lst ys))) : CompPM wk g t e vs ρ m Q := comp_mapM f hs hi h (by rw [he]; exact hq)
/-- one of a written list -/
theorem at_mem {L : List D} {w : Int} (h0 : 0 ≤ w) (h1 : w < L.length) : ∃ x, x ∈ L ∧ atI L w = some x := by
  obtain ⟨k, rfl⟩ : ∃ k : Nat, w = (k : Int) := ⟨w.toNat, by omega⟩
  have hk : k < L.length := by omega
  exact ⟨L[k], List.getElem_mem hk, atI_nat (List.getElem?_eq_getElem hk)⟩
theorem at_ints {xs : List Int} {w : Int} (h0 : 0 ≤ w) (h1 : w < xs.length) : ∃ x, x ∈ xs ∧ atI (xs.map D.int) w = some (.int x) := by
  obtain ⟨k, rfl⟩ : ∃ k : Nat, w = (k : Int) := ⟨w.toNat, by omega⟩
  have hk : k < xs.length := by omega
  exact ⟨xs[k], List.getElem_mem hk, atI_nat (by rw [List.getElem?_map, List.getElem?_eq_getElem hk]; rfl)⟩
theorem at_ints_getD {xs : List Int} {k : Nat} (h1 : k < xs.length) : atI (xs.map D.int) (k : Int) = some (.int (xs.getD k 0)) :=
  atI_nat (by rw [List.getElem?_map, List.getElem?_eq_getElem h1, List.getD_eq_getElem?_getD, List.getElem?_eq_getElem h1]; rfl)
theorem cp_20 : CPow 10 20 = True := eq_true ⟨by decide, by decide, by decide⟩
theorem vp_20 : (10 : Int) ^ Int.toNat 20 = 100000000000000000000 := by decide +kernel
theorem cp_40 : CPow 10 40 = True := eq_true ⟨by decide, by decide, by decide⟩
theorem vp_40 : (10 : Int) ^ Int.toNat 40 = 10000000000000000000000000000000000000000 := by decide +kernel
theorem cp_30 : CPow 10 30 = True := eq_true ⟨by decide, by decide, by decide⟩
theorem vp_30 : (10 : Int) ^ Int.toNat 30 = 1000000000000000000000000000000 := by decide +kernel
end Zed
end
section
set_option maxHeartbeats 4000000
/-! Zed14: classes: attributes, methods, new instances. -/
namespace Zed
open PySem PySem.Spec PyProof.Rows L2
/-- an attribute read -/
def attrD (m : Mu) (f : Str) : D → Option (Addr × D)
  | .obj C fs => (fs.lookup f).map fun d => (C, d)
  | .ref p => match m p with
    | some (.ins C fs) => (fs.lookup f).map fun d => (C, d)
    | _ => none
  | _ => none
def zattr (cs : List Addr) (f : Str) (a : ZTE) : ZTE := fun ρ m Q E => a ρ m (fun x m1 => match attrD m1 f x with
  | some (C, d) => C ∈ cs ∧ Q d m1
  | none => False) E
/-- an instance of the class at C, without an attribute of this name -/
def isObj (C : Addr) (nm : Str) (m : Mu) : D → Prop
  | .obj C' fs => C' = C ∧ fs.lookup nm = none
  | .ref p => match m p with
    | some (.ins C' fs) => C' = C ∧ fs.lookup nm = none
    | _ => False
  | _ => False
def zmeth (C : Addr) (nm : Str) (c : ZSp) (a : ZTE) (t : ZTA) : ZTE := fun ρ m Q E => a ρ m (fun x m1 => isObj C nm m1 x ∧ t ρ m1 (fun xs m2 => c (x :: xs) m2 Q E) E) E
def zmethK (C : Addr) (nm : Str) (c : List D → ZSp) (a : ZTE) (t u : ZTA) : ZTE := fun ρ m Q E => a ρ m (fun x m1 => isObj C nm m1 x ∧ t ρ m1 (fun xs m2 => u ρ m2 (fun zs m3 => c (x :: xs) zs m3 Q E) E) E) E
/-- o.f = e -/
def putD (f : Str) (d : D) : List (Str × D) → List (Str × D)
  | [] => [(f, d)]
  | (g, v) :: r => if g = f then (f, d) :: r else (g, v) :: putD f d r
def sfld (cs : List Addr) (a e : ZTE) (f : Str) : ZTS := fun Dz ρ m => e ρ m (fun d m1 => a ρ m1 (fun x m2 => match x with
  | .ref p => match m2 p with
    | some (.ins C fs) => C ∈ cs ∧ fs.length < 1000 ∧ Dz.nx ρ (updM m2 p (.ins C (putD f d fs)))
    | _ => False
  | _ => False) (xat Dz ρ)) (xat Dz ρ)
/-- C(..): what __init__ (c) makes of a new instance; it changes no more -/
def mkC (C : Addr) (c : ZSp) : ZSp := fun ds m Q E => ∀ p, m p = none → c (.ref p :: ds) (updM m p (.ins C [])) (fun v m3 => v = .non ∧ ∃ fs, m3 p = some (.ins C fs) ∧ Q (.obj C fs) (dropM m3 p)) E
/-- .. it may change -/
def mkM (C : Addr) (c : ZSp) : ZSp := fun ds m Q E => ∀ p, m p = none → c (.ref p :: ds) (updM m p (.ins C [])) (fun v m3 => v = .non ∧ Q (.ref p) m3) E
structure ClF (K : PySem.W.Frag) (C : Addr) (f : Str) : Prop where
  cls : Cls K C
  no : NoAttr K C f
def GMeth (P : Program) (w : World) (K : PySem.W.Frag) (mg : Str → Option Value) (base : Heap) (k : Nat) (C : Addr) (nm : Str) (c : ZSp) : Prop :=
  Cls K C ∧ ∃ f fd ps dvs ds dd c0, Meth K C nm f ∧ FnOk P w K mg base (L2.CX P w) k f fd ps (SpOf K c0) ∧ Binds K fd ps ds ∧ Vals dvs ds ∧ Reps K (fun _ => none) dd dvs ∧ ∀ xs m Q E, c xs m Q E → c0 (xs ++ dd) m Q E
theorem GMeth.mono {P w K mg base j k C x c} (h : GMeth P w K mg base j C x c) (l : j ≤ k) : GMeth P w K mg base k C x c := by
  obtain ⟨h0, f, fd, ps, dvs, ds, dd, c0, h1, h3, h4⟩ := h
  exact ⟨h0, f, fd, ps, dvs, ds, dd, c0, h1, h3.mono l, h4⟩
/-- with n values by place (the instance first) and the words ks -/
def GMethK (P : Program) (w : World) (K : PySem.W.Frag) (mg : Str → Option Value) (base : Heap) (k : Nat) (C : Addr) (nm : Str) (n : Nat) (ks : List Str) (c : List D → ZSp) : Prop :=
  Cls K C ∧ ∃ f fd ps gv gV c0, Meth K C nm f ∧ FnOk P w K mg base (L2.CX P w) k f fd ps (SpOf K c0) ∧ KBn K fd ps n ks gv gV ∧
    ∀ Pi xs zs vs ws m Q E, Reps K Pi xs vs → Reps K Pi zs ws → c xs zs m Q E → xs.length = n ∧ zs.length = ks.length ∧ ∃ ds, Reps K Pi ds (gV vs ws) ∧ c0 ds m Q E
theorem GMethK.mono {P w K mg base j k C x n ks c} (h : GMethK P w K mg base j C x n ks c) (l : j ≤ k) : GMethK P w K mg base k C x n ks c := by
  obtain ⟨h0, f, fd, ps, gv, gV, c0, h1, h3, h4⟩ := h
  exact ⟨h0, f, fd, ps, gv, gV, c0, h1, h3.mono l, h4⟩
/-- the class by that name, made by place alone, and with n values (the instance first) and the words ks; c: its __init__'s promise -/
def GMake (P : Program) (w : World) (K : PySem.W.Frag) (mg : Str → Option Value) (base : Heap) (k : Nat) (x : Str) (C : Addr) (c : ZSp) : Prop :=
  ∃ f fd ps dvs ds dd c0, mg x = some (.ref C) ∧ Mk K C f ∧ FnOk P w K mg base (L2.CX P w) k f fd ps (SpOf K c0) ∧ Binds K fd ps ds ∧ Vals dvs ds ∧ Reps K (fun _ => none) dd dvs ∧ ∀ xs m Q E, c xs m Q E → c0 (xs ++ dd) m Q E
theorem GMake.mono {P w K mg base j k C x c} (h : GMake P w K mg base j x C c) (l : j ≤ k) : GMake P w K mg base k x C c := by
  obtain ⟨f, fd, ps, dvs, ds, dd, c0, h1, h2, h3, h4⟩ := h
  exact ⟨f, fd, ps, dvs, ds, dd, c0, h1, h2, h3.mono l, h4⟩
def GMakeK (P : Program) (w : World) (K : PySem.W.Frag) (mg : Str → Option Value) (base : Heap) (k : Nat) (x : Str) (C : Addr) (n : Nat) (ks : List Str) (c : List D → ZSp) : Prop :=
  ∃ f fd ps gv gV c0, mg x = some (.ref C) ∧ Mk K C f ∧ FnOk P w K mg base (L2.CX P w) k f fd ps (SpOf K c0) ∧ KBn K fd ps n ks gv gV ∧
    ∀ Pi xs zs vs ws m Q E, Reps K Pi xs vs → Reps K Pi zs ws → c xs zs m Q E → xs.length = n ∧ zs.length = ks.length ∧ ∃ ds, Reps K Pi ds (gV vs ws) ∧ c0 ds m Q E
theorem GMakeK.mono {P w K mg base j k C x n ks c} (h : GMakeK P w K mg base j x C n ks c) (l : j ≤ k) : GMakeK P w K mg base k x C n ks c := by
  obtain ⟨f, fd, ps, gv, gV, c0, h1, h2, h3, h4⟩ := h
  exact ⟨f, fd, ps, gv, gV, c0, h1, h2, h3.mono l, h4⟩
section
variable {K : PySem.W.Frag} {F : Hp} {m : Mu} {Pi P2 H H2 : Hp}
theorem attr_of_rep {f : Str} (z : Zm K F m Pi H) {d y : D} {v : V} {C : Addr} (r : Rep K Pi d v) (h : attrD m f d = some (C, y)) : ∃ a dx fs u, v = .ref a ∧ H a = some (.ins C dx fs) ∧ fs.lookup f = some u ∧ Rep K Pi y u := by
  cases r with
  | obj hp rs =>
    rename_i a C' dx kvs fs
    simp only [attrD] at h
    cases q : fs.lookup f with
    | none => rw [q] at h; cases h
    | some w =>
      rw [q] at h
      cases h
      obtain ⟨u, e, r⟩ := rs.lookup q
      exact ⟨a, dx, kvs, u, rfl, z.sub _ _ hp, e, r⟩
  | ref =>
    rename_i a
    simp only [attrD] at h
    cases e : m a with
    | none => rw [e] at h; cases h
    | some o =>
      rw [e] at h
      cases o with
      | ins C' fs =>
        dsimp only at h
        cases q : fs.lookup f with
        | none => rw [q] at h; cases h
        | some w =>
          rw [q] at h
          cases h
          obtain ⟨dx, kvs, hH, rs⟩ := z.ok a _ e
          obtain ⟨u, e2, r⟩ := rs.lookup q
          exact ⟨a, dx, kvs, u, rfl, hH, e2, r⟩
      | _ => cases h
  | _ => cases h
theorem obj_of_rep {nm : Str} {C : Addr} (z : Zm K F m Pi H) {d : D} {v : V} (r : Rep K Pi d v) (h : isObj C nm m d) : ∃ a dx fs, v = .ref a ∧ H a = some (.ins C dx fs) ∧ fs.lookup nm = none := by
  cases r with
  | obj hp rs =>
    rename_i a C' dx kvs fs
    obtain ⟨rfl, h⟩ := h
    exact ⟨a, dx, kvs, rfl, z.sub _ _ hp, rs.lookup_none h⟩
  | ref =>
    rename_i a
    simp only [isObj] at h
    cases e : m a with
    | none => rw [e] at h; exact h.elim
    | some o =>
      rw [e] at h
      cases o with
      | ins C' fs =>
        obtain ⟨rfl, h⟩ := h
        obtain ⟨dx, kvs, hH, rs⟩ := z.ok a _ e
        exact ⟨a, dx, kvs, rfl, hH, rs.lookup_none h⟩
      | _ => exact h.elim
  | _ => exact h.elim
theorem putD_rep {f : Str} {d : D} {v : V} (r : Rep K Pi d v) : ∀ {fs kvs}, RepF K Pi fs kvs → RepF K Pi (putD f d fs) (putF f v kvs)
  | _, _, .nil => .cons r .nil
  | (g, d') :: fs, (_, v') :: kvs, .cons r1 t => by
    show RepF K Pi (if g = f then (f, d) :: fs else (g, d') :: putD f d fs) (putF f v ((g, v') :: kvs))
    unfold putF
    by_cases e : g = f
    · rw [if_pos e]
      subst e
      first
        | (rw [if_pos rfl]; exact .cons r t)
        | (simp only [beq_self_eq_true, if_true]; exact .cons r t)
    · rw [if_neg e]
      first
        | (rw [if_neg e]; exact .cons r1 (putD_rep r t))
        | (rw [if_neg (by simpa using e)]; exact .cons r1 (putD_rep r t))
end
section
variable {X : Cx} {W : WX} {pos pos' apos p kpos : Pos} {e o : Expr} {es : List Expr} {zo ze : ZTE} {t u : ZTA} {c : ZSp} {c2 : List D → ZSp} {k n : Nat} {x nm f : Str} {ks : List Str} {kws : List Keyword} {C : Addr} {cs : List Addr}
theorem r_attr (hc : ∀ C ∈ cs, ClF X.K C f) (he : PE X o (LE X.K W zo)) (hb : attributeBase o f X.env (eval o X.env) = eval o X.env := by rfl) : PE X (.Attribute o f pos) (LE X.K W (zattr cs f zo)) := by
  refine pe_imp (pe_fld he hb) fun σ H Q ⟨F, ρ, m, Pi, Qz, Ez, hz, he, h, k, kx⟩ => ?_
  refine ⟨F, ρ, m, Pi, _, Ez, hz, he, h, fun x m1 P1 v H1 l1 z1 r1 q1 => ?_, kx⟩
  dsimp only at q1
  cases q : attrD m1 f x with
  | none => rw [q] at q1; exact q1.elim
  | some pr =>
    obtain ⟨C, y⟩ := pr
    rw [q] at q1
    obtain ⟨a, dx, fs, u, rfl, hH, hl, ry⟩ := attr_of_rep z1 r1 q
    exact ⟨a, C, dx, fs, u, rfl, hH, (hc C q1.1).cls, (hc C q1.1).no, hl, k _ m1 P1 _ H1 l1 z1 ry q1.2⟩
theorem r_fld (hc : ∀ C ∈ cs, ClF X.K C f) (ho : PE X o (LE X.K W zo)) (he : PE X e (LE X.K W ze)) (hs : swapsWith e (some (.Attribute o f pos')) pos.line X.env = pure false := by rfl) : PS X (.Assign [.Attribute o f pos'] e pos) (LS X.K W (sfld cs zo ze f)) := by
  refine ps_imp (ps_fld ho he hs) fun Dv σ H ⟨F, ρ, m, Pi, Dz, hz, he, h, kn, kr, kx⟩ => ?_
  refine ⟨F, ρ, m, Pi, _, _, hz, he, h, fun d m1 P1 v H1 l1 z1 r1 q1 => ?_, kx.at' he⟩
  refine ⟨F, ρ, m1, P1, _, _, z1, he.mono l1, q1, fun x m2 P2 w H2 l2 z2 r2 q2 => ?_, (kx.at' he).mono l1⟩
  cases r2 with
  | ref =>
    rename_i a
    dsimp only at q2
    cases q : m2 a with
    | none => rw [q] at q2; exact q2.elim
    | some o =>
      rw [q] at q2
      cases o with
      | ins C fs =>
        obtain ⟨hC, hl, q3⟩ := q2
        obtain ⟨dx, kvs, hH, rs⟩ := z2.ok a _ q
        refine ⟨a, C, dx, kvs, rfl, hH, (hc C hC).cls, (hc C hC).no, by rw [← rs.length]; exact hl, ?_⟩
        exact kn ρ _ P2 σ _ (l1.trans l2) (z2.setMu (u := .ins C (putD f d fs)) q ⟨dx, _, upd_same, putD_rep (r1.mono l2) rs⟩) (he.mono (l1.trans l2)) q3
      | _ => exact q2.elim
  | _ => exact q2.elim
theorem r_meth {pl : Sem Bool} (g : GMeth X.prog X.w X.K X.mg X.base k C nm c) (hr : Room k X.A) (tk : Takes X W) (ho : PE X o (LE X.K W zo)) (ha : PA X (e :: es) (LA X.K W t))
    (hst : starEach (e :: es) X.env = (false, eval e X.env) :: starEach es X.env := by rfl) (hpl : (backTo pos (starEach es X.env)).any (·.1) = false := by rfl)
    (ht : eval (.Call (.Attribute o nm apos) (e :: es) [] pos) X.env = (do
      let ov ← eval o X.env
      standAt apos.atName
      let (f, first) ← holding [ov] (getMethod ov nm pl)
      callWith pos f first (backTo pos (starEach (e :: es) X.env)) (backToKw pos (keywordEach [] X.env))) := by rfl) :
    PE X (.Call (.Attribute o nm apos) (e :: es) [] pos) (LE X.K W (zmeth C nm c zo t)) := by
  obtain ⟨hcl, f, fd, ps, dvs, ds, dd, c0, h1, h3, h4, h5, h6, h7⟩ := g
  refine ⟨fun pins s σ H Q I ⟨F, ρ, m, Pi, Qz, Ez, hz, hE, h, kq, kx⟩ => ?_⟩
  have hB : LE X.K W zo σ H (fun x H1 => ∃ a dx fs, x = .ref a ∧ H1 a = some (.ins C dx fs) ∧ fs.lookup nm = none ∧ LA X.K W t σ H1 (fun vs H2 => SpOf X.K c0 ((x :: vs) ++ dvs) H2 Q (WE W σ))) := by
    refine ⟨F, ρ, m, Pi, _, Ez, hz, hE, h, fun x m1 P1 v H1 l1 z1 r1 ⟨q0, q1⟩ => ?_, kx⟩
    obtain ⟨a, dx, fs, ev, hH, hl⟩ := obj_of_rep z1 r1 q0
    exact ⟨a, dx, fs, ev, hH, hl, F, ρ, m1, P1, _, Ez, z1, hE.mono l1, q1, fun xs m2 P2 vs H2 l2 z2 r2 q2 => ⟨(x :: xs) ++ dd, F, m2, P2, Qz, Ez, z2, Reps.append (.cons (r1.mono l2) r2) (h6.mono PLe.bot), h7 _ _ _ _ q2, kq.mono (l1.trans l2), kx.mono (l1.trans l2)⟩, kx.mono l1⟩
  refine PySem.W.methodCall_KW (pl := pl) (thn (ho.run pins s σ H _ I hB) fun u s1 ⟨x, H1, I1, rx, a, dx, fs, ex, ea, l, q⟩ => ?_) ht
  subst ex
  obtain rfl : u = Value.ref a := rx
  refine getmeth_ok I1 ea hcl h1 l ?_
  refine PySem.W.callWith_K (first := [.ref a]) (h₀ := X.base) I.ok.mod.kin h1.kp (thn (ha.run pos pins s1 σ H1 _ I1 q) fun us s2 ⟨vs, H2, I2, r, q2⟩ => ⟨I2.kIn, ?_⟩) hst hpl
  exact run_fnSD (E := WE W) (us := .ref a :: us) (vs := .ref a :: vs) h3 hr h4 h5 (passAt tk σ) I2 (.cons rfl r) q2
theorem r_meth0 {pl : Sem Bool} (g : GMeth X.prog X.w X.K X.mg X.base k C nm c) (hr : Room k X.A) (tk : Takes X W) (ho : PE X o (LE X.K W zo))
    (ht : eval (.Call (.Attribute o nm apos) [] [] pos) X.env = (do
      let ov ← eval o X.env
      standAt apos.atName
      let (f, first) ← holding [ov] (getMethod ov nm pl)
      callWith pos f first (backTo pos (starEach [] X.env)) (backToKw pos (keywordEach [] X.env))) := by rfl) :
    PE X (.Call (.Attribute o nm apos) [] [] pos) (LE X.K W (zmeth C nm c zo anil)) := by
  obtain ⟨hcl, f, fd, ps, dvs, ds, dd, c0, h1, h3, h4, h5, h6, h7⟩ := g
  refine ⟨fun pins s σ H Q I ⟨F, ρ, m, Pi, Qz, Ez, hz, hE, h, kq, kx⟩ => ?_⟩
  have hB : LE X.K W zo σ H (fun x H1 => ∃ a dx fs, x = .ref a ∧ H1 a = some (.ins C dx fs) ∧ fs.lookup nm = none ∧ SpOf X.K c0 ([x] ++ dvs) H1 Q (WE W σ)) := by
    refine ⟨F, ρ, m, Pi, _, Ez, hz, hE, h, fun x m1 P1 v H1 l1 z1 r1 ⟨q0, q1⟩ => ?_, kx⟩
    obtain ⟨a, dx, fs, ev, hH, hl⟩ := obj_of_rep z1 r1 q0
    exact ⟨a, dx, fs, ev, hH, hl, [x] ++ dd, F, m1, P1, Qz, Ez, z1, Reps.append (.cons r1 .nil) (h6.mono PLe.bot), h7 _ _ _ _ q1, kq.mono l1, kx.mono l1⟩
  refine PySem.W.methodCall_KW (pl := pl) (thn (ho.run pins s σ H _ I hB) fun u s1 ⟨x, H1, I1, rx, a, dx, fs, ex, ea, l, q⟩ => ?_) ht
  subst ex
  obtain rfl : u = Value.ref a := rx
  refine getmeth_ok I1 ea hcl h1 l ?_
  exact PySem.W.callWith_K0 (first := [.ref a]) I1.kIn h1.kp (run_fnSD (E := WE W) (us := [.ref a]) (vs := [.ref a]) h3 hr h4 h5 (passAt tk σ) I1 (.cons rfl .nil) q)
theorem run_kw {pins : List (Addr × Obj)} {σ : St} {H : Hp} {s : Shared} {Q : VK} {us ws : List Value} {vs zs : List V} {ps : List Str} {f : Addr} {fd : FuncData} {c0 : ZSp} {gv : List Value → List Value → List Value} {gV : List V → List V → List V} (tk : Takes X W) (hr : Room k X.A)
    (h3 : FnOk X.prog X.w X.K X.mg X.base (L2.CX X.prog X.w) k f fd ps (SpOf X.K c0)) (hb : KBn X.K fd ps n ks gv gV) (I : Inv X pins σ H s) (r1 : Vals vs us) (r2 : Vals zs ws) (l1 : vs.length = n) (l2 : zs.length = ks.length) (q : SpOf X.K c0 (gV vs zs) H Q (WE W σ)) :
    wpAny (model X.prog X.w) X.A (call (.ref f) us (ks.zip ws)) (EP X pins σ Q) X.xe s := by
  refine wpAny_call (codeAny_mono (h3.run X.A X.stack s H ⟨us, ks.zip ws⟩ (gv us ws) (gV vs zs) Q (WE W σ) hr I.env0 (hb.to s us ws I.kIn (r1.length.symm.trans l1) (r2.length.symm.trans l2)) (hb.rel r1 r2) q) fun r s' hq => ?_)
  match r, hq with
  | .error e, hq => exact passAt tk σ pins H s e s' I hq
  | .ok (.ret u), hq => exact I.after hq
  | .ok .next, hq => exact hq.elim
  | .ok .brk, hq => exact hq.elim
  | .ok .cont, hq => exact hq.elim
theorem r_methK {pl : Sem Bool} (g : GMethK X.prog X.w X.K X.mg X.base k C nm n ks c2) (hr : Room k X.A) (tk : Takes X W) (ho : PE X o (LE X.K W zo)) (ha : PA X (e :: es) (LA X.K W t)) (hkw : PK X kws (LA X.K W u))
    (hks : (backToKw pos (keywordEach kws X.env)).filterMap (·.1) = ks := by rfl) (hall : (backToKw pos (keywordEach kws X.env)).all (·.1.isSome) = true := by rfl)
    (he : starEach (e :: es) X.env = (false, eval e X.env) :: starEach es X.env := by rfl) (hpl : ((backTo pos (starEach (e :: es) X.env)).any (·.1) || (backToKw pos (keywordEach kws X.env)).any (·.1.isNone)) = false := by rfl)
    (ht : eval (.Call (.Attribute o nm apos) (e :: es) kws pos) X.env = (do
      let ov ← eval o X.env
      standAt apos.atName
      let (f, first) ← holding [ov] (getMethod ov nm pl)
      callWith pos f first (backTo pos (starEach (e :: es) X.env)) (backToKw pos (keywordEach kws X.env))) := by rfl) :
    PE X (.Call (.Attribute o nm apos) (e :: es) kws pos) (LE X.K W (zmethK C nm c2 zo t u)) := by
  obtain ⟨hcl, f, fd, ps, gv, gV, c0, h1, h3, hb, h5⟩ := g
  refine ⟨fun pins s σ H Q I ⟨F, ρ, m, Pi, Qz, Ez, hz, hE, h, kq, kx⟩ => ?_⟩
  have hB : LE X.K W zo σ H (fun x H1 => ∃ a dx fs, x = .ref a ∧ H1 a = some (.ins C dx fs) ∧ fs.lookup nm = none ∧ LA X.K W t σ H1 (fun vs H2 => LA X.K W u σ H2 fun ws H3 => ∃ l1 : (x :: vs).length = n, ∃ l2 : ws.length = ks.length, SpOf X.K c0 (gV (x :: vs) ws) H3 Q (WE W σ))) := by
    refine ⟨F, ρ, m, Pi, _, Ez, hz, hE, h, fun x m1 P1 v H1 l1 z1 r1 ⟨q0, q1⟩ => ?_, kx⟩
    obtain ⟨a, dx, fs, ev, hH, hl⟩ := obj_of_rep z1 r1 q0
    refine ⟨a, dx, fs, ev, hH, hl, F, ρ, m1, P1, _, Ez, z1, hE.mono l1, q1, fun xs m2 P2 vs H2 l2 z2 r2 q2 => ⟨F, ρ, m2, P2, _, Ez, z2, (hE.mono l1).mono l2, q2, fun zs m3 P3 ws H3 l3 z3 r3 q3 => ?_, (kx.mono l1).mono l2⟩, kx.mono l1⟩
    obtain ⟨e1, e2, ds, r4, q4⟩ := h5 P3 (x :: xs) zs (v :: vs) ws m3 Qz Ez (.cons ((r1.mono l2).mono l3) (r2.mono l3)) r3 q3
    refine ⟨by rw [← e1]; exact congrArg Nat.succ r2.length.symm, by rw [← r3.length]; exact e2, ds, F, m3, P3, Qz, Ez, z3, r4, q4, kq.mono ((l1.trans l2).trans l3), kx.mono ((l1.trans l2).trans l3)⟩
  refine PySem.W.methodCall_KW (pl := pl) (thn (ho.run pins s σ H _ I hB) fun u s1 ⟨x, H1, I1, rx, a, dx, fs, ex, ea, l, q⟩ => ?_) ht
  subst ex
  obtain rfl : u = Value.ref a := rx
  refine getmeth_ok I1 ea hcl h1 l ?_
  refine PySem.W.callWith_KW (first := [.ref a]) (h₀ := X.base) I.ok.mod.kin h1.kp hall (thn (ha.run pos pins s1 σ H1 _ I1 q) fun us s2 hs2 => ?_) hpl he
  obtain ⟨vs, H2, I2, r, q2⟩ := hs2
  refine thn (hkw.run pos pins s2 σ H2 _ I2 q2) fun ws s3 hs3 => ?_
  obtain ⟨zs, H3, I3, r3, l1, l2, q3⟩ := hs3
  refine ⟨I3.kIn, ?_⟩
  rw [hks]
  exact run_kw (us := .ref a :: us) (vs := .ref a :: vs) tk hr h3 hb I3 (.cons rfl r) r3 l1 l2 q3
end
end Zed
end
section
set_option maxHeartbeats 4000000
/-! Zed15: new instances; a written dict read; a local that is a def. -/
namespace Zed
open PySem PySem.Spec PyProof.Rows L2
theorem Zm.more {K : PySem.W.Frag} {F : Hp} {m : Mu} {Pi H : Hp} (z : Zm K F m Pi H) {p : Addr} (hp : H p = none) (o : HO) : Zm K F m Pi (upd H p o) := by
  refine ⟨fun b u e => ?_, fun b u e => ?_, z.fdis, z.fpd, z.dis, fun b u e => ?_⟩
  · rw [upd_ne (ne_of_none (z.sub b u e) hp)]; exact z.sub b u e
  · rw [upd_ne (ne_of_none (z.frm b u e) hp)]; exact z.frm b u e
  · have k := z.ok b u e
    have hb : b ≠ p := fun q => by subst q; exact k.isSome hp
    exact k.heap (upd_ne hb)
/-- the level is the call's: one above its __init__'s -/
def GMk (P : Program) (w : World) (K : PySem.W.Frag) (mg : Str → Option Value) (base : Heap) (k : Nat) (x : Str) (C : Addr) (c : ZSp) : Prop := ∃ j, j + 1 ≤ k ∧ GMake P w K mg base j x C c
theorem GMk.mono {P w K mg base j k x C c} (h : GMk P w K mg base j x C c) (l : j ≤ k) : GMk P w K mg base k x C c := by
  obtain ⟨i, h1, h2⟩ := h
  exact ⟨i, Nat.le_trans h1 l, h2⟩
def GMkK (P : Program) (w : World) (K : PySem.W.Frag) (mg : Str → Option Value) (base : Heap) (k : Nat) (x : Str) (C : Addr) (n : Nat) (ks : List Str) (c : List D → ZSp) : Prop := ∃ j, j + 1 ≤ k ∧ GMakeK P w K mg base j x C n ks c
theorem GMkK.mono {P w K mg base j k x C n ks c} (h : GMkK P w K mg base j x C n ks c) (l : j ≤ k) : GMkK P w K mg base k x C n ks c := by
  obtain ⟨i, h1, h2⟩ := h
  exact ⟨i, Nat.le_trans h1 l, h2⟩
/-- with words: c tells of the instance's place, the values, the words' values -/
def mkCK (C : Addr) (c : List D → ZSp) : List D → ZSp := fun ds zs m Q E => ∀ p, m p = none → c (.ref p :: ds) zs (updM m p (.ins C [])) (fun v m3 => v = .non ∧ ∃ fs, m3 p = some (.ins C fs) ∧ Q (.obj C fs) (dropM m3 p)) E
def mkMK (C : Addr) (c : List D → ZSp) : List D → ZSp := fun ds zs m Q E => ∀ p, m p = none → c (.ref p :: ds) zs (updM m p (.ins C [])) (fun v m3 => v = .non ∧ Q (.ref p) m3) E
section
variable {X : Cx} {W : WX}
theorem make_run {pins : List (Addr × Obj)} {σ : St} {H : Hp} {s : Shared} {Q : VK} {k : Nat} {f C : Addr} {fd : FuncData} {ps : List Str} {sp : Sp} {args : Args} {us : List Value} {args1 : List Value} {kw : List (Str × Value)} {vs : List V} (M : Mk X.K C f) (F : FnOk X.prog X.w X.K X.mg X.base (L2.CX X.prog X.w) k f fd ps sp) (hr : Room (k + 1) X.A) (tk : Takes X W)
    (I : Inv X pins σ H s) (hb : ∀ s2 : Shared, X.K.In s2.heap → BindsTo s2 fd ⟨Value.ref (s.heap.objs.size + 1) :: args1, kw⟩ (ps.zip us)) (r : Vals vs us)
    (h : sp vs (upd (upd H s.heap.objs.size (.own (s.heap.objs.size + 1))) (s.heap.objs.size + 1) (.ins C s.heap.objs.size [])) (fun v H2 => v = .non ∧ Q (.ref (s.heap.objs.size + 1)) H2) (WE W σ)) :
    wpAny (model X.prog X.w) X.A (call (.ref C) args1 kw) (EP X pins σ Q) X.xe s := by
  have I2 := Inv.made (C := C) I
  refine wpAny_call (make_map (f := f) I.kIn M.makes M.init (beq_iff_eq.mp M.fn) (codeAny_mono (F.run _ X.stack _ _ ⟨Value.ref (s.heap.objs.size + 1) :: args1, kw⟩ us vs _ (WE W σ) (hr.make C args1 kw)
    (I2.env0.make C args1 kw) (hb _ I2.kIn) r h) fun r s' hq' => ?_))
  cases r with
  | error e => exact passAt tk σ pins _ _ e s' I2 hq'
  | ok fl =>
    cases fl with
    | ret u =>
      obtain ⟨v, H', I3, rv, ev, q3⟩ := I2.after hq'
      subst ev
      exact ⟨rv, ⟨V.ref (s.heap.objs.size + 1), H', I3, rfl, q3⟩⟩
    | next => exact False.elim hq'
    | brk => exact False.elim hq'
    | cont => exact False.elim hq'
/-- what __init__ leaves, sealed or not -/
theorem made_seal {K : PySem.W.Frag} {F Pi : Hp} {C x : Addr} {Qz : QE} {Q : VK} (k : ContE K F Pi Qz Q) : ContE K F Pi (fun v m3 => v = .non ∧ ∃ fs, m3 x = some (.ins C fs) ∧ Qz (.obj C fs) (dropM m3 x)) (fun v H2 => v = .non ∧ Q (.ref x) H2) := by
  intro d m' P' v H' l z r ⟨ed, fs, hm, q⟩
  subst ed
  cases r
  refine ⟨rfl, ?_⟩
  obtain ⟨dx, kvs, hH, rs⟩ := z.ok x _ hm
  obtain ⟨z2, l2⟩ := z.seal hm hH
  exact k _ _ _ _ _ (l.trans l2) z2 (.obj upd_same (rs.mono l2)) q
theorem made_open {K : PySem.W.Frag} {F Pi : Hp} {x : Addr} {Qz : QE} {Q : VK} (k : ContE K F Pi Qz Q) : ContE K F Pi (fun v m3 => v = .non ∧ Qz (.ref x) m3) (fun v H2 => v = .non ∧ Q (.ref x) H2) := by
  intro d m' P' v H' l z r ⟨ed, q⟩
  subst ed
  cases r
  exact ⟨rfl, k _ _ _ _ _ l z .ref q⟩
variable {pos p : Pos} {e : Expr} {es : List Expr} {t u : ZTA} {c : ZSp} {c2 : List D → ZSp} {k n : Nat} {x : Str} {ks : List Str} {kws : List Keyword} {C : Addr}
theorem made_zm {K : PySem.W.Frag} {F : Hp} {m : Mu} {Pi H : Hp} (z : Zm K F m Pi H) {a dx : Addr} (ha : H a = none) (hd : H dx = none) (hn : dx ≠ a) : Zm K F (updM m a (.ins C [])) Pi (upd (upd H dx (.own a)) a (.ins C dx [])) :=
  (z.more hd (.own a)).newMu (u := .ins C []) (by rw [upd_ne hn.symm]; exact ha) ⟨dx, [], upd_same, .nil⟩
theorem r_makeX (G : ZSp → QE → Prop) (g : GMk X.prog X.w X.K X.mg X.base k x C c) (hr : Room k X.A) (tk : Takes X W) (ha : PA X (e :: es) (LA X.K W t)) (cc : ZSp)
    (hcc : ∀ {K : PySem.W.Frag} {F Pi : Hp} {ds : List D} {m : Mu} {Qz : QE} {Ez : QX} {Q : VK} {a : Addr}, m a = none → cc ds m Qz Ez → ContE K F Pi Qz Q → ∃ Qz2, c (.ref a :: ds) (updM m a (.ins C [])) Qz2 Ez ∧ ContE K F Pi Qz2 (fun v H2 => v = .non ∧ Q (.ref a) H2))
    (hg : Gl X x := by rfl) (hdb : (x == ("__debug__" : Str)) = false := by decide)
    (he : starEach (e :: es) X.env = (false, eval e X.env) :: starEach es X.env := by rfl) (hpl : (backTo pos (starEach es X.env)).any (·.1) = false := by rfl) : PE X (.Call (.Name x p) (e :: es) [] pos) (LE X.K W (zcall cc t)) := by
  obtain ⟨j, hj, f, fd, ps, dvs, ds, dd, c0, h1, M, h3, h4, h5, h6, h7⟩ := g
  refine ⟨fun pins s σ H Q I ⟨F, ρ, m, Pi, Qz, Ez, hz, hE, h, kq, kx⟩ => ?_⟩
  have hB : LA X.K W t σ H (fun vs H1 => ∀ a dx, H1 a = none → H1 dx = none → dx ≠ a → SpOf X.K c0 ((V.ref a :: vs) ++ dvs) (upd (upd H1 dx (.own a)) a (.ins C dx [])) (fun v H2 => v = .non ∧ Q (.ref a) H2) (WE W σ)) := by
    refine ⟨F, ρ, m, Pi, _, Ez, hz, hE, h, fun xs m1 P1 vs H1 l1 z1 r1 q1 => fun a dx na nd hn => ?_, kx⟩
    obtain ⟨Qz2, q2, k2⟩ := hcc (K := X.K) (F := F) (Pi := P1) (z1.free na).1 q1 (kq.mono l1)
    exact ⟨(.ref a :: xs) ++ dd, F, _, P1, Qz2, Ez, made_zm z1 na nd hn, Reps.append (.cons .ref r1) (h6.mono PLe.bot), h7 _ _ _ _ q2, k2, kx.mono l1⟩
  refine wpAny_Call_Name_kw (ld_glob I hg h1 ?_ hdb)
  refine PySem.W.callWith_K (h₀ := X.base) I.ok.mod.kin M.kp (thn (ha.run pos pins s σ H _ I hB) fun us s1 ⟨vs, H1, I1, r, q⟩ => ⟨I1.kIn, ?_⟩) he hpl
  have q' := q (s1.heap.objs.size + 1) s1.heap.objs.size (I1.hok.fresh (Nat.le_succ _)) (I1.hok.fresh (Nat.le_refl _)) (Nat.ne_of_lt (Nat.lt_succ_self _))
  have r2 : Vals ((V.ref (s1.heap.objs.size + 1) :: vs) ++ dvs) ((Value.ref (s1.heap.objs.size + 1) :: us) ++ ds) := Vals.append (.cons rfl r) h5
  have hl : ((Value.ref (s1.heap.objs.size + 1) :: us) ++ ds).length = ps.length := by rw [← r2.length]; exact h3.len _ _ _ _ q'
  exact make_run (args := ⟨[], []⟩) M h3 (hr.mono hj) tk I1 (fun s2 hk => h4 s2 (Value.ref (s1.heap.objs.size + 1) :: us) hk hl) r2 q'
/-- C(e, ..), an instance that changes no more -/
theorem r_make (g : GMk X.prog X.w X.K X.mg X.base k x C c) (hr : Room k X.A) (tk : Takes X W) (ha : PA X (e :: es) (LA X.K W t)) (hg : Gl X x := by rfl) (hdb : (x == ("__debug__" : Str)) = false := by decide)
    (he : starEach (e :: es) X.env = (false, eval e X.env) :: starEach es X.env := by rfl) (hpl : (backTo pos (starEach es X.env)).any (·.1) = false := by rfl) : PE X (.Call (.Name x p) (e :: es) [] pos) (LE X.K W (zcall (mkC C c) t)) :=
  r_makeX (fun _ _ => True) g hr tk ha (mkC C c) (fun hn hq k => ⟨_, hq _ hn, made_seal k⟩) hg hdb he hpl
theorem r_makeM (g : GMk X.prog X.w X.K X.mg X.base k x C c) (hr : Room k X.A) (tk : Takes X W) (ha : PA X (e :: es) (LA X.K W t)) (hg : Gl X x := by rfl) (hdb : (x == ("__debug__" : Str)) = false := by decide)
    (he : starEach (e :: es) X.env = (false, eval e X.env) :: starEach es X.env := by rfl) (hpl : (backTo pos (starEach es X.env)).any (·.1) = false := by rfl) : PE X (.Call (.Name x p) (e :: es) [] pos) (LE X.K W (zcall (mkM C c) t)) :=
  r_makeX (fun _ _ => True) g hr tk ha (mkM C c) (fun hn hq k => ⟨_, hq _ hn, made_open k⟩) hg hdb he hpl
theorem r_makeKX (g : GMkK X.prog X.w X.K X.mg X.base k x C (n + 1) ks c2) (hr : Room k X.A) (tk : Takes X W) (ha : PA X (e :: es) (LA X.K W t)) (hkw : PK X kws (LA X.K W u)) (cc : List D → ZSp)
    (hcc : ∀ {K : PySem.W.Frag} {F Pi : Hp} {ds zs : List D} {m : Mu} {Qz : QE} {Ez : QX} {Q : VK} {a : Addr}, m a = none → cc ds zs m Qz Ez → ContE K F Pi Qz Q → ∃ Qz2, c2 (.ref a :: ds) zs (updM m a (.ins C [])) Qz2 Ez ∧ ContE K F Pi Qz2 (fun v H2 => v = .non ∧ Q (.ref a) H2))
    (hks : (backToKw pos (keywordEach kws X.env)).filterMap (·.1) = ks := by rfl) (hall : (backToKw pos (keywordEach kws X.env)).all (·.1.isSome) = true := by rfl)
    (hg : Gl X x := by rfl) (hdb : (x == ("__debug__" : Str)) = false := by decide) (he : starEach (e :: es) X.env = (false, eval e X.env) :: starEach es X.env := by rfl)
    (hpl : ((backTo pos (starEach (e :: es) X.env)).any (·.1) || (backToKw pos (keywordEach kws X.env)).any (·.1.isNone)) = false := by rfl) : PE X (.Call (.Name x p) (e :: es) kws pos) (LE X.K W (zcallK cc t u)) := by
  obtain ⟨j, hj, f, fd, ps, gv, gV, c0, h1, M, h3, hb, h5⟩ := g
  refine ⟨fun pins s σ H Q I ⟨F, ρ, m, Pi, Qz, Ez, hz, hE, h, kq, kx⟩ => ?_⟩
  have hB : LA X.K W t σ H (fun vs H1 => LA X.K W u σ H1 fun ws H2 => ∀ a dx, H2 a = none → H2 dx = none → dx ≠ a → ∃ l1 : (V.ref a :: vs).length = n + 1, ∃ l2 : ws.length = ks.length,
      SpOf X.K c0 (gV (V.ref a :: vs) ws) (upd (upd H2 dx (.own a)) a (.ins C dx [])) (fun v H2 => v = .non ∧ Q (.ref a) H2) (WE W σ)) := by
    refine ⟨F, ρ, m, Pi, _, Ez, hz, hE, h, fun xs m1 P1 vs H1 l1 z1 r1 q1 => ⟨F, ρ, m1, P1, _, Ez, z1, hE.mono l1, q1, fun zs m2 P2 ws H2 l2 z2 r2 q2 => fun a dx na nd hn => ?_, kx.mono l1⟩, kx⟩
    obtain ⟨Qz2, q3, k2⟩ := hcc (K := X.K) (F := F) (Pi := P2) (z2.free na).1 q2 (kq.mono (l1.trans l2))
    obtain ⟨e1, e2, ds, r4, q4⟩ := h5 P2 (.ref a :: xs) zs (.ref a :: vs) ws _ Qz2 Ez (.cons .ref (r1.mono l2)) r2 q3
    exact ⟨by rw [← e1]; exact congrArg Nat.succ r1.length.symm, by rw [← r2.length]; exact e2, ds, F, _, P2, Qz2, Ez, made_zm z2 na nd hn, r4, q4, k2, kx.mono (l1.trans l2)⟩
  refine wpAny_Call_Name_kw (ld_glob I hg h1 ?_ hdb)
  refine PySem.W.callWith_KW (h₀ := X.base) I.ok.mod.kin M.kp hall (thn (ha.run pos pins s σ H _ I hB) fun us s1 hs1 => ?_) hpl he
  obtain ⟨vs, H1, I1, r1, q1⟩ := hs1
  refine thn (hkw.run pos pins s1 σ H1 _ I1 q1) fun ws s2 hs2 => ?_
  obtain ⟨zs, H2, I2, r2, q2⟩ := hs2
  refine ⟨I2.kIn, ?_⟩
  rw [hks]
  obtain ⟨l1, l2, q3⟩ := q2 (s2.heap.objs.size + 1) s2.heap.objs.size (I2.hok.fresh (Nat.le_succ _)) (I2.hok.fresh (Nat.le_refl _)) (Nat.ne_of_lt (Nat.lt_succ_self _))
  have rr : Vals (V.ref (s2.heap.objs.size + 1) :: vs) (Value.ref (s2.heap.objs.size + 1) :: us) := .cons rfl r1
  exact make_run (args := ⟨[], []⟩) M h3 (hr.mono hj) tk I2 (fun s3 hk => hb.to s3 (Value.ref (s2.heap.objs.size + 1) :: us) ws hk (rr.length.symm.trans l1) (r2.length.symm.trans l2)) (hb.rel rr r2) q3
theorem r_makeK (g : GMkK X.prog X.w X.K X.mg X.base k x C (n + 1) ks c2) (hr : Room k X.A) (tk : Takes X W) (ha : PA X (e :: es) (LA X.K W t)) (hkw : PK X kws (LA X.K W u))
    (hks : (backToKw pos (keywordEach kws X.env)).filterMap (·.1) = ks := by rfl) (hall : (backToKw pos (keywordEach kws X.env)).all (·.1.isSome) = true := by rfl)
    (hg : Gl X x := by rfl) (hdb : (x == ("__debug__" : Str)) = false := by decide) (he : starEach (e :: es) X.env = (false, eval e X.env) :: starEach es X.env := by rfl)
    (hpl : ((backTo pos (starEach (e :: es) X.env)).any (·.1) || (backToKw pos (keywordEach kws X.env)).any (·.1.isNone)) = false := by rfl) : PE X (.Call (.Name x p) (e :: es) kws pos) (LE X.K W (zcallK (mkCK C c2) t u)) :=
  r_makeKX g hr tk ha hkw (mkCK C c2) (fun hn hq k => ⟨_, hq _ hn, made_seal k⟩) hks hall hg hdb he hpl
end
/-! ### a written dict, by texts; a local that is a def -/
/-- the dict by that name: what stands at these keys -/
def GDict (K : PySem.W.Frag) (w : World) (mg : Str → Option Value) (x : Str) (tab : List (Str × D)) : Prop := ∃ a, mg x = some (.ref a) ∧ ∀ s d, tab.lookup s = some d → ∃ v, KDct K w a s v ∧ Rep K (fun _ => none) d v
def zdget (tab : List (Str × D)) (a : ZTE) : ZTE := fun ρ m Q E => a ρ m (fun x m1 => match x with
  | .str s => match tab.lookup s with
    | some d => Q d m1
    | none => False
  | _ => False) E
def GHeld (P : Program) (w : World) (K : PySem.W.Frag) (mg : Str → Option Value) (base : Heap) (k : Nat) (f : Addr) (c : ZSp) : Prop :=
  ∃ fd ps dvs ds dd c0, PySem.W.keepIn K (.ref f) = true ∧ FnOk P w K mg base (L2.CX P w) k f fd ps (SpOf K c0) ∧ Binds K fd ps ds ∧ Vals dvs ds ∧ Reps K (fun _ => none) dd dvs ∧ ∀ xs m Q E, c xs m Q E → c0 (xs ++ dd) m Q E
theorem GHeld.mono {P w K mg base j k f c} (h : GHeld P w K mg base j f c) (l : j ≤ k) : GHeld P w K mg base k f c := by
  obtain ⟨fd, ps, dvs, ds, dd, c0, h1, h2, h3⟩ := h
  exact ⟨fd, ps, dvs, ds, dd, c0, h1, h2.mono l, h3⟩
def zcallL (i : Nat) (cs : List (Addr × ZSp)) (t : ZTA) : ZTE := fun ρ m Q E => match ρ[i]? with
  | some (some (.ref f)) => ∃ c, (f, c) ∈ cs ∧ t ρ m (fun xs m1 => c xs m1 Q E) E
  | _ => False
section
variable {X : Cx} {W : WX} {pos p p1 : Pos} {e : Expr} {es : List Expr} {t : ZTA} {ze : ZTE} {k : Nat} {x nm : Str} {tab : List (Str × D)} {cs : List (Addr × ZSp)}
theorem r_dget (g : GDict X.K X.w X.mg nm tab) (he : PE X e (LE X.K W ze)) (hg : Gl X nm := by rfl) (hd : (nm == ("__debug__" : Str)) = false := by decide) (hs : PlainIx e := by exact fun _ _ => rfl) : PE X (.Subscript (.Name nm p) e pos) (LE X.K W (zdget tab ze)) := by
  obtain ⟨a, g1, g2⟩ := g
  refine pe_imp (pe_ix ix_kdict (pe_glob (v := .ref a) hg g1 rfl hd) he hs) fun σ H Q ⟨F, ρ, m, Pi, Qz, Ez, hz, he, h, k, kx⟩ => ?_
  refine ⟨F, ρ, m, Pi, _, Ez, hz, he, h, fun x m1 P1 v H1 l1 z1 r1 q1 => ?_, kx⟩
  cases r1 with
  | str =>
    rename_i s
    dsimp only at q1
    cases q : tab.lookup s with
    | none => rw [q] at q1; exact q1.elim
    | some d =>
      rw [q] at q1
      obtain ⟨v, kd, rv⟩ := g2 s d q
      exact ⟨a, s, v, rfl, rfl, kd, k _ m1 P1 _ H1 l1 z1 (rv.mono PLe.bot) q1⟩
  | _ => exact q1.elim
theorem r_callL (i : Nat) (g : ∀ pr ∈ cs, GHeld X.prog X.w X.K X.mg X.base k pr.1 pr.2) (hr : Room k X.A) (tk : Takes X W) (ha : PA X (e :: es) (LA X.K W t)) (hN : X.N[i]? = some x := by rfl) (hv : Vis X.env.scope x := by first | exact Or.inl rfl | exact Or.inr (Or.inl rfl) | exact Or.inr (Or.inr rfl))
    (hdb : (x == ("__debug__" : Str)) = false := by decide) (hcd : (x == ("__classdict__" : Str)) = false := by decide)
    (he : starEach (e :: es) X.env = (false, eval e X.env) :: starEach es X.env := by rfl) (hpl : (backTo pos (starEach es X.env)).any (·.1) = false := by rfl) : PE X (.Call (.Name x p) (e :: es) [] pos) (LE X.K W (zcallL i cs t)) := by
  refine ⟨fun pins s σ H Q I ⟨F, ρ, m, Pi, Qz, Ez, hz, hE, h, kq, kx⟩ => ?_⟩
  unfold zcallL at h
  split at h
  · rename_i f hf
    obtain ⟨c, hc, h⟩ := h
    obtain ⟨fd, ps, dvs, ds, dd, c0, h2, h3, h4, h5, h6, h7⟩ := g _ hc
    obtain ⟨v, hσ, rv⟩ := hE.2 i _ hf
    cases rv
    have hB : LA X.K W t σ H (fun vs H1 => SpOf X.K c0 (vs ++ dvs) H1 Q (WE W σ)) :=
      ⟨F, ρ, m, Pi, _, Ez, hz, hE, h, fun xs m1 P1 vs H1 l1 z1 r1 q1 => ⟨xs ++ dd, F, m1, P1, Qz, Ez, z1, Reps.append r1 (h6.mono PLe.bot), h7 _ _ _ _ q1, kq.mono l1, kx.mono l1⟩, kx⟩
    refine wpAny_Call_Name_kw (thn ((pe_var (pos := p) hN hv hdb hcd).run pins s σ H (fun v H1 => v = .ref f ∧ H1 = H) I ⟨.ref f, hσ, rfl, rfl⟩) fun u s1 ⟨v, H1, I1, r1, q1⟩ => ?_)
    obtain ⟨rfl, rfl⟩ := q1
    cases r1
    refine PySem.W.callWith_K (h₀ := X.base) I.ok.mod.kin h2 (thn (ha.run pos pins s1 σ _ _ I1 hB) fun us s2 ⟨vs, H2, I2, r, q⟩ => ⟨I2.kIn, ?_⟩) he hpl
    exact run_fnSD (E := WE W) h3 hr h4 h5 (passAt tk σ) I2 r q
  · exact h.elim
end
/-! ### from a def's promise to a method's, a class's, a held one's -/
section
variable {P : Program} {w : World} {K : PySem.W.Frag} {mg : Str → Option Value} {base : Heap} {k n : Nat} {x qual nm : Str} {args : Arguments} {body : List Stmt} {scope : Scope} {f C : Addr} {fd : FuncData} {ps : List Str} {c c0 : ZSp}
theorem m_mk (hc : Cls K C) (hm : Meth K C nm f) (F : FunD K x qual args body scope [] [] f fd) (ok : FnOk P w K mg base (L2.CX P w) k f fd ps (SpOf K c))
    (h : ∀ (kV doc pm : Value) (an : Option Addr) (cdv ct : Value) (us : List Value), us.length = ps.length → bindArgs (PySem.W.fnOf x qual args body scope .none kV doc pm an cdv ct) ⟨us, []⟩ = pure (ps.zip us)) : GMeth P w K mg base k C nm c :=
  ⟨hc, f, fd, ps, [], [], [], c, hm, ok, F.bindsN h, .nil, .nil, fun xs m Q E h => by rw [List.append_nil]; exact h⟩
theorem m_mkD {kws : List (Str × V)} {dd : List D} (hc : Cls K C) (hm : Meth K C nm f) (F : FunD K x qual args body scope [] kws f fd) (ok : FnOk P w K mg base (L2.CX P w) k f fd ps (SpOf K c0)) (n : Nat) (hk : kws ≠ []) (hn : n + kws.length = ps.length) (hd : Reps K (fun _ => none) dd (kws.map (·.2)))
    (h : ∀ (D : Addr) (doc pm : Value) (an : Option Addr) (cdv ct : Value) (us ks : List Value), us.length = n → ks.length = kws.length →
      KwChain D ((kws.map (·.1)).zip ks) (bindArgs (PySem.W.fnOf x qual args body scope .none (.ref D) doc pm an cdv ct) ⟨us, []⟩) (ps.zip (us ++ ks))) : GMeth P w K mg base k C nm (defC c0 dd) := by
  obtain ⟨ds, hv, hb⟩ := F.binds0 n hk hn h
  exact ⟨hc, f, fd, ps, _, ds, dd, c0, hm, ok, hb, hv, hd, fun xs m Q E h => h⟩
theorem m_mkK {kws : List (Str × V)} (hc : Cls K C) (hm : Meth K C nm f) (F : FunD K x qual args body scope [] kws f fd) (ok : FnOk P w K mg base (L2.CX P w) k f fd ps (SpOf K c0)) (n : Nat) (ks : List Str) (hk : kws ≠ [])
    (h : ∀ (D : Addr) (doc pm : Value) (an : Option Addr) (cdv ct : Value) (us ws : List Value), us.length = n → ws.length = ks.length →
      bindArgs (PySem.W.fnOf x qual args body scope .none (.ref D) doc pm an cdv ct) ⟨us, ks.zip ws⟩ = pure (ps.zip (us ++ ws))) : GMethK P w K mg base k C nm n ks (kwC c0 n ks.length) := by
  obtain ⟨mv, hb⟩ := F.kbinds0 n ks [] (fun us _ ws => us ++ ws) hk (fun q hq => by cases hq) (fun a _ c => a.append c) fun D doc pm an cdv ct us mv ws h1 _ h2 => h D doc pm an cdv ct us ws h1 h2
  exact ⟨hc, f, fd, ps, _, _, c0, hm, ok, hb, fun Pi xs zs vs ws m Q E r1 r2 h => ⟨h.1, h.2.1, xs ++ zs, r1.append r2, h.2.2⟩⟩
theorem k_mk (gx : mg x = some (.ref C)) (M : Mk K C f) (F : FunD K nm qual args body scope [] [] f fd) (ok : FnOk P w K mg base (L2.CX P w) k f fd ps (SpOf K c))
    (h : ∀ (kV doc pm : Value) (an : Option Addr) (cdv ct : Value) (us : List Value), us.length = ps.length → bindArgs (PySem.W.fnOf nm qual args body scope .none kV doc pm an cdv ct) ⟨us, []⟩ = pure (ps.zip us)) : GMk P w K mg base (k + 1) x C c :=
  ⟨k, Nat.le_refl _, f, fd, ps, [], [], [], c, gx, M, ok, F.bindsN h, .nil, .nil, fun xs m Q E h => by rw [List.append_nil]; exact h⟩
theorem k_mkD {kws : List (Str × V)} {dd : List D} (gx : mg x = some (.ref C)) (M : Mk K C f) (F : FunD K nm qual args body scope [] kws f fd) (ok : FnOk P w K mg base (L2.CX P w) k f fd ps (SpOf K c0)) (n : Nat) (hk : kws ≠ []) (hn : n + kws.length = ps.length) (hd : Reps K (fun _ => none) dd (kws.map (·.2)))
    (h : ∀ (D : Addr) (doc pm : Value) (an : Option Addr) (cdv ct : Value) (us ks : List Value), us.length = n → ks.length = kws.length →
      KwChain D ((kws.map (·.1)).zip ks) (bindArgs (PySem.W.fnOf nm qual args body scope .none (.ref D) doc pm an cdv ct) ⟨us, []⟩) (ps.zip (us ++ ks))) : GMk P w K mg base (k + 1) x C (defC c0 dd) := by
  obtain ⟨ds, hv, hb⟩ := F.binds0 n hk hn h
  exact ⟨k, Nat.le_refl _, f, fd, ps, _, ds, dd, c0, gx, M, ok, hb, hv, hd, fun xs m Q E h => h⟩
theorem k_mkK {kws : List (Str × V)} (gx : mg x = some (.ref C)) (M : Mk K C f) (F : FunD K nm qual args body scope [] kws f fd) (ok : FnOk P w K mg base (L2.CX P w) k f fd ps (SpOf K c0)) (n : Nat) (ks : List Str) (hk : kws ≠ [])
    (h : ∀ (D : Addr) (doc pm : Value) (an : Option Addr) (cdv ct : Value) (us ws : List Value), us.length = n → ws.length = ks.length →
      bindArgs (PySem.W.fnOf nm qual args body scope .none (.ref D) doc pm an cdv ct) ⟨us, ks.zip ws⟩ = pure (ps.zip (us ++ ws))) : GMkK P w K mg base (k + 1) x C n ks (kwC c0 n ks.length) := by
  obtain ⟨mv, hb⟩ := F.kbinds0 n ks [] (fun us _ ws => us ++ ws) hk (fun q hq => by cases hq) (fun a _ c => a.append c) fun D doc pm an cdv ct us mv ws h1 _ h2 => h D doc pm an cdv ct us ws h1 h2
  exact ⟨k, Nat.le_refl _, f, fd, ps, _, _, c0, gx, M, ok, hb, fun Pi xs zs vs ws m Q E r1 r2 h => ⟨h.1, h.2.1, xs ++ zs, r1.append r2, h.2.2⟩⟩
theorem h_of {x : Str} (g : mg x = some (.ref f)) (h : GDef P w K mg base k x c) : GHeld P w K mg base k f c := by
  obtain ⟨f', fd, ps, dvs, ds, dd, c0, h1, h2, h3, h4, h5, h6, h7⟩ := h
  cases g.symm.trans h1
  exact ⟨fd, ps, dvs, ds, dd, c0, h2, h3, h4, h5, h6, h7⟩
theorem d_mk {a : Addr} {kvs : List (Str × He.Dv)} {tab : List (Str × D)} {es : Array DictEntry} {n : Nat} (gx : mg x = some (.ref a)) (hd : KDict K w a es n) (hv : He.valsB K a kvs = true) (ht : ∀ s d, tab.lookup s = some d → ∃ v, (s, v) ∈ kvs ∧ Rep K (fun _ => none) d (v.v K)) : GDict K w mg x tab := by
  refine ⟨a, gx, fun s d e => ?_⟩
  obtain ⟨v, hm, rv⟩ := ht s d e
  obtain ⟨u, h1, h2⟩ := He.valsB_ok hv hm
  exact ⟨_, ⟨es, n, u, hd.at_, hd.lit, h1, h2⟩, rv⟩
end
end Zed
end
section
set_option maxHeartbeats 4000000
namespace Zed
open PySem PySem.Spec PyProof.Rows L2
/-! sum from a start on -/
def preSumK (k0 : Int) (val : Nat → Int) : Nat → Int
  | 0 => k0
  | j + 1 => preSumK k0 val j + val j
section
variable {prog : Program} {w : World} {A : Around} {R : Result → Shared → Prop} {I : Addr} {fp wr : List Addr} {n : Nat} {P : Nat → Value → Prop} {St : Nat → Heap → Prop}
theorem sum_loopK {k0 : Int} (W : Walks prog w A.in1 I fp wr n P St) (val : Nat → Int) (hval : ∀ i v, P i v → ∃ t, v = .int (val i) t) (S : Addr) (hSf : S ∉ fp) :
    ∀ (k i : Nat) (s : Shared) (tA : Tok) (c : Nat) (stage : Int), (stage = 0 ∨ stage = 2) → n - i = k → i ≤ n → St i s.heap → s.heap.get? S = some { cls := .type "list", dict := none, data := .seq #[.int (preSumK k0 val i) tA] c, slots := #[] } →
    (∀ h' tk t', (∀ b o, b ∉ wr → b ≠ S → s.heap.get? b = some o → h'.get? b = some o) → R (.ok (.ret (.int (preSumK k0 val n) t'))) { s with heap := h', toks := tk }) →
    codeAny (model prog w) A (.builtin "sum.loop" ⟨[.ref I, .ref S, rawInt stage, rawInt 0], []⟩) R s := by
  have hSw : S ∉ wr := fun h => hSf (W.sub _ h)
  intro k
  induction k with
  | zero =>
    intro i s tA c stage hstage hk hi hst hS hR
    have hin : i = n := by omega
    subst hin
    refine codeAny_builtin F.entry_sum_loop ?_
    rw [Around.under_plainId F.plain_sum_loop _]
    show wpAny _ A.in1 (seqItems? (.ref S) >>= _) _ _ s
    refine wpAny_bind (wpAny_seqItems hS rfl ?_)
    show wpAny _ A.in1 (tryCatch (pyNext (.ref I)) _ >>= _) _ _ s
    refine wpAny_bind (wpAny_tryCatch (W.done s _ _ hst fun h' tk hk' => ?_))
    exact wpAny_pure (hR h' tk tA fun b o hbw _ e => hk' b o hbw e)
  | succ k ih =>
    intro i s tA c stage hstage hk hi hst hS hR
    have hlt : i < n := by omega
    refine codeAny_builtin F.entry_sum_loop ?_
    rw [Around.under_plainId F.plain_sum_loop _]
    show wpAny _ A.in1 (seqItems? (.ref S) >>= _) _ _ s
    refine wpAny_bind (wpAny_seqItems hS rfl ?_)
    show wpAny _ A.in1 (tryCatch (pyNext (.ref I)) _ >>= _) _ _ s
    refine wpAny_bind (wpAny_tryCatch (W.item i s _ _ hlt hst fun v h' tk hP hst' hk' => ?_))
    obtain ⟨t, rfl⟩ := hval i v hP
    have hS' := hk' S _ hSw hS
    rcases hstage with rfl | rfl
    · show wpAny _ A.in1 (if (_ : Bool) = true then (mkInt (preSumK k0 val i + val i) >>= _) else _) _ _ _
      split
      · refine wpAny_bind (wpAny_mkInt ?_)
        show wpAny _ A.in1 (updateSeq S (fun _ => #[.int (preSumK k0 val i + val i) tk]) >>= _) _ _ _
        refine wpAny_bind ?_
        refine wpAny_updateSeq hS' rfl (wpAny_pure ⟨plainId_quiet F.plain_sum_loop _, ih (i + 1) _ tk _ 0 (Or.inl rfl) (by omega) hlt (W.frame _ _ _ hst' fun b hb o e => ?_) (Heap.get?_update_self _ hS' rfl) fun h'' tk'' t'' hk'' => ?_⟩)
        · exact (Heap.get?_update_other _ _ (fun h : S = b => hSf (by rw [h]; exact hb))).trans e
        · exact hR h'' tk'' t'' fun b o hbw hbS e => hk'' b o hbw hbS ((Heap.get?_update_other _ _ (Ne.symm hbS)).trans (hk' b o hbw e))
      · refine wpAny_bind (wpAny_rule ?_)
        refine wpAny_bind (wpAny_attempt (wpAny_holding (PySem.P.add_int ?_)))
        show wpAny _ A.in1 (updateSeq S (fun _ => #[.int (preSumK k0 val i + val i) tk]) >>= _) _ _ _
        refine wpAny_bind ?_
        refine wpAny_updateSeq hS' rfl ?_
        have hS2 := Heap.get?_update_self (Obj.mapSeq fun _ => #[Value.int (preSumK k0 val i + val i) tk]) hS' rfl
        refine wpAny_bind (wpAny_letGo ?_)
        refine wpAny_bind ?_
        refine wpAny_updateSeq hS2 rfl (wpAny_pure ⟨plainId_quiet F.plain_sum_loop _, ih (i + 1) _ tk _ 2 (Or.inr rfl) (by omega) hlt (W.frame _ _ _ hst' fun b hb o e => ?_) (Heap.get?_update_self _ hS2 rfl) fun h'' tk'' t'' hk'' => ?_⟩)
        · exact (Heap.get?_update_other _ _ (fun h : S = b => hSf (by rw [h]; exact hb))).trans ((Heap.get?_update_other _ _ (fun h : S = b => hSf (by rw [h]; exact hb))).trans e)
        · exact hR h'' tk'' t'' fun b o hbw hbS e => hk'' b o hbw hbS ((Heap.get?_update_other _ _ (Ne.symm hbS)).trans ((Heap.get?_update_other _ _ (Ne.symm hbS)).trans (hk' b o hbw e)))
    · show wpAny _ A.in1 ((holding [Value.int (val i) t] (binaryOp .Add (.int (preSumK k0 val i) tA) (.int (val i) t))).attempt >>= _) _ _ _
      refine wpAny_bind (wpAny_attempt (wpAny_holding (PySem.P.add_int ?_)))
      show wpAny _ A.in1 (updateSeq S (fun _ => #[.int (preSumK k0 val i + val i) tk]) >>= _) _ _ _
      refine wpAny_bind ?_
      refine wpAny_updateSeq hS' rfl ?_
      have hS2 := Heap.get?_update_self (Obj.mapSeq fun _ => #[Value.int (preSumK k0 val i + val i) tk]) hS' rfl
      refine wpAny_bind (wpAny_letGo ?_)
      refine wpAny_bind ?_
      refine wpAny_updateSeq hS2 rfl (wpAny_pure ⟨plainId_quiet F.plain_sum_loop _, ih (i + 1) _ tk _ 2 (Or.inr rfl) (by omega) hlt (W.frame _ _ _ hst' fun b hb o e => ?_) (Heap.get?_update_self _ hS2 rfl) fun h'' tk'' t'' hk'' => ?_⟩)
      · exact (Heap.get?_update_other _ _ (fun h : S = b => hSf (by rw [h]; exact hb))).trans ((Heap.get?_update_other _ _ (fun h : S = b => hSf (by rw [h]; exact hb))).trans e)
      · exact hR h'' tk'' t'' fun b o hbw hbS e => hk'' b o hbw hbS ((Heap.get?_update_other _ _ (Ne.symm hbS)).trans ((Heap.get?_update_other _ _ (Ne.symm hbS)).trans (hk' b o hbw e)))
end
theorem args_sumK (a b : Value) : argsOk "sum" ⟨[a], [(Str.ofString "start", b)]⟩ := by unfold argsOk; kernel_rfl
section
variable {prog : Program} {w : World} {A : Around} {E : Value → Shared → Prop} {s : Shared}
theorem call_tree_kw {id : String} {b : Builtin} {args : List Value} {kw : List (Str × Value)} {Q : Value → Shared → Prop} (hk : builtinKind id = none) (hp : plainId id = true)
    (hb : entryFor table id = some b) (ha : argsOk id ⟨args, kw⟩)
    (hfin : wpAny (model prog w) A.in1 (b ⟨args, kw⟩) (fun fin s' => match fin with
      | .done f => (match (Except.ok f : Result) with | .ok (.ret v) => Q v s' | .ok _ => False | .error e => E e s')
      | .again c' => c'.quiet = true ∧ codeAny (model prog w) A c' (fun r s' => match r with | .ok (.ret v) => Q v s' | .ok _ => False | .error e => E e s') s') E s) : wpAny (model prog w) A (call (.builtin id) args kw) Q E s := by
  refine wpAny_call (codeAny_call_builtin hp hb ?_)
  simp only [checkBuiltinCall, hk]
  cases hsig : Manifest.signature? id with
  | none => exact wpAny_pure hfin
  | some sig =>
    have ha' : Bind.checkArgs id sig ⟨args, kw⟩ = pure () := by simpa only [argsOk, hsig] using ha
    simp only [ha']
    exact wpAny_pure hfin
theorem call_sum_walkK {x : Value} {k0 : Int} {t0 : Tok} {Q : Value → Shared → Prop}
    (h : wpAny (model prog w) A.in1 (pyIter x) (fun it s₂ => ∃ I fp wr n P St val, it = .ref I ∧ Walks prog w A.in1 I fp wr n P St ∧ St 0 s₂.heap ∧ (∀ b ∈ fp, b < s₂.heap.objs.size) ∧
      (∀ i v, P i v → ∃ t, v = .int (val i) t) ∧
      ∀ h' tk t', (∀ b o, b ∉ wr → s₂.heap.get? b = some o → h'.get? b = some o) → Q (.int (preSumK k0 val n) t') { s₂ with heap := h', toks := tk }) E s) :
    wpAny (model prog w) A (call (.builtin "sum") [x] [(Str.ofString "start", .int k0 t0)]) Q E s := by
  refine call_tree_kw PySem.F.kind_sum PySem.F.plain_sum PySem.F.entry_sum (args_sumK _ _) ?_
  unfold Builtin.«sum»
  simp only [List.length_cons, List.length_nil]
  rw [if_neg (by decide)]
  refine wpAny_bind (wpAny_of_eq (show Builtin.Builtins.bindParams "sum" ["start"] 0 ⟨[], [(Str.ofString "start", .int k0 t0)]⟩ = pure [some (.int k0 t0)] by kernel_rfl) ?_)
  refine wpAny_bind (wpAny_mono h (fun it s₂ h₂ => ?_) fun _ _ e => e)
  obtain ⟨I, fp, wr, n, P, St, val, rfl, W, hst, hfp, hval, hQ⟩ := h₂
  dsimp only
  split
  · refine wpAny_bind (wpAny_rule (wpAny_bind (wpAny_mkInt (wpAny_bind (wpAny_pure ?_)))))
    simp only [List.forIn_cons, List.forIn_nil]
    refine wpAny_bind (wpAny_bind (wpAny_bind (wpAny_isInstance (T := "int") (b := false) (typeIs_int _ _ _) PySem.sub_int_str ?_)))
    simp only [Bool.false_eq_true, if_false]
    refine wpAny_pure (wpAny_bind (wpAny_bind (wpAny_isInstance (T := "int") (b := false) (typeIs_int _ _ _) PySem.sub_int_bytes ?_)))
    simp only [Bool.false_eq_true, if_false]
    refine wpAny_pure (wpAny_bind (wpAny_bind (wpAny_isInstance (T := "int") (b := false) (typeIs_int _ _ _) PySem.sub_int_bytearray ?_)))
    simp only [Bool.false_eq_true, if_false]
    refine wpAny_pure (wpAny_pure ?_)
    refine wpAny_bind (wpAny_newObj_type ?_)
    have hSf : s₂.heap.objs.size ∉ fp := fun hm => Nat.lt_irrefl _ (hfp _ hm)
    refine wpAny_pure ⟨plainId_quiet PySem.F.plain_sum_loop _, sum_loopK W val hval s₂.heap.objs.size hSf n 0 _ _ 0 0 (Or.inl rfl) rfl (Nat.zero_le _)
      (W.frame _ _ _ hst fun b _ o e => Heap.get?_push_of_some _ e) (Heap.get?_push_size _ rfl) fun h' tk t' hk => ?_⟩
    exact hQ h' tk t' fun b o hbw e => hk b o hbw (Nat.ne_of_lt (Heap.lt_size e)) (Heap.get?_push_of_some _ e)
  · refine wpAny_bind (wpAny_pure ?_)
    simp only [List.forIn_cons, List.forIn_nil]
    refine wpAny_bind (wpAny_bind (wpAny_bind (wpAny_isInstance (T := "int") (b := false) (typeIs_int _ _ _) PySem.sub_int_str ?_)))
    simp only [Bool.false_eq_true, if_false]
    refine wpAny_pure (wpAny_bind (wpAny_bind (wpAny_isInstance (T := "int") (b := false) (typeIs_int _ _ _) PySem.sub_int_bytes ?_)))
    simp only [Bool.false_eq_true, if_false]
    refine wpAny_pure (wpAny_bind (wpAny_bind (wpAny_isInstance (T := "int") (b := false) (typeIs_int _ _ _) PySem.sub_int_bytearray ?_)))
    simp only [Bool.false_eq_true, if_false]
    refine wpAny_pure (wpAny_pure ?_)
    refine wpAny_bind (wpAny_newObj_type ?_)
    have hSf : s₂.heap.objs.size ∉ fp := fun hm => Nat.lt_irrefl _ (hfp _ hm)
    refine wpAny_pure ⟨plainId_quiet PySem.F.plain_sum_loop _, sum_loopK W val hval s₂.heap.objs.size hSf n 0 _ _ 0 2 (Or.inr rfl) rfl (Nat.zero_le _)
      (W.frame _ _ _ hst fun b _ o e => Heap.get?_push_of_some _ e) (Heap.get?_push_size _ rfl) fun h' tk t' hk => ?_⟩
    exact hQ h' tk t' fun b o hbw e => hk b o hbw (Nat.ne_of_lt (Heap.lt_size e)) (Heap.get?_push_of_some _ e)
theorem sum_listK {xs : Array (Int × Tok)} {l : Addr} {k0 : Int} {t0 : Tok} {Q : Value → Shared → Prop} (hh : A.handled = none) (hl : s.heap.IsList l (intItems xs))
    (h : ∀ h' tk t', (∀ b o, s.heap.get? b = some o → h'.get? b = some o) → Q (.int (preSumK k0 (numAt xs) xs.size) t') { s with heap := h', toks := tk }) :
    wpAny (model prog w) A (call (.builtin "sum") [.ref l] [(Str.ofString "start", .int k0 t0)]) Q E s := by
  refine call_sum_walkK (iter_intList hl fun s₂ e st hfp hlI => ?_)
  subst e
  refine ⟨_, _, _, _, _, _, numAt xs, rfl, Walks.list (A := A.in1) hh _ l hlI (intItems xs), st, hfp, (fun _ _ => intItems_at), fun h' tk t' hk => ?_⟩
  have := h h' tk t' (old_kept hk)
  simpa [intItems] using this
theorem preSumK_eq (k0 : Int) (val : Nat → Int) : ∀ n, preSumK k0 val n = k0 + preSum val n
  | 0 => (Int.add_zero _).symm
  | n + 1 => by
    show preSumK k0 val n + val n = k0 + (preSum val n + val n)
    rw [preSumK_eq k0 val n]
    omega
theorem sum_rawK {l : Addr} {its : List Value} {ns : List Int} {k0 : Int} {t0 : Tok} {Q : Value → Shared → Prop} (hh : A.handled = none) (hl : s.heap.IsList l its.toArray) (hi : IntsAre its ns)
    (h : ∀ h' tk t', (∀ b o, s.heap.get? b = some o → h'.get? b = some o) → Q (.int (k0 + ns.sum) t') { s with heap := h', toks := tk }) : wpAny (model prog w) A (call (.builtin "sum") [.ref l] [(Str.ofString "start", .int k0 t0)]) Q E s := by
  obtain ⟨xs, e⟩ := hi.allInts.items
  have hn : numsOf (intItems xs).toList = ns := by rw [← e]; exact hi.numsOf
  rw [nums_intItems] at hn
  rw [e] at hl
  refine sum_listK hh hl fun h' tk t' hk => ?_
  have := h h' tk t' hk
  rw [preSumK_eq, preSum_eq, List.take_of_length_le (by simp), hn]; exact this
end
/-- sum(xs, start=k) -/
def cSumK : List D → List D → Mu → QE → Prop
  | [d], [.int k], m, Q => match seqD m d with
    | some xs => match intsD xs with
      | some ns => Q (.int (k + ns.sum)) m
      | none => False
    | none => False
  | _, _, _, _ => False
def zblK (t u : ZTA) (c : List D → List D → Mu → QE → Prop) : ZTE := fun ρ m Q E => t ρ m (fun xs m1 => u ρ m1 (fun zs m2 => c xs zs m2 Q) E) E
section
variable {X : Cx} {W : WX} {x : Str} {id : String} {pos p : Pos} {e : Expr} {es : List Expr} {kws : List Keyword} {t u : ZTA} {ks : List Str} {o : List D → List D → Mu → QE → Prop}
def RCK (K : PySem.W.Frag) (o : List D → List D → Mu → QE → Prop) : List V → List V → Hp → VK → Prop := fun xs zs H Q => ∃ ds es F m Pi Qz, Zm K F m Pi H ∧ Reps K Pi ds xs ∧ Reps K Pi es zs ∧ o ds es m Qz ∧ ContE K F Pi Qz Q
theorem r_bltK (hc : CallRK X (.builtin id) ks (RCK X.K o)) (hm : X.mg x = none) (hv : bootBuiltins x = some (.builtin id)) (ha : PA X (e :: es) (LA X.K W t)) (hk : PK X kws (LA X.K W u)) (hg : Gl X x := by rfl) (hn : x ≠ "__name__" := by decide) (hdb : (x == ("__debug__" : Str)) = false := by decide)
    (he : backTo pos (starEach (e :: es) X.env) = (false, eval e X.env) :: backTo pos (starEach es X.env) := by rfl) (hpl : (backTo pos (starEach (e :: es) X.env)).any (·.1) = false := by rfl)
    (hall : (backToKw pos (keywordEach kws X.env)).all (·.1.isSome) = true := by rfl) (hnone : (backToKw pos (keywordEach kws X.env)).any (·.1.isNone) = false := by rfl) (hks : (backToKw pos (keywordEach kws X.env)).filterMap (·.1) = ks := by rfl) :
    PE X (.Call (.Name x p) (e :: es) kws pos) (LE X.K W (zblK t u o)) := by
  refine pe_imp (pe_callBK hc hg hm hv ha hk hn hdb he hpl hall hnone hks) fun σ H Q ⟨F, ρ, m, Pi, Qz, Ez, hz, he, h, k, kx⟩ => ?_
  exact ⟨F, ρ, m, Pi, _, Ez, hz, he, h, fun xs m1 P1 vs H1 l1 z1 r1 q1 => ⟨F, ρ, m1, P1, _, Ez, z1, he.mono l1, q1, fun zs m2 P2 ws H2 l2 z2 r2 q2 => ⟨xs, zs, F, m2, P2, Qz, z2, r1.mono l2, r2, q2, k.mono (l1.trans l2)⟩, kx.mono l1⟩, kx⟩
theorem c_sumK (hc : X.calm = true := by rfl) : CallRK X (.builtin "sum") [Str.ofString "start"] (RCK X.K cSumK) := by
  intro pins s σ H xs zs us ws Q I r rz ⟨ds, es, F, m, Pi, Qz, z, r1, r2, h, k⟩
  unfold cSumK at h
  split at h
  · rename_i d k0
    split at h
    · rename_i ys qy
      split at h
      · rename_i ns qn
        obtain ⟨v, rfl, rv⟩ := reps1 r1
        obtain ⟨v2, rfl, rv2⟩ := reps1 r2
        cases rv2
        obtain ⟨a, vs, rfl, hs, rs⟩ := seq_of z rv qy
        obtain rfl := intsD_eq qn
        rw [Reps.of_ints rs] at hs
        obtain ⟨its, rl, hl, _⟩ := I.list hs
        obtain rfl := Vals.ref1 r
        obtain ⟨w1, rfl, e1⟩ := vals1 rz
        obtain ⟨t1, rfl⟩ := e1
        exact sum_rawK (I.ok.hd hc) hl.isList rl.ints fun h' tk t' hk => ⟨.int _, H, I.kept hk, ⟨_, rfl⟩, fin_int k z h⟩
      · exact h.elim
    · exact h.elim
  · exact h.elim
end
end Zed
end
section
set_option maxHeartbeats 4000000
/-! Zed17: in, list * int, sorted. -/
namespace Zed
open PySem PySem.Spec PyProof.Rows L2
def flatD : D → Bool
  | .non => true
  | .bl _ => true
  | .int _ => true
  | .str _ => true
  | _ => false
def toV : D → V
  | .bl b => .bl b
  | .int i => .int i
  | .str s => .str s
  | _ => .non
theorem rep_flat {K : PySem.W.Frag} {Pi : Hp} {d : D} {v : V} (r : Rep K Pi d v) (h : flatD d = true) : v = toV d ∧ flatV v = true := by
  cases r with
  | non => exact ⟨rfl, rfl⟩
  | bl => exact ⟨rfl, rfl⟩
  | int => exact ⟨rfl, rfl⟩
  | str => exact ⟨rfl, rfl⟩
  | _ => cases h
theorem reps_flat {K : PySem.W.Frag} {Pi : Hp} : ∀ {ds : List D} {vs : List V}, Reps K Pi ds vs → ds.all flatD = true → vs = ds.map toV ∧ vs.all flatV = true
  | _, _, .nil, _ => ⟨rfl, rfl⟩
  | d :: ds, v :: vs, .cons r t, h => by
    rw [List.all_cons, Bool.and_eq_true] at h
    obtain ⟨h1, h2⟩ := rep_flat r h.1
    obtain ⟨h3, h4⟩ := reps_flat t h.2
    subst h1 h3
    exact ⟨rfl, by rw [List.all_cons, h2, h4]; rfl⟩
def inD (d : D) (xs : List D) : Bool := inV (toV d) (xs.map toV)
def seqA (m : Mu) : D → Option (List D)
  | .tup xs => some xs
  | d => seqD m d
def oIn (neg : Bool) : ZOp := fun d e m Q => flatD d = true ∧ match seqA m e with
  | some xs => xs.all flatD = true ∧ Q (.bl (if neg then !inD d xs else inD d xs)) m
  | none => False
theorem in_core {K : PySem.W.Frag} {F : Hp} {m : Mu} {Pi H : Hp} (z : Zm K F m Pi H) {e : D} {y : V} {xs : List D} (r : Rep K Pi e y) (h : seqA m e = some xs) : ∃ p vs, y = .ref p ∧ (SqL K H p vs ∨ SqT K H p vs) ∧ Reps K Pi xs vs := by
  cases r with
  | tup hs rs =>
    cases h
    exact ⟨_, _, rfl, .inr (z.sub.sqt hs), rs⟩
  | fl hs rs =>
    cases h
    exact ⟨_, _, rfl, .inl (z.sub.sql hs), rs⟩
  | ref =>
    obtain ⟨a, vs, e, hs, rs⟩ := seq_of z (.ref) (show seqD m (.ref _) = some xs from h)
    exact ⟨a, vs, e, .inl hs, rs⟩
  | _ => cases h
theorem o_in {X : Cx} : OpR X (compareOp .In) (RS X.K (oIn false)) := by
  intro pins s σ H x y v u Q I rx ry ⟨d, e, F, m, Pi, Qz, z, r1, r2, ⟨h0, h⟩, k⟩
  split at h
  · rename_i xs q
    obtain ⟨p, vs, ey, hs, rs⟩ := in_core z r2 q
    obtain ⟨rfl, fx⟩ := rep_flat r1 h0
    obtain ⟨rfl, fs⟩ := reps_flat rs h.1
    exact op_in_seq pins s σ H _ _ v u Q I rx ry ⟨p, _, ey, hs, fx, fs, fin_bl k z h.2⟩
  · exact h.elim
theorem o_notin {X : Cx} : OpR X (compareOp .NotIn) (RS X.K (oIn true)) := by
  intro pins s σ H x y v u Q I rx ry ⟨d, e, F, m, Pi, Qz, z, r1, r2, ⟨h0, h⟩, k⟩
  split at h
  · rename_i xs q
    obtain ⟨p, vs, ey, hs, rs⟩ := in_core z r2 q
    obtain ⟨rfl, fx⟩ := rep_flat r1 h0
    obtain ⟨rfl, fs⟩ := reps_flat rs h.1
    exact op_notIn_seq pins s σ H _ _ v u Q I rx ry ⟨p, _, ey, hs, fx, fs, fin_bl k z h.2⟩
  · exact h.elim
/-- a list that may change, times a number -/
def oRepM : ZOp
  | .ref a, .int k, m, Q => match m a with
    | some (.lst xs) => (-(2 ^ 63) ≤ k ∧ k < 2 ^ 63 ∧ xs.length * k.toNat ≤ sizeLine) ∧ ∀ p, m p = none → Q (.ref p) (updM m p (.lst (List.replicate k.toNat xs).flatten))
    | _ => False
  | _, _, _, _ => False
theorem reps_rep {K : PySem.W.Frag} {Pi : Hp} {xs : List D} {vs : List V} (r : Reps K Pi xs vs) : ∀ n : Nat, Reps K Pi (List.replicate n xs).flatten (List.replicate n vs).flatten
  | 0 => .nil
  | n + 1 => by
    rw [List.replicate_succ, List.replicate_succ, List.flatten_cons, List.flatten_cons]
    exact r.append (reps_rep r n)
theorem o_repM {X : Cx} : OpR X (binaryOp .Mult) (RS X.K oRepM) := by
  intro pins s σ H x y v u Q I rx ry ⟨d, e, F, m, Pi, Qz, z, r1, r2, h, k⟩
  cases r1 with
  | ref =>
    cases r2 with
    | int =>
      rename_i a i
      simp only [oRepM] at h
      cases q : m a with
      | none => rw [q] at h; exact h.elim
      | some o =>
        rw [q] at h
        cases o with
        | lst xs =>
          obtain ⟨vs, g1, q1⟩ := z.ok a _ q
          obtain ⟨⟨h1, h2, h3⟩, h4⟩ := h
          exact op_rep pins s σ H _ _ v u Q I rx ry ⟨a, i, vs, rfl, rfl, g1, h1, h2, by rw [← q1.length]; exact h3, fun p np => fin_lst k z (reps_rep q1 _) np h4⟩
        | _ => exact h.elim
    | _ => exact h.elim
  | _ => exact h.elim
/-- sorted of numbers -/
def cSortedI : ZCl := cInts fun ns Q m => ∀ zs : List Int, zs.Perm ns → zs.Pairwise (· ≤ ·) → Q (.fl (zs.map .int)) m
theorem c_sortedI {X : Cx} : CallR X (.builtin "sorted") (RC X.K cSortedI) := by
  intro pins s σ H xs us Q I rv ⟨ds, F, m, Pi, Qz, z, r, h, k⟩
  obtain ⟨a, ns, rfl, hs, h⟩ := ints_of z r h
  exact cr_sortedI pins s σ H _ us Q I rv ⟨a, ns, rfl, hs, fun zs p hp ho np => fin_fl k z (Reps.ints zs) np (h zs hp ho)⟩
end Zed
end
section
set_option maxHeartbeats 4000000
/-! Zed18: max and min of a tuple of ints. -/
namespace Zed
open PySem PySem.Spec PyProof.Rows L2
section
variable {prog : Program} {w : World} {A : Around} {E : Value → Shared → Prop} {s : Shared} {l : Addr} {xs : Array (Int × Tok)} {its : List Value} {ns : List Int}
theorem iter_intTup {Q : Value → Shared → Prop} (hl : s.heap.IsTuple l (intItems xs))
    (h : ∀ s₂ : Shared, s₂ = { s with heap := s.heap.push { cls := .type "tuple_iterator", data := .fields #[.ref l, .int 0 0] } } →
      (s₂.heap.IsTupleIter s.heap.objs.size l 0 ∧ s₂.heap.IsTuple l (intItems xs)) → (∀ b ∈ [s.heap.objs.size, l], b < s₂.heap.objs.size) → l ≠ s.heap.objs.size → Q (.ref s.heap.objs.size) s₂) :
    wpAny (model prog w) A (pyIter (.ref l)) Q E s := by
  have hlt : l < s.heap.objs.size := by obtain ⟨_, e, _⟩ := hl; exact Heap.lt_size e
  refine wpAny_pyIter_tuple hl (h _ rfl ⟨⟨_, Heap.get?_push_size _ rfl, rfl, rfl⟩, hl.push _⟩ (fun b hb => ?_) (Nat.ne_of_lt hlt))
  show b < (s.heap.push _).objs.size
  rw [Heap.size_push]
  rcases List.mem_cons.mp hb with rfl | hb
  · exact Nat.lt_succ_self _
  · rcases List.mem_cons.mp hb with rfl | hb
    · exact Nat.lt_succ_of_lt hlt
    · cases hb
theorem old_keptT {h' : Heap} (hk : ∀ b o, b ∉ [s.heap.objs.size] → (s.heap.push { cls := .type "tuple_iterator", data := .fields #[.ref l, .int 0 0] }).get? b = some o → h'.get? b = some o) :
    ∀ b o, s.heap.get? b = some o → h'.get? b = some o := fun b o e => by
  refine hk b o (fun hm => ?_) (Heap.get?_push_of_some _ e)
  rcases List.mem_cons.mp hm with e1 | hm
  · exact absurd (e1 ▸ Heap.lt_size e) (Nat.lt_irrefl _)
  · cases hm
theorem max_intTup {Q : Value → Shared → Prop} (hh : A.handled = none) (hl : s.heap.IsTuple l (intItems xs)) (hne : 0 < xs.size)
    (h : ∀ v h' tk, (intItems xs)[argBest (fun i j => decide (numAt xs i > numAt xs j)) (xs.size - 1)]? = some v → (∀ b o, s.heap.get? b = some o → h'.get? b = some o) → Q v { s with heap := h', toks := tk }) :
    wpAny (model prog w) A (call (.builtin "max") [.ref l]) Q E s := by
  refine call_max_walk (iter_intTup hl fun s₂ e st hfp hlI => ?_)
  subst e
  refine ⟨_, _, _, _, _, _, _, rfl, Walks.tuple (A := A.in1) hh _ l hlI (intItems xs), st, hfp, by simpa [intItems] using hne, CmpOf.ints_gt (numAt xs) (fun _ _ => intItems_at), fun v h' tk hP hk => ?_⟩
  exact h v h' tk (by simpa [intItems] using hP) (old_keptT hk)
theorem min_intTup {Q : Value → Shared → Prop} (hh : A.handled = none) (hl : s.heap.IsTuple l (intItems xs)) (hne : 0 < xs.size)
    (h : ∀ v h' tk, (intItems xs)[argBest (fun i j => decide (numAt xs i < numAt xs j)) (xs.size - 1)]? = some v → (∀ b o, s.heap.get? b = some o → h'.get? b = some o) → Q v { s with heap := h', toks := tk }) :
    wpAny (model prog w) A (call (.builtin "min") [.ref l]) Q E s := by
  refine call_min_walk (iter_intTup hl fun s₂ e st hfp hlI => ?_)
  subst e
  refine ⟨_, _, _, _, _, _, _, rfl, Walks.tuple (A := A.in1) hh _ l hlI (intItems xs), st, hfp, by simpa [intItems] using hne, CmpOf.ints_lt (numAt xs) (fun _ _ => intItems_at), fun v h' tk hP hk => ?_⟩
  exact h v h' tk (by simpa [intItems] using hP) (old_keptT hk)
theorem max_rawT {Q : Value → Shared → Prop} (hh : A.handled = none) (hl : s.heap.IsTuple l its.toArray) (hi : IntsAre its ns) (hne : 0 < ns.length)
    (h : ∀ h' tk M t', (∀ b o, s.heap.get? b = some o → h'.get? b = some o) → M ∈ ns → (∀ a, a ∈ ns → a ≤ M) → Q (.int M t') { s with heap := h', toks := tk }) : wpAny (model prog w) A (call (.builtin "max") [.ref l]) Q E s := by
  obtain ⟨xs, e⟩ := hi.allInts.items
  have hn : numsOf (intItems xs).toList = ns := by rw [← e]; exact hi.numsOf
  rw [nums_intItems] at hn
  subst hn
  rw [e] at hl
  have hsz : 0 < xs.size := by simpa using hne
  refine max_intTup hh hl hsz fun v h' tk hv hk => ?_
  obtain ⟨t, rfl⟩ := intItems_at hv
  obtain ⟨h1, h2⟩ := argBest_gt (numAt xs) (xs.size - 1)
  refine h h' tk _ t hk ?_ fun a ha => ?_
  · rw [numAt_eq]; exact PySem.getD_mem (by rw [List.length_map, Array.length_toList]; omega)
  · obtain ⟨j, hj, rfl⟩ := mem_getD ha
    rw [List.length_map, Array.length_toList] at hj
    rw [← numAt_eq]; exact h2 j (by omega)
theorem min_rawT {Q : Value → Shared → Prop} (hh : A.handled = none) (hl : s.heap.IsTuple l its.toArray) (hi : IntsAre its ns) (hne : 0 < ns.length)
    (h : ∀ h' tk M t', (∀ b o, s.heap.get? b = some o → h'.get? b = some o) → M ∈ ns → (∀ a, a ∈ ns → M ≤ a) → Q (.int M t') { s with heap := h', toks := tk }) : wpAny (model prog w) A (call (.builtin "min") [.ref l]) Q E s := by
  obtain ⟨xs, e⟩ := hi.allInts.items
  have hn : numsOf (intItems xs).toList = ns := by rw [← e]; exact hi.numsOf
  rw [nums_intItems] at hn
  subst hn
  rw [e] at hl
  have hsz : 0 < xs.size := by simpa using hne
  refine min_intTup hh hl hsz fun v h' tk hv hk => ?_
  obtain ⟨t, rfl⟩ := intItems_at hv
  obtain ⟨h1, h2⟩ := argBest_lt (numAt xs) (xs.size - 1)
  refine h h' tk _ t hk ?_ fun a ha => ?_
  · rw [numAt_eq]; exact PySem.getD_mem (by rw [List.length_map, Array.length_toList]; omega)
  · obtain ⟨j, hj, rfl⟩ := mem_getD ha
    rw [List.length_map, Array.length_toList] at hj
    rw [← numAt_eq]; exact h2 j (by omega)
end
/-- max, min of a tuple of ints -/
def cIntsT (f : List Int → QE → Mu → Prop) : ZCl
  | [.tup xs], m, Q => match intsD xs with
    | some ns => f ns Q m
    | none => False
  | _, _, _ => False
abbrev cMaxT : ZCl := cIntsT fun ns Q m => 0 < ns.length ∧ ∀ k, k ∈ ns → (∀ y, y ∈ ns → y ≤ k) → Q (.int k) m
abbrev cMinT : ZCl := cIntsT fun ns Q m => 0 < ns.length ∧ ∀ k, k ∈ ns → (∀ y, y ∈ ns → k ≤ y) → Q (.int k) m
theorem intsT_of {K : PySem.W.Frag} {F : Hp} {m : Mu} {Pi H : Hp} (z : Zm K F m Pi H) {f : List Int → QE → Mu → Prop} {ds : List D} {vs : List V} {Qz : QE} (r : Reps K Pi ds vs) (h : cIntsT f ds m Qz) : ∃ a ns, vs = [.ref a] ∧ SqT K H a (ns.map V.int) ∧ f ns Qz m := by
  unfold cIntsT at h
  split at h
  · rename_i xs
    obtain ⟨v, rfl, r1⟩ := reps1 r
    split at h
    · rename_i ns q2
      obtain rfl := intsD_eq q2
      cases r1 with
      | tup hs rs =>
        have hs := z.sub.sqt hs
        rw [Reps.of_ints rs] at hs
        exact ⟨_, ns, rfl, hs, h⟩
    · exact h.elim
  · exact h.elim
theorem c_maxT {X : Cx} (hc : X.calm = true := by rfl) : CallR X (.builtin "max") (RC X.K cMaxT) := by
  intro pins s σ H xs us Q I rv ⟨ds, F, m, Pi, Qz, z, r, h, k⟩
  obtain ⟨a, ns, rfl, hs, h0, h⟩ := intsT_of z r h
  obtain ⟨its, rv2, hl, _⟩ := I.tuple hs
  rw [Vals.ref1 rv]
  exact max_rawT (I.ok.hd hc) hl rv2.ints h0 fun h' tk m t' hk h1 h2 => ⟨.int _, H, I.kept hk, ⟨_, rfl⟩, fin_int k z (h m h1 h2)⟩
theorem c_minT {X : Cx} (hc : X.calm = true := by rfl) : CallR X (.builtin "min") (RC X.K cMinT) := by
  intro pins s σ H xs us Q I rv ⟨ds, F, m, Pi, Qz, z, r, h, k⟩
  obtain ⟨a, ns, rfl, hs, h0, h⟩ := intsT_of z r h
  obtain ⟨its, rv2, hl, _⟩ := I.tuple hs
  rw [Vals.ref1 rv]
  exact min_rawT (I.ok.hd hc) hl rv2.ints h0 fun h' tk m t' hk h1 h2 => ⟨.int _, H, I.kept hk, ⟨_, rfl⟩, fin_int k z (h m h1 h2)⟩
theorem max_ints {xs : List Int} {m : Mu} {Q : QE} (h0 : 0 < xs.length) (h : ∀ k ∈ xs, (∀ y ∈ xs, y ≤ k) → Q (.int k) m) : cMaxT [.tup (xs.map .int)] m Q := by
  show (match intsD (xs.map .int) with | some ns => 0 < ns.length ∧ ∀ k, k ∈ ns → (∀ y, y ∈ ns → y ≤ k) → Q (.int k) m | none => False)
  rw [intsD_map]
  exact ⟨h0, h⟩
theorem min_ints {xs : List Int} {m : Mu} {Q : QE} (h0 : 0 < xs.length) (h : ∀ k ∈ xs, (∀ y ∈ xs, k ≤ y) → Q (.int k) m) : cMinT [.tup (xs.map .int)] m Q := by
  show (match intsD (xs.map .int) with | some ns => 0 < ns.length ∧ ∀ k, k ∈ ns → (∀ y, y ∈ ns → k ≤ y) → Q (.int k) m | none => False)
  rw [intsD_map]
  exact ⟨h0, h⟩
theorem lookup_mem : ∀ {tab : List (Str × D)} {s : Str} {d : D}, tab.lookup s = some d → (s, d) ∈ tab
  | [], _, _, h => by cases h
  | (k, b) :: t, s, d, h => by
    rw [List.lookup_cons] at h
    cases e : s == k with
    | true =>
      rw [e] at h
      have := eq_of_beq e
      subst this
      cases h
      exact List.mem_cons_self
    | false =>
      rw [e] at h
      exact List.mem_cons_of_mem _ (lookup_mem h)
end Zed
end
section
set_option maxHeartbeats 4000000
/-! Zed19: tuple * int, any number of copies. -/
namespace Zed
open PySem PySem.Spec PyProof.Rows L2
section
variable (l : Addr) (items : Array Value) (n : Nat) (dd : Option Addr) (sl : Array (Option Value)) (x : Int) (u : Tok)
theorem tuple_mul1 (c0 : (decide (x < -(2 ^ 63)) || decide (x ≥ 2 ^ 63)) = false) (c1 : (items.isEmpty || x == 1) = true) :
    Meets (Builtin.«tuple.__mul__» ⟨[.ref l, .int x u], []⟩) (fun _ R s => s.heap.get? l = some { cls := .type "tuple", dict := dd, data := .seq items n, slots := sl } ∧ R (.ok (.ret (Value.ref l))) s) :=
  .of_wp fun prog w A R s h => by
    obtain ⟨hp, g, d, tk, os⟩ := s
    obtain ⟨hl, h⟩ := h
    have f1 := AutoSeq1.idx_int
    wp_walk using wpAny_loadPart' hl
    repeat (first
      | (refine wpAny_ite_false (decide_eq_false (by rw [c0]; exact Bool.false_ne_true)) ?_; wp_walk using wpAny_loadPart' hl)
      | (refine wpAny_ite_true (decide_eq_true (by rw [c1])) ?_; wp_walk using wpAny_loadPart' hl))
    exact ⟨_, rfl, h⟩
theorem tuple_mul0 (c0 : (decide (x < -(2 ^ 63)) || decide (x ≥ 2 ^ 63)) = false) (c1 : (items.isEmpty || x == 1) = false) (c2 : (decide (x ≤ 0) || items.isEmpty) = true) :
    Meets (Builtin.«tuple.__mul__» ⟨[.ref l, .int x u], []⟩) (fun _ R s => s.heap.get? l = some { cls := .type "tuple", dict := dd, data := .seq items n, slots := sl } ∧
      R (.ok (.ret (Value.ref s.heap.objs.size))) { s with heap := s.heap.push { cls := Value.type "tuple", data := Data.seq #[] }, toks := s.toks }) :=
  .of_wp fun prog w A R s h => by
    obtain ⟨hp, g, d, tk, os⟩ := s
    obtain ⟨hl, h⟩ := h
    have f1 := AutoSeq1.idx_int
    wp_walk using wpAny_loadPart' hl
    repeat (first
      | (refine wpAny_ite_false (decide_eq_false (by rw [c0]; exact Bool.false_ne_true)) ?_; wp_walk using wpAny_loadPart' hl)
      | (refine wpAny_ite_false (decide_eq_false (by rw [c1]; exact Bool.false_ne_true)) ?_; wp_walk using wpAny_loadPart' hl)
      | (refine wpAny_ite_true (decide_eq_true (by rw [c2])) ?_; wp_walk using wpAny_loadPart' hl))
    exact ⟨_, rfl, h⟩
end
/-- a tuple times 1, or 0 and less -/
def rRepT1 (K : PySem.W.Frag) : R2 := fun x y H Q => ∃ l k xs, x = .ref l ∧ y = .int k ∧ SqT K H l xs ∧ k = 1 ∧ Q (.ref l) H
def rRepT0 (K : PySem.W.Frag) : R2 := fun x y H Q => ∃ l k xs, x = .ref l ∧ y = .int k ∧ SqT K H l xs ∧ xs ≠ [] ∧ -1000 ≤ k ∧ k ≤ 0 ∧ ∀ p, H p = none → Q (.ref p) (upd H p (.tup []))
theorem op_repT1 {X : Cx} : OpR X (binaryOp .Mult) (rRepT1 X.K) := by
  intro pins s σ H x y v u Q I rx ry h
  obtain ⟨l, k, xs, rfl, rfl, hT, rfl, q⟩ := h
  cases rx
  obtain ⟨t, rfl⟩ := ry
  obtain ⟨its, r, ⟨⟨cls, dd, data, sl⟩, ho, hc, n, hd⟩, hs⟩ := I.tuple hT
  simp only at hc hd
  subst hc hd
  have c0 : (decide ((1 : Int) < -(2 ^ 63)) || decide ((1 : Int) ≥ 2 ^ 63)) = false := by decide
  have c1 : (its.toArray.isEmpty || (1 : Int) == 1) = true := by rw [show ((1 : Int) == 1) = true from rfl, Bool.or_true]
  refine wpAny_binaryOp_repeat_ref (T := "tuple") (U := "int") (by decide) ⟨_, ho, rfl⟩ (fun s' => typeIs_int s' 1 t) noFill_tuple_mul F.fills_int_mul F.slot_int_rmul repeat_tuple F.slot_int_index.lookup
    (call_meets F.slot_int_rmul (typeIs_int s 1 t) F.entry_int_rmul (F.args_int_rmul_2 _ _) (int_rmul_tuple 1 t l its.toArray n dd sl)
      ⟨ho, rfl, ⟨_, ho, rfl⟩, call_meets F.slot_tuple_mul ⟨_, ho, rfl⟩ F.entry_tuple_mul (F.args_tuple_mul_2 _ _) (tuple_mul1 l its.toArray n dd sl 1 t c0 c1) ⟨ho, ?_⟩⟩)
  exact ⟨.ref l, H, I, rfl, q⟩
theorem op_repT0 {X : Cx} : OpR X (binaryOp .Mult) (rRepT0 X.K) := by
  intro pins s σ H x y v u Q I rx ry h
  obtain ⟨l, k, xs, rfl, rfl, hT, hne, h1, h2, q⟩ := h
  cases rx
  obtain ⟨t, rfl⟩ := ry
  obtain ⟨its, r, ⟨⟨cls, dd, data, sl⟩, ho, hc, n, hd⟩, hs⟩ := I.tuple hT
  simp only at hc hd
  subst hc hd
  have hle : its.length = xs.length := r.length.symm
  have hn : its ≠ [] := fun e => hne (by
    rw [e] at hle
    exact List.eq_nil_of_length_eq_zero hle.symm)
  have hi : its.toArray.isEmpty = false := by
    cases its with
    | nil => exact absurd rfl hn
    | cons a b => rfl
  have c0 : (decide (k < -(2 ^ 63)) || decide (k ≥ 2 ^ 63)) = false := by
    rw [decide_eq_false (by omega), decide_eq_false (by omega)] <;> rfl
  have c1 : (its.toArray.isEmpty || k == 1) = false := by
    rw [hi, Bool.false_or]
    exact beq_eq_false_iff_ne.mpr (by omega)
  have c2 : (decide (k ≤ 0) || its.toArray.isEmpty) = true := by
    rw [decide_eq_true h2, Bool.true_or]
  refine wpAny_binaryOp_repeat_ref (T := "tuple") (U := "int") (by decide) ⟨_, ho, rfl⟩ (fun s' => typeIs_int s' k t) noFill_tuple_mul F.fills_int_mul F.slot_int_rmul repeat_tuple F.slot_int_index.lookup
    (call_meets F.slot_int_rmul (typeIs_int s k t) F.entry_int_rmul (F.args_int_rmul_2 _ _) (int_rmul_tuple k t l its.toArray n dd sl)
      ⟨ho, rfl, ⟨_, ho, rfl⟩, call_meets F.slot_tuple_mul ⟨_, ho, rfl⟩ F.entry_tuple_mul (F.args_tuple_mul_2 _ _) (tuple_mul0 l its.toArray n dd sl k t c0 c1 c2) ⟨ho, ?_⟩⟩)
  refine ⟨.ref s.heap.objs.size, _, I.laid (t' := s.toks) (o := .tup []) (fun b ob q => Heap.get?_push_of_some _ q) (Nat.le_refl _) ?_, rfl, q _ (I.hok.fresh (Nat.le_refl _))⟩
  exact ⟨by rw [sizeLine_eq]; decide, [], .nil, IsTup.new _ _⟩
def oMulT : ZOp
  | .tup xs, .int k, m, Q => xs ≠ [] ∧ xs.length ≤ 1000 ∧ -1000 ≤ k ∧ k ≤ 1000 ∧ Q (.tup (List.replicate k.toNat xs).flatten) m
  | _, _, _, _ => False
theorem o_mulT {X : Cx} : OpR X (binaryOp .Mult) (RS X.K oMulT) := by
  intro pins s σ H x y v u Q I rx ry ⟨d, e, F, m, Pi, Qz, z, r1, r2, h, k⟩
  cases r1 with
  | tup hs q1 =>
    cases r2 with
    | int =>
      rename_i a vs ds i
      obtain ⟨h1, h2, h3, h4, h5⟩ := h
      have hv : vs ≠ [] := fun e => h1 (by
        subst e
        cases q1
        rfl)
      by_cases hi : 2 ≤ i
      · exact op_repT pins s σ H _ _ v u Q I rx ry ⟨a, i, vs, rfl, rfl, z.sub.sqt hs, hv, hi, h4, by rw [← q1.length]; exact h2, fun p np => fin_tup k z (reps_rep q1 _) np h5⟩
      · by_cases h0 : i = 1
        · subst h0
          have e : (List.replicate (Int.toNat 1) ds).flatten = ds := by simp
          rw [e] at h5
          exact op_repT1 pins s σ H _ _ v u Q I rx ry ⟨a, 1, vs, rfl, rfl, z.sub.sqt hs, rfl, fin_same k z (.tup hs q1) h5⟩
        · have e : (List.replicate i.toNat ds).flatten = [] := by rw [show i.toNat = 0 by omega]; rfl
          rw [e] at h5
          exact op_repT0 pins s σ H _ _ v u Q I rx ry ⟨a, i, vs, rfl, rfl, z.sub.sqt hs, hv, h3, by omega, fun p np => fin_tup k z .nil np h5⟩
    | _ => exact h.elim
  | _ => exact h.elim
end Zed
end
section
set_option maxHeartbeats 4000000
/-! Zed20: all of numbers, xs.index(flat thing). -/
namespace Zed
open PySem PySem.Spec PyProof.Rows L2
theorem truth_ints {prog : Program} {w : World} {A : Around} {ns : List Int} {its : List Value} (e : IntsAre its ns) :
    TruthOf prog w A (fun i v => its.toArray[i]? = some v) (fun i => ns.getD i 0 != 0) := fun i v s Q E hv hq => by
  have hv' : its[i]? = some v := by simpa using hv
  have key : ∀ {us : List Value} {ms : List Int} {j : Nat}, IntsAre us ms → us[j]? = some v → ∃ t, v = .int (ms.getD j 0) t := by
    intro us ms j h
    induction h generalizing j with
    | nil => intro z; simp at z
    | cons n t h ih =>
      intro z
      cases j with
      | zero => simp at z; exact ⟨_, z.symm⟩
      | succ j => exact ih (by simpa using z)
  obtain ⟨t, rfl⟩ := key e hv'
  exact PyProof.Rows.truthy_int hq
theorem allI_range : ∀ ns : List Int, (List.range ns.length).all (fun i => ns.getD i 0 != 0) = ns.all (· != 0)
  | [] => rfl
  | b :: bs => by
    rw [List.length_cons, List.range_succ_eq_map, List.all_cons, List.all_map, List.all_cons, ← allI_range bs]
    all_goals rfl
theorem cr_allI {X : Cx} (hc : X.calm = true) : CallR X (.builtin "all") (fun vs H Q => ∃ (a : Addr) (ns : List Int), vs = [V.ref a] ∧ SqL X.K H a (ns.map V.int) ∧ Q (.bl (ns.all (· != 0))) H) := by
  intro pins s σ H vs us Q I r h
  obtain ⟨a, ns, rfl, hs, q⟩ := h
  obtain ⟨its, rv, hl, _⟩ := I.list hs
  rw [Vals.ref1 r]
  have hb := rv.ints
  refine call_all_walk (iter_any hl.isList fun s₂ e2 st hne => ?_)
  subst e2
  refine ⟨_, _, _, _, _, _, _, rfl, Walks.list (A := X.A.in1) (I.ok.hd hc) _ a hne its.toArray, st, truth_ints hb, fun h' tk hk => ?_⟩
  refine ⟨.bl _, H, I.kept fun b o eo => hk b o (fun hmem => ?_) (Heap.get?_push_of_some _ eo), ?_, q⟩
  · rcases List.mem_cons.mp hmem with e1 | hmem
    · exact absurd (e1 ▸ Heap.lt_size eo) (Nat.lt_irrefl _)
    · cases hmem
  · show Value.bool _ = Value.bool _
    have hl2 : its.length = ns.length := by rw [← rv.length, List.length_map]
    rw [← allI_range, List.size_toArray, hl2]
abbrev cAllI : ZCl := cInts fun ns Q m => Q (.bl (ns.all (· != 0))) m
theorem c_allI {X : Cx} (hc : X.calm = true := by rfl) : CallR X (.builtin "all") (RC X.K cAllI) := by
  intro pins s σ H xs us Q I rv ⟨ds, F, m, Pi, Qz, z, r, h, k⟩
  obtain ⟨a, ns, rfl, hs, h⟩ := ints_of z r h
  exact cr_allI hc pins s σ H _ us Q I rv ⟨a, ns, rfl, hs, fin_bl k z h⟩
theorem cAllI_ints {ns : List Int} {m : Mu} {Q : QE} (q : Q (.bl (ns.all (· != 0))) m) : cAllI [.fl (ns.map .int)] m Q := by
  show (match intsD (ns.map .int) with | some ns => Q (.bl (ns.all (· != 0))) m | none => False)
  rw [intsD_map]
  exact q
/-- xs.index(y), all flat -/
def zidx (a : ZTE) (t : ZTA) : ZTE := fun ρ m Q E => a ρ m (fun x m1 => match seqD m1 x with
  | some xs => t ρ m1 (fun ys m2 => seqD m2 x = some xs ∧ match ys with
    | [y] => flatD y = true ∧ xs.all flatD = true ∧ ∃ (j : Nat) (z : D), xs[j]? = some z ∧ eqV (toV z) (toV y) = true ∧ (∀ (i : Nat) (z' : D), i < j → xs[i]? = some z' → eqV (toV z') (toV y) = false) ∧ Q (.int (j : Nat)) m2
    | _ => False) E
  | none => False) E
theorem r_idx {X : Cx} {W : WX} {a e : Expr} {pos : Pos} {za : ZTE} {zl : ZTA} {apos : Pos} (ho : PE X a (LE X.K W za)) (ha : PA X [e] (LA X.K W zl)) (hbase : attributeBase a "index" X.env (eval a X.env) = eval a X.env := by rfl)
    (hfew : ((backTo pos (starEach [e] X.env)).all (fun x => !x.1) && (backToKw pos (keywordEach [] X.env)).all (fun x => x.1.isSome)
      && decide ([e].length + ([] : List Keyword).length + (if ([] : List Keyword).isEmpty then 0 else 1) < 30)) = true := by rfl)
    (hline : (apos.endLine == pos.line) = true := by rfl) (hs : starEach [e] X.env = (false, eval e X.env) :: starEach [] X.env := by rfl) (hplain : (backTo pos (starEach [] X.env)).any (·.1) = false := by rfl) :
    PE X (.Call (.Attribute a "index" apos) [e] [] pos) (LE X.K W (zidx za zl)) := by
  refine pe_imp (pe_bm PySem.F.plainAttrs_list PySem.F.slot_list_index PySem.F.type_list_index mt_index ho ha hbase hfew hline hs hplain) fun σ H Q ⟨F, ρ, m, Pi, Qz, Ez, hz, he, h, k, kx⟩ => ?_
  refine ⟨F, ρ, m, Pi, _, Ez, hz, he, h, fun x m1 P1 v H1 l1 z1 r1 q1 => ?_, kx⟩
  dsimp only at q1
  cases q : seqD m1 x with
  | none => rw [q] at q1; exact q1.elim
  | some xs =>
    rw [q] at q1
    obtain ⟨p, vs, rfl, hs1, rs1⟩ := seq_of z1 r1 q
    refine ⟨.inl ⟨rfl, _, hs1⟩, F, ρ, m1, P1, _, Ez, z1, he.mono l1, q1, fun ys m2 P2 ws H2 l2 z2 r2 q2 => ?_, kx.mono l1⟩
    obtain ⟨q3, q2⟩ := q2
    split at q2
    · rename_i y
      obtain ⟨f1, f2, j, zz, e1, e2, e3, q4⟩ := q2
      obtain ⟨v1, rfl, r3⟩ := reps1 r2
      obtain ⟨rfl, fx⟩ := rep_flat r3 f1
      obtain ⟨p2, vs2, ep, hs2, rs2⟩ := seq_of z2 (r1.mono l2) q3
      cases ep
      obtain ⟨rfl, fs⟩ := reps_flat rs2 f2
      refine ⟨p, _, _, j, toV zz, rfl, rfl, hs2, fx, fs, by rw [List.getElem?_map, e1]; rfl, e2, fun i z' hi hz' => ?_, k _ m2 P2 _ H2 (l1.trans l2) z2 .int q4⟩
      rw [List.getElem?_map] at hz'
      obtain ⟨w, hw, rfl⟩ := Option.map_eq_some_iff.mp hz'
      exact e3 i w hi hw
    · exact q2.elim
/-- list + list, the new one may change -/
def oAddLM : ZOp := fun d e m Q => match seqD m d, seqD m e with
  | some xs, some ys => xs.length + ys.length ≤ sizeLine ∧ ∀ p, m p = none → Q (.ref p) (updM m p (.lst (xs ++ ys)))
  | _, _ => False
theorem o_addLM {X : Cx} : OpR X (binaryOp .Add) (RS X.K oAddLM) := by
  intro pins s σ H x y v u Q I rx ry ⟨d, e, F, m, Pi, Qz, z, r1, r2, h, k⟩
  unfold oAddLM at h
  split at h
  · rename_i xs ys q1 q2
    obtain ⟨a, vs, rfl, s1, p1⟩ := seq_of z r1 q1
    obtain ⟨b, ws, rfl, s2, p2⟩ := seq_of z r2 q2
    exact op_catS pins s σ H _ _ v u Q I rx ry ⟨a, b, vs, ws, rfl, rfl, s1, s2, by rw [← p1.length, ← p2.length]; exact h.1, fun p np => fin_lst k z (p1.append p2) np h.2⟩
  · exact h.elim
/-! keyword-only parameters without defaults, told in any order -/
def kwP (c0 : ZSp) (n k : Nat) (g : List D → List D → List D) : List D → ZSp := fun xs zs m Q E => xs.length = n ∧ zs.length = k ∧ c0 (g xs zs) m Q E
section
variable {P : Program} {w : World} {K : PySem.W.Frag} {mg : Str → Option Value} {base : Heap} {k : Nat} {x qual : Str} {args : Arguments} {body : List Stmt} {scope : Scope} {f : Addr} {fd : FuncData} {ps : List Str} {c0 : ZSp}
theorem kbindsP {kws : List (Str × V)} (F : FunD K x qual args body scope [] kws f fd) (n : Nat) (ks : List Str) (g : {α : Type} → List α → List α → List α)
    (hrel : ∀ {vs zs : List V} {us ws : List Value}, Vals vs us → Vals zs ws → Vals (g vs zs) (g us ws))
    (h : ∀ (kV doc pm : Value) (an : Option Addr) (cdv ct : Value) (us ws : List Value), us.length = n → ws.length = ks.length → bindArgs (PySem.W.fnOf x qual args body scope .none kV doc pm an cdv ct) ⟨us, ks.zip ws⟩ = pure (ps.zip (g us ws))) :
    KBn K fd ps n ks (fun us ws => g us ws) (fun vs zs => g vs zs) := by
  obtain ⟨oc, od, dV, kV, doc, pm, an, cdv, ct, osl, rfl, lk, hcd, hD, hK⟩ := F.ex
  rcases hD with ⟨_, rfl⟩ | ⟨e, _⟩
  · exact ⟨fun s us ws X l1 l2 => BindsTo.of_looks fun M => .of_pure (h kV doc pm an cdv ct us ws l1 l2), fun r1 r2 => hrel r1 r2⟩
  · exact absurd rfl e
theorem g_mkP (F : FunD K x qual args body scope [] [] f fd) (gx : mg x = some (.ref f)) (ok : FnOk P w K mg base (L2.CX P w) k f fd ps (SpOf K c0)) (n : Nat) (ks : List Str) (g : {α : Type} → List α → List α → List α)
    (hrel : ∀ {vs zs : List V} {us ws : List Value}, Vals vs us → Vals zs ws → Vals (g vs zs) (g us ws)) (hrel2 : ∀ {Pi : Hp} {xs zs : List D} {vs ws : List V}, Reps K Pi xs vs → Reps K Pi zs ws → Reps K Pi (g xs zs) (g vs ws))
    (h : ∀ (kV doc pm : Value) (an : Option Addr) (cdv ct : Value) (us ws : List Value), us.length = n → ws.length = ks.length → bindArgs (PySem.W.fnOf x qual args body scope .none kV doc pm an cdv ct) ⟨us, ks.zip ws⟩ = pure (ps.zip (g us ws))) : GDefK P w K mg base k x n ks (kwP c0 n ks.length g) :=
  ⟨f, fd, ps, _, _, c0, gx, F.kp, ok, kbindsP F n ks g hrel h, fun Pi xs zs vs ws m Q E r1 r2 h => ⟨h.1, h.2.1, g xs zs, hrel2 r1 r2, h.2.2⟩⟩
theorem vals_rev {vs : List V} {us : List Value} (h : Vals vs us) : Vals vs.reverse us.reverse := by
  induction h with
  | nil => exact .nil
  | cons r t ih =>
    rw [List.reverse_cons, List.reverse_cons]
    exact ih.append (.cons r .nil)
end
/-- a promise that nobody can ask -/
theorem fn_never {P : Program} {w : World} {K : PySem.W.Frag} {mg : Str → Option Value} {base : Heap} {k : Nat} {f : Addr} {fd : FuncData} {ps : List Str} {sp : Sp} (h : ∀ vs H Q E, ¬ sp vs H Q E) : FnOk P w K mg base (L2.CX P w) k f fd ps sp :=
  ⟨fun vs H Q E q => absurd q (h _ _ _ _), fun _ _ _ _ _ _ _ _ _ _ _ _ _ q => absurd q (h _ _ _ _)⟩
end Zed
end
section
set_option maxHeartbeats 4000000
/-! ZFit: all rows of a division, fractions that fit. -/
namespace Zed
open PySem PySem.Spec PyProof.Rows L2
local macro_rules | `(tactic| walk_at "zs") => `(tactic| simp only [zv, zc, zop, zun, anil, acons, ztup, zfl, zlst, zbl, zcall, zcallK, tvl, ttr, tand, tor, tnot, zand, zor, zorT, znot, zif, zchn, zsl, onone, osome, zrev, zrevA, zisi, gn, gnil, gcons, gtup, gsub, snil, sseq, sexp, sret, sretN, sif, sasg, sset, spar, spar3, saug, wkL, zapp, zpop, zseal, xat, snever, tyes, ilist, itup, istr, irng1, irng2, irng3, ienum, ienumT, izip, irev, wipeZ, zev, oAddL, isNon, at2_if, iseq, ienumT, gstar, gtupA, saugS, oGetL, izipS, sl_0, sl_1, sl_2, sl_3, sl_4, sl_5, sl_6, sl_7, sl_8, at1_0, at2_0, at2_1, at3_0, at3_1, at3_2, at4_0, at4_1, at4_2, at4_3, at5_0, at5_1, at5_2, at5_3, at5_4, at6_0, at6_1, at6_2, at6_3, at6_4, at6_5, at7_0, at7_1, at7_2, at7_3, at7_4, at7_5, at7_6, at8_0, at8_1, at8_2, at8_3, at8_4, at8_5, at8_6, at8_7, ixn2_0, ixn2_1, ixn3_0, ixn3_1, ixn3_2, cp_2, vp_2, cp_3, vp_3, cp_6, vp_6, cp_7, vp_7, cp_18, vp_18, cp_60, vp_60, q_truD_1, q_truD_2, q_truD_3, q_truD_4, q_truD_5, q_truD_6, q_oAdd_1, q_oAdd_2, q_oAdd_3, q_oAdd_4, q_oInt_1, q_oSub_1, q_oLt_1, q_oEq_1, q_oNe_1, q_oNe_2, q_oEq_2, q_oIs_1, q_oIs_2, q_oIsNot_1, q_oIsNot_2, q_oNeg_1, q_cAbs_1, q_cMax_1, q_cMin_1, q_cInt_1, q_cInt_2, q_cDivmod_1, q_lenD_1, q_lenD_2, q_lenD_3, q_cLen_1, q_cTuple_1, q_cTuple_2, q_cTuple_3, q_cListF_1, q_cListF_2, q_cListF_3, q_cList_1, q_cList_2, q_seqD_1, q_seqD_2, q_lenD_4, q_oIx_1, q_oIx_2, q_oIx_4, q_oSl_1, q_oSl_2, q_oSl_3, q_oSl_4, q_tyD_1, q_tyD_2, q_tyD_3, q_tyD_4, q_tyD_5, q_tyD_6, q_cIsi_1, q_oSet_1, q_oIAdd_1, q_oIAdd_2, List.getD_cons_zero, List.getD_cons_succ, List.take_zero, List.drop_zero, updM_same, updM_upd, dropM_updM, isi_ii, isi_bi, isi_ib, isi_bb, isi_tt, List.map_cons, List.map_nil, List.replicate_succ, List.replicate_zero, List.cons_append, List.nil_append, List.append_nil, List.set_cons_zero, List.set_cons_succ, List.getElem?_cons_zero, List.getElem?_cons_succ, List.length_cons, List.length_nil, Bool.false_eq_true, if_true, if_false, Bool.not_true, Bool.not_false, Bool.not_eq_true, Bool.not_eq_false', decide_eq_true_eq, true_and, and_true, exists_eq_left', Nat.reduceAdd, Nat.reduceSub, reduceCtorEq, decide_true, decide_false, Bool.true_eq_false, ite_true, ite_false, isw_int, zidx])
abbrev t0 : Tri := (0, 0, 0)
/-- all rows but for the end -/
def EuI (a b : Int) (rows : List Tri) : Prop := 2 ≤ rows.length ∧ rows.getD 0 t0 = (a, 1, 0) ∧ rows.getD 1 t0 = (b, 0, 1) ∧ ∀ i, i + 2 < rows.length → 0 < (rows.getD (i + 1) t0).1 ∧ rows.getD (i + 2) t0 = nxt (rows.getD i t0) (rows.getD (i + 1) t0)
def EuA (a b : Int) (rows : List Tri) : Prop := EuI a b rows ∧ (rows.getD (rows.length - 1) t0).1 = 0 ∧ rows.length ≤ 14020
theorem EuI.step {a b : Int} {pre : List Tri} {x y : Tri} (h : EuI a b (pre ++ [x] ++ [y])) (hy : 0 < y.1) : EuI a b (pre ++ [x] ++ [y] ++ [nxt x y]) := by
  obtain ⟨h1, h2, h3, h4⟩ := h
  have hl : (pre ++ [x] ++ [y]).length = pre.length + 2 := by simp
  have ap : ∀ i, i < pre.length + 2 → (pre ++ [x] ++ [y] ++ [nxt x y]).getD i t0 = (pre ++ [x] ++ [y]).getD i t0 := fun i hi => by
    rw [List.getD_eq_getElem?_getD, List.getD_eq_getElem?_getD, List.getElem?_append_left (by omega)]
  refine ⟨by simp, by rw [ap 0 (by omega)]; exact h2, by rw [ap 1 (by omega)]; exact h3, fun i hi => ?_⟩
  have hi : i < pre.length + 1 := by simp at hi; omega
  by_cases hlt : i + 2 < pre.length + 2
  · rw [ap i (by omega), ap (i + 1) (by omega), ap (i + 2) hlt]
    exact h4 i (by omega)
  · have e : i = pre.length := by omega
    subst e
    have g1 : (pre ++ [x] ++ [y]).getD pre.length t0 = x := by simp
    have g2 : (pre ++ [x] ++ [y]).getD (pre.length + 1) t0 = y := by simp [List.getElem?_append_right]
    have g3 : (pre ++ [x] ++ [y] ++ [nxt x y]).getD (pre.length + 2) t0 = nxt x y := by
      rw [← hl]
      simp
    rw [ap pre.length (by omega), ap (pre.length + 1) (by omega), g1, g2, g3]
    exact ⟨hy, rfl⟩
/-- each two neighbours -/
theorem EuI.at {a b : Int} {rows : List Tri} (h : EuI a b rows) (ha : 0 ≤ a) (hb : 0 ≤ b) : ∀ i, i + 1 < rows.length → ∃ e, EuS a b e (rows.getD i t0) (rows.getD (i + 1) t0) ∧ (b < a → (rows.getD (i + 1) t0).1 < (rows.getD i t0).1 ∧ e * (rows.getD (i + 1) t0).2.2 ≤ -1) := by
  intro i
  induction i with
  | zero =>
    intro _
    refine ⟨-1, ?_, fun hlt => ?_⟩
    · rw [h.2.1, h.2.2.1]
      exact EuS.init ha hb
    · rw [h.2.1, h.2.2.1]
      exact ⟨hlt, show (-1 : Int) * 1 ≤ -1 by decide⟩
  | succ i ih =>
    intro hi
    obtain ⟨e, hs, hn⟩ := ih (by omega)
    obtain ⟨hp, hx⟩ := h.2.2.2 i (by omega)
    refine ⟨-e, by rw [hx]; exact hs.step hp, fun hlt => ?_⟩
    obtain ⟨n1, n2⟩ := hn hlt
    rw [hx]
    generalize rows.getD i t0 = x at *
    generalize rows.getD (i + 1) t0 = y at *
    have q1 : 1 ≤ x.1 / y.1 := Int.le_ediv_of_mul_le hp (by omega)
    refine ⟨by rw [nxt_mod]; exact Int.emod_lt_of_pos _ hp, ?_⟩
    show -e * (x.2.2 - x.1 / y.1 * y.2.2) ≤ -1
    generalize x.1 / y.1 = q at q1
    have h1 := hs.tx
    have h2 : q * (e * y.2.2) ≤ 1 * -1 := by
      have h3 := Int.mul_le_mul q1 (show (1 : Int) ≤ -(e * y.2.2) by omega) (by decide) (by omega)
      rw [Int.mul_neg] at h3
      omega
    have h4 : -e * (x.2.2 - q * y.2.2) = -(e * x.2.2) + q * (e * y.2.2) := by grind
    omega
theorem EuA.R {a b : Int} {rows : List Tri} (h : EuA a b rows) : rows.length ≤ 14020 := h.2.2
/-! ### rows_of, all told -/
def c_rows_ofX : ZSp := fun ds m Q _ => ∃ a b : Int, ds = [.int a, .int b] ∧ 0 ≤ a ∧ a < 2 ^ 7000 ∧ 0 ≤ b ∧ b < 2 ^ 7000 ∧ (0 < a ∨ 0 < b) ∧ ∀ rows, EuA a b rows → EuR a b rows → Q (.fl (rows.map tri)) m
theorem w_rows_of_X (ds : List D) (m : Mu) (Q : QE) (E : QX) (h : c_rows_ofX ds m Q E) : ds.length = 2 ∧ b_rows_of ⟨fun _ m => Q .non m, Q, fun x _ m => E x m⟩ (ds.map some ++ List.replicate (8 - ds.length) none) m := by
  obtain ⟨a, b, rfl, a0, a1, b0, b1, ab, h⟩ := h
  refine ⟨rfl, ?_⟩
  unfold b_rows_of
  walk_at "zs"
  refine fun p np => ?_
  refine while_i (fun k ρ m' => ∃ (pre : List Tri) (x y : Tri) (e : Int) (y3 y4 y5 y6 y7 : Option D), k = y.1.toNat ∧ EuI a b (pre ++ [x] ++ [y]) ∧ EuS a b e x y ∧ EuL a b x y (pre.length + 2) ∧ (x.2.1.natAbs : Int) ≤ b + 1 ∧ (x.2.2.natAbs : Int) ≤ a + 1 ∧ (y.2.1.natAbs : Int) ≤ b + 1 ∧ (y.2.2.natAbs : Int) ≤ a + 1 ∧ pre.length ≤ 14010 ∧ x.1 < 2 ^ 7000 ∧ y.1 < 2 ^ 7000 ∧
      ρ = [some (.int a), some (.int b), some (.ref p), y3, y4, y5, y6, y7] ∧ m' = updM m p (.lst ((pre ++ [x] ++ [y]).map tri))) b.toNat ⟨[], (a, 1, 0), (b, 0, 1), -1, none, none, none, none, none, rfl, ⟨Nat.le_refl 2, rfl, rfl, fun i hi => by have : i + 2 < 2 := hi; omega⟩, EuS.init a0 b0, .inl ⟨rfl, rfl, rfl⟩, by simp; omega, by simp; omega, by simp; omega, by simp; omega, by simp, a1, b1, rfl, rfl⟩ ?_
  rintro k ρ m' ⟨pre, x, y, e, y3, y4, y5, y6, y7, rfl, hI, hs, hl, bx, bx2, by1, by2, hp, hx7, hy7, rfl, rfl⟩
  have eL : (pre ++ [x] ++ [y]).map tri = (pre ++ [x]).map tri ++ [tri y] := by rw [List.map_append]; rfl
  walk_at "zs"
  rw [eL, atI_last, show tri y = .tup [.int y.1, .int y.2.1, .int y.2.2] from rfl]
  walk_at "zs"
  by_cases hy : 0 < y.1
  · rw [if_pos hy]
    rw [show (pre ++ [x]).map tri = pre.map tri ++ [tri x] by rw [List.map_append]; rfl]
    rw [cut_two]
    walk_at "zs"
    rw [show tri x = .tup [.int x.1, .int x.2.1, .int x.2.2] from rfl]
    walk_at "zs"
    have y8 : y.1 < 2 ^ 8000 := Int.lt_of_lt_of_le hy7 (two_le (by decide))
    refine ⟨small_fdv hy y8, ⟨_, rfl⟩, ?_⟩
    rw [comp_e]
    walk_at "zs"
    have q0 : 0 ≤ x.1 / y.1 := Int.ediv_nonneg hs.x0 hs.y0
    have q1 : x.1 / y.1 ≤ x.1 := Int.ediv_le_self _ hs.x0
    have qs : (x.1 / y.1).natAbs < 2 ^ 7000 := abs_lt q0 (by omega)
    have a8 : a + 1 < 2 ^ 7001 := by
      have : (2 : Int) ^ 7001 = 2 ^ 7000 * 2 := Int.pow_succ 2 7000
      omega
    have b8 : b + 1 < 2 ^ 7001 := by
      have : (2 : Int) ^ 7001 = 2 ^ 7000 * 2 := Int.pow_succ 2 7000
      omega
    have m1 : CMulW (x.1 / y.1) y.1 := mul_ok qs (abs_lt hs.y0 hy7) (by decide)
    have m2 : CMulW (x.1 / y.1) y.2.1 := mul_ok qs (b := 7001) (by rw [← PySem.W.kbt_cast] at b8; omega) (by decide)
    have m3 : CMulW (x.1 / y.1) y.2.2 := mul_ok qs (b := 7001) (by rw [← PySem.W.kbt_cast] at a8; omega) (by decide)
    refine comp_map (fun i => match i with | 0 => D.int (x.1 - x.1 / y.1 * y.1) | 1 => .int (x.2.1 - x.1 / y.1 * y.2.1) | _ => .int (x.2.2 - x.1 / y.1 * y.2.2)) (by show (3 : Nat) ≤ sizeLine; rw [sizeLine_eq]; decide) trivial (fun i hi K1 K2 hK => ?_) ?_
    · have hi' : i < 3 := hi
      have cs : i = 0 ∨ i = 1 ∨ i = 2 := by omega
      rcases cs with rfl | rfl | rfl
      · walk_at "zs"
        exact ⟨m1, hK⟩
      · walk_at "zs"
        exact ⟨m2, hK⟩
      · walk_at "zs"
        exact ⟨m3, hK⟩
    · show cTuple [.fl [.int (nxt x y).1, .int (nxt x y).2.1, .int (nxt x y).2.2]] _ _
      walk_at "zs"
      have st := hs.step hy
      have z1 : (nxt x y).1 < y.1 := by rw [nxt_mod]; exact Int.emod_lt_of_pos _ hy
      have sm := st.small hy
      have ln := hl.len a0 b0 a1 b1 hy
      refine ⟨by simp [sizeLine_eq]; omega, (nxt x y).1.toNat, by have := st.y0; omega, pre ++ [x], y, nxt x y, -e, _, _, _, _, _, rfl, hI.step hy, st, ?_, by1, by2, by omega, by omega, ?_, hy7, by omega, rfl, ?_⟩
      · rw [List.length_append]
        exact hl.step hs.x0 hy
      · rw [List.length_append]
        show pre.length + 1 ≤ 14010
        omega
      · rw [List.map_append, List.map_append, List.map_append]
        rfl
  · rw [if_neg hy]
    have hy' : y.1 = 0 := by have := hs.y0; omega
    have hg := hs.g
    rw [hy', Int.gcd_zero_right] at hg
    have x0 := hs.x0
    have gp : 0 < Int.gcd a b := Int.gcd_pos_iff.mpr (by omega)
    have := h (pre ++ [x] ++ [y]) ⟨hI, by
      have g2 : (pre ++ [x] ++ [y]).getD ((pre ++ [x] ++ [y]).length - 1) t0 = y := by simp [List.getElem?_append_right]
      rw [g2]; exact hy', by simp; omega⟩ ⟨pre, x, y, rfl, by omega, hy', by omega, hs.lx, bx, by simp; omega⟩
    rw [eL] at this
    rw [dropM_updM np]
    exact this
/-! ### fractions that fit -/
def IsFit (M r T B a b : Int) : Prop := 1 ≤ b ∧ b ≤ B ∧ -T ≤ a ∧ a ≤ T ∧ M ∣ a - r * b
def FitIs (M r T B : Int) : Option (Int × Int) → Prop
  | some (a, b) => IsFit M r T B a b ∧ ∀ a' b', IsFit M r T B a' b' → ∃ k, 1 ≤ k ∧ a' = k * a ∧ b' = k * b
  | none => ∀ a' b', ¬ IsFit M r T B a' b'
theorem FitIs.uniq {M r T B : Int} {o o' : Option (Int × Int)} (h : FitIs M r T B o) (h' : FitIs M r T B o') : o = o' := by
  cases o with
  | none =>
    cases o' with
    | none => rfl
    | some p => exact absurd h'.1 (h _ _)
  | some p =>
    obtain ⟨a, b⟩ := p
    cases o' with
    | none => exact absurd h.1 (h' _ _)
    | some p' =>
      obtain ⟨a', b'⟩ := p'
      obtain ⟨k, k1, ka, kb⟩ := h.2 a' b' h'.1
      obtain ⟨j, j1, ja, jb⟩ := h'.2 a b h.1
      have hb := h.1.1
      have e : b = j * k * b := by rw [Int.mul_assoc, ← kb, ← jb]
      have jk : j * k = 1 := by
        have : (j * k - 1) * b = 0 := by rw [Int.sub_mul]; omega
        rcases Int.mul_eq_zero.mp this with z | z <;> omega
      have hk : k = 1 := by
        have h1 := Int.mul_le_mul j1 (Int.le_refl k) (by omega) (by omega)
        omega
      subst hk
      rw [ka, kb, Int.one_mul, Int.one_mul]
theorem dvd_small {M d : Int} (h : M ∣ d) (h1 : -M < d) (h2 : d < M) : d = 0 := by
  have h3 : (d.natAbs : Int) < M := by omega
  exact Int.eq_zero_of_dvd_of_natAbs_lt_natAbs h (by omega)
theorem fit_core {M r T B e : Int} {x y : Tri} (hs : EuS M r e x y) (hM : 0 < M) (hx : T < x.1) (hy : y.1 ≤ T) (hn : e * y.2.2 ≤ -1) (hB : 2 * T * B < M) (hT : 0 ≤ T) {a b : Int} (h : IsFit M r T B a b) : ∃ k, 1 ≤ k ∧ a = k * (-(e * y.1)) ∧ b = k * (-(e * y.2.2)) := by
  obtain ⟨x1, x2, x3⟩ := x
  obtain ⟨y1, y2, y3⟩ := y
  obtain ⟨x0, y0, lx, ly, g, ee, ds, dt, sy, sx, ty, tx⟩ := hs
  obtain ⟨b0, bB, a0, a1, c, hc⟩ := h
  dsimp only at *
  have ee2 : e * e = 1 := by rcases ee with rfl | rfl <;> rfl
  -- the place as a sum of both rows
  have hA : M * (y2 * b * e * -1 + y3 * c * e * -1 * -1 * -1 * -1) = M * (y2 * b * e * -1 + y3 * c * e) := by grind
  have e1 : a * y3 - y1 * b = M * (c * y3 - y2 * b) := by
    have : a = M * c + r * b := by omega
    rw [this, ly]
    grind
  have e2 : x1 * b - a * x3 = M * (x2 * b - c * x3) := by
    have : a = M * c + r * b := by omega
    rw [this, lx]
    grind
  generalize hα : -(e * (c * y3 - y2 * b)) = α
  generalize hβ : -(e * (x2 * b - c * x3)) = β
  have det : x1 * y3 - y1 * x3 = -(e * M) := by
    have : e * (e * (x1 * y3 - y1 * x3)) = e * -M := by rw [dt]
    rw [← Int.mul_assoc, ee2, Int.one_mul] at this
    rw [this, Int.mul_neg]
  have ha : a = α * x1 + β * y1 := by
    have h1 : M * a = M * (α * x1 + β * y1) := by
      have q1 : M * α = -(e * (a * y3 - y1 * b)) := by rw [e1, ← hα]; grind
      have q2 : M * β = -(e * (x1 * b - a * x3)) := by rw [e2, ← hβ]; grind
      have q3 : M * (α * x1 + β * y1) = M * α * x1 + M * β * y1 := by grind
      rw [q3, q1, q2]
      have q4 : -(e * (a * y3 - y1 * b)) * x1 + -(e * (x1 * b - a * x3)) * y1 = -(e * a * (x1 * y3 - y1 * x3)) := by grind
      rw [q4, det]
      have q5 : -(e * a * -(e * M)) = e * e * (M * a) := by grind
      rw [q5, ee2, Int.one_mul]
    exact Int.eq_of_mul_eq_mul_left (by omega) h1
  have hb : b = α * x3 + β * y3 := by
    have h1 : M * b = M * (α * x3 + β * y3) := by
      have q1 : M * α = -(e * (a * y3 - y1 * b)) := by rw [e1, ← hα]; grind
      have q2 : M * β = -(e * (x1 * b - a * x3)) := by rw [e2, ← hβ]; grind
      have q3 : M * (α * x3 + β * y3) = M * α * x3 + M * β * y3 := by grind
      rw [q3, q1, q2]
      have q4 : -(e * (a * y3 - y1 * b)) * x3 + -(e * (x1 * b - a * x3)) * y3 = -(e * b * (x1 * y3 - y1 * x3)) := by grind
      rw [q4, det]
      have q5 : -(e * b * -(e * M)) = e * e * (M * b) := by grind
      rw [q5, ee2, Int.one_mul]
    exact Int.eq_of_mul_eq_mul_left (by omega) h1
  -- by the numbers -(e y3) and e x3
  generalize hY : -(e * y3) = Y at *
  have Y1 : 1 ≤ Y := by omega
  generalize hX : e * x3 = X at *
  have y3e : y3 = -(e * Y) := by rw [← hY]; have : e * -(e * y3) = -(e * e * y3) := by grind
                                 rw [this, ee2]; omega
  have x3e : x3 = e * X := by rw [← hX, ← Int.mul_assoc, ee2, Int.one_mul]
  have hb2 : e * b = α * X - β * Y := by
    rw [hb, y3e, x3e]
    have : e * (α * (e * X) + β * -(e * Y)) = e * e * (α * X - β * Y) := by grind
    rw [this, ee2, Int.one_mul]
  have YB : Y ≤ B ∨ α = 0 := by
    by_cases hα0 : α = 0
    · exact .inr hα0
    refine .inl ?_
    have sgn : ∀ u v : Int, u ≠ 0 → (0 < u ∧ 0 ≤ v ∨ u < 0 ∧ v ≤ 0) → u * x1 + v * y1 = a → False := fun u v _ hs he => by
      rcases hs with ⟨h1, h2⟩ | ⟨h1, h2⟩
      · have k1 := Int.mul_le_mul_of_nonneg_right (show 1 ≤ u by omega) x0
        have k2 := Int.mul_nonneg h2 y0
        omega
      · have k1 := Int.mul_le_mul_of_nonneg_right (show u ≤ -1 by omega) x0
        have k2 := Int.mul_nonneg (show 0 ≤ -v by omega) y0
        rw [Int.neg_mul] at k2
        omega
    have big : ∀ u v : Int, 0 ≤ u → 1 ≤ v → u * X + v * Y ≤ B → Y ≤ B := fun u v hu hv he => by
      have k1 := Int.mul_nonneg hu tx
      have k2 := Int.mul_le_mul_of_nonneg_right hv (show 0 ≤ Y by omega)
      omega
    rcases Int.lt_trichotomy α 0 with h1 | h1 | h1
    · have h2 : 0 < β := by
        rcases (by omega : 0 < β ∨ β ≤ 0) with h | h
        · exact h
        · exact (sgn α β hα0 (.inr ⟨h1, h⟩) ha.symm).elim
      rcases ee with rfl | rfl
      · have k1 := Int.mul_nonneg (show 0 ≤ -α by omega) tx
        have k2 := Int.mul_le_mul_of_nonneg_right (show 1 ≤ β by omega) (show 0 ≤ Y by omega)
        rw [Int.neg_mul] at k1
        omega
      · exact big (-α) β (by omega) (by omega) (by rw [Int.neg_mul]; omega)
    · exact absurd h1 hα0
    · have h2 : β < 0 := by
        rcases (by omega : β < 0 ∨ 0 ≤ β) with h | h
        · exact h
        · exact (sgn α β hα0 (.inl ⟨h1, h⟩) ha.symm).elim
      rcases ee with rfl | rfl
      · exact big α (-β) (by omega) (by omega) (by rw [Int.neg_mul]; omega)
      · have k1 := Int.mul_nonneg (show 0 ≤ α by omega) tx
        have k2 := Int.mul_le_mul_of_nonneg_right (show 1 ≤ -β by omega) (show 0 ≤ Y by omega)
        rw [Int.neg_mul] at k2
        omega
  have hα0 : α = 0 := by
    rcases YB with h | h
    · have d : M ∣ a * y3 - y1 * b := ⟨_, e1⟩
      have n1 : (a * y3).natAbs ≤ (T * B).natAbs := by
        rw [Int.natAbs_mul, Int.natAbs_mul]
        refine Nat.mul_le_mul (by omega) ?_
        rcases ee with rfl | rfl <;> omega
      have n2 : 0 ≤ y1 * b := Int.mul_nonneg y0 (by omega)
      have n3 : y1 * b ≤ T * B := Int.mul_le_mul hy bB (by omega) hT
      have tb : 0 ≤ T * B := Int.mul_nonneg hT (by omega)
      have e3 : 2 * T * B = 2 * (T * B) := Int.mul_assoc 2 T B
      have z := dvd_small d (by omega) (by omega)
      rw [z] at e1
      rcases Int.mul_eq_zero.mp e1.symm with z2 | z2
      · omega
      · rw [← hα, z2]; simp
    · exact h
  rw [hα0] at ha hb hb2
  refine ⟨-(e * β), ?_, ?_, ?_⟩
  · rw [Int.zero_mul] at hb2
    have e5 : b = -(e * β) * Y := by
      have : e * (e * b) = e * (0 - β * Y) := by rw [hb2]
      rw [← Int.mul_assoc, ee2, Int.one_mul] at this
      rw [this]
      grind
    have pos : 0 < -(e * β) * Y := by omega
    rcases (by omega : 0 < (-(e * β)) ∨ (-(e * β)) ≤ 0) with h | h
    · omega
    · have := Int.mul_nonneg (show 0 ≤ -(-(e * β)) by omega) (show 0 ≤ Y by omega)
      rw [Int.neg_mul] at this
      omega
  · rw [ha]
    have : -(e * β) * -(e * y1) = e * e * (β * y1) := by grind
    rw [this, ee2]
    omega
  · rw [hb, y3e]
    grind
/-! ### fits.py -/
def b_check_fit : ZTS :=
  (sseq (sexp (zcall c_check_modulus (acons (zv 0) anil)))
    (sseq (sif (tor (tnot (tvl (zcall c_is_whole (acons (zv 1) anil)))) (tnot (tvl (zchn oLe oLt (zc (.int 0)) (zv 1) (zv 0))))) snever snil)
    (sif (tor (tnot (tvl (zcall c_is_whole (acons (zv 2) anil)))) (tor (tnot (tvl (zcall c_is_whole (acons (zv 3) anil)))) (tor (tvl (zop oLt (zv 2) (zc (.int 0)))) (tor (tvl (zop oLt (zv 3) (zc (.int 1)))) (tvl (zop oGe (zop oMul (zop oMul (zc (.int 2)) (zv 2)) (zv 3)) (zv 0))))))) snever snil)))
abbrev G60 : Int := 1000000000000000000000000000000000000000000000000000000000000
theorem g60 {n : Int} (h : n ≤ G60) : n < 2 ^ 300 := Int.lt_of_le_of_lt h (by decide +kernel)
theorem g60n {n : Int} (h0 : 0 ≤ n) (h : n ≤ G60) : n.natAbs < 2 ^ 300 := abs_lt h0 (g60 h)
structure FitB (M r T B : Int) : Prop where
  m0 : 2 ≤ M
  m1 : M ≤ G60
  r0 : 0 ≤ r
  r1 : r < M
  t0 : 0 ≤ T
  b0 : 1 ≤ B
  tb : 2 * T * B < M
theorem FitB.t1 {M r T B : Int} (h : FitB M r T B) : T < M := by
  have k1 := Int.mul_le_mul_of_nonneg_left h.b0 (show 0 ≤ 2 * T by have := h.t0; omega)
  have := h.t0
  have := h.tb
  omega
def c_check_fit : ZSp := fun ds m Q _ => ∃ M r T B : Int, ds = [.int M, .int r, .int T, .int B] ∧ FitB M r T B ∧ B ≤ G60 ∧ Q .non m
theorem w_check_fit (ds : List D) (m : Mu) (Q : QE) (E : QX) (h : c_check_fit ds m Q E) : ds.length = 4 ∧ b_check_fit ⟨fun _ m => Q .non m, Q, fun x _ m => E x m⟩ (ds.map some ++ List.replicate (4 - ds.length) none) m := by
  obtain ⟨M, r, T, B, rfl, hb, hB, h⟩ := h
  refine ⟨rfl, ?_⟩
  obtain ⟨m0, m1, r0, r1, t0, b0, tb⟩ := hb
  have t1 := FitB.t1 ⟨m0, m1, r0, r1, t0, b0, tb⟩
  unfold b_check_fit
  walk_at "zs"
  refine ⟨M, rfl, m0, m1, ?_⟩
  walk_at "zs"
  rw [if_pos r0, decide_eq_true r1]
  walk_at "zs"
  rw [if_neg (by omega), if_neg (by omega)]
  have q1 : T.natAbs < 2 ^ 300 := g60n t0 (by omega)
  have q2 : B.natAbs < 2 ^ 300 := g60n (by omega) hB
  have q3 : (2 * T).natAbs < 2 ^ 310 := by
    rw [Int.natAbs_mul]
    have e : (2 : Nat) ^ 310 = 1024 * 2 ^ 300 := by rw [show 310 = 10 + 300 from rfl, Nat.pow_add]
    rw [e]
    show 2 * _ < _
    omega
  refine ⟨mul_ok (i := 2) (a := 10) (by decide) q1 (by decide), mul_ok q3 q2 (by decide), ?_⟩
  rw [if_neg (by omega)]
  exact h
def b_rows_around : ZTS :=
  (sseq (sset (zlc (iseq (zcall c_rows_ofX (acons (zv 0) (acons (zv 1) anil)))) (gtup 3 (gcons (gn 4) (gcons (gn 5) (gcons (gn 6) gnil)))) tyes (ztup (acons (zv 4) (acons (zv 6) anil))) [4, 5, 6]) 3)
    (sseq (sset (zidx (zlc (iseq (zv 3)) (gtup 2 (gcons (gn 4) (gcons (gn 6) gnil))) tyes (zop oLe (zv 4) (zv 2)) [4, 6]) (acons (zc (.bl true)) anil)) 7)
    (sret (ztup (acons (zop oIx (zv 3) (zop oSub (zv 7) (zc (.int 1)))) (acons (zop oIx (zv 3) (zv 7)) anil))))))
def c_rows_around : ZSp := fun ds m Q _ => ∃ M r T : Int, ds = [.int M, .int r, .int T] ∧ 0 ≤ r ∧ r < M ∧ M ≤ G60 ∧ 0 ≤ T ∧ T < M ∧ ∀ (x y : Tri) (e : Int), EuS M r e x y → T < x.1 → y.1 ≤ T → e * y.2.2 ≤ -1 → Q (.tup [.tup [.int x.1, .int x.2.2], .tup [.int y.1, .int y.2.2]]) m
def pr3 (x : Tri) : D := .tup [.int x.1, .int x.2.2]
theorem find_first {α : Type} (q : α → Bool) (d : α) : ∀ (xs : List α), (∃ x ∈ xs, q x = true) → ∃ j, j < xs.length ∧ q (xs.getD j d) = true ∧ ∀ i, i < j → q (xs.getD i d) = false
  | [], h => by obtain ⟨x, hx, _⟩ := h; cases hx
  | x :: xs, h => by
    cases hq : q x with
    | true => exact ⟨0, Nat.succ_pos _, hq, fun i hi => absurd hi (Nat.not_lt_zero _)⟩
    | false =>
      obtain ⟨j, h1, h2, h3⟩ := find_first q d xs (by
        obtain ⟨y, hy, hqy⟩ := h
        rcases List.mem_cons.mp hy with rfl | hy
        · rw [hq] at hqy; cases hqy
        · exact ⟨y, hy, hqy⟩)
      refine ⟨j + 1, Nat.succ_lt_succ h1, h2, fun i hi => ?_⟩
      cases i with
      | zero => exact hq
      | succ i => exact h3 i (by omega)
theorem w_rows_around (ds : List D) (m : Mu) (Q : QE) (E : QX) (h : c_rows_around ds m Q E) : ds.length = 3 ∧ b_rows_around ⟨fun _ m => Q .non m, Q, fun x _ m => E x m⟩ (ds.map some ++ List.replicate (8 - ds.length) none) m := by
  obtain ⟨M, r, T, rfl, r0, r1, m1, t0', t1, h⟩ := h
  refine ⟨rfl, ?_⟩
  have m7 : M < 2 ^ 7000 := Int.lt_of_lt_of_le (g60 m1) (two_le (by decide))
  unfold b_rows_around
  walk_at "zs"
  rw [comp_e]
  walk_at "zs"
  refine ⟨M, r, rfl, by omega, m7, r0, by omega, .inl (by omega), fun rows hA hR => ?_⟩
  have hl := hA.2.2
  have h2 := hA.1.1
  walk_at "zs"
  refine comp_mapE (fun i => pr3 (rows.getD i t0)) (rows.map pr3) (by show (rows.map tri).length ≤ _; rw [List.length_map, sizeLine_eq]; omega) trivial (fun i hi K1 K2 hK => ?_) (by
    show (List.range (rows.map tri).length).map _ = _
    rw [List.length_map, range_getD rows t0 pr3]) ?_
  · have hi' := lt_len hi
    show gtup 3 _ ((rows.map tri).getD i .non) _ _ _ _
    rw [getD_tri hi']
    walk_at "zs"
    exact hK
  · rw [comp_e]
    walk_at "zs"
    refine comp_mapE (fun i => .bl (decide ((rows.getD i t0).1 ≤ T))) ((rows.map fun x => decide (x.1 ≤ T)).map .bl) (by show (rows.map pr3).length ≤ _; rw [List.length_map, sizeLine_eq]; omega) trivial (fun i hi K1 K2 hK => ?_) (by
      show (List.range (rows.map pr3).length).map _ = _
      rw [List.length_map, range_getD rows t0 fun x => D.bl (decide (x.1 ≤ T)), List.map_map]
      rfl) ?_
    · have hi' := lt_len hi
      show gtup 2 _ ((rows.map pr3).getD i .non) _ _ _ _
      rw [show (rows.map pr3).getD i .non = .tup [.int (rows.getD i t0).1, .int (rows.getD i t0).2.2] by simp [List.getD_eq_getElem?_getD, hi', pr3]]
      walk_at "zs"
      exact hK
    · obtain ⟨j, jl, jq, jn⟩ := find_first (fun x : Tri => decide (x.1 ≤ T)) t0 rows ⟨rows.getD (rows.length - 1) t0, getD_mem (by omega), by rw [hA.2.1]; exact decide_eq_true t0'⟩
      have j0 : 0 < j := by
        rcases Nat.eq_zero_or_pos j with rfl | h
        · rw [hA.1.2.1] at jq
          have := of_decide_eq_true jq
          dsimp only at this
          omega
        · exact h
      obtain ⟨e, hs, hn⟩ := hA.1.at (by omega) r0 (j - 1) (by omega)
      rw [show j - 1 + 1 = j by omega] at hs hn
      obtain ⟨_, n2⟩ := hn r1
      have jp := of_decide_eq_false (jn (j - 1) (by omega))
      walk_at "zs"
      refine ⟨rfl, by rw [List.all_map]; exact List.all_eq_true.mpr fun _ _ => rfl, j, .bl true, ?_, rfl, fun i z hi hz => ?_, ?_⟩
      · have : (rows.map fun x : Tri => decide (x.1 ≤ T))[j]? = some true := by
          rw [List.getElem?_map, List.getElem?_eq_getElem jl]
          rw [List.getD_eq_getElem?_getD, List.getElem?_eq_getElem jl] at jq
          exact congrArg some jq
        rw [List.getElem?_map, this]
        rfl
      · have hil : i < rows.length := by omega
        have := jn i hi
        rw [List.getD_eq_getElem?_getD, List.getElem?_eq_getElem hil] at this
        rw [List.getElem?_map, List.getElem?_map, List.getElem?_eq_getElem hil] at hz
        have ez := Option.some.inj hz
        rw [← ez]
        show (decide (rows[i].1 ≤ T) == true) = false
        have this : decide (rows[i].1 ≤ T) = false := this
        rw [this]
        rfl
      · have g : ∀ k : Nat, k < rows.length → atI (rows.map pr3) (k : Int) = some (pr3 (rows.getD k t0)) := fun k hk => atI_nat (by rw [List.getElem?_map, List.getElem?_eq_getElem hk, List.getD_eq_getElem?_getD, List.getElem?_eq_getElem hk]; rfl)
        rw [show (j : Int) - 1 = ((j - 1 : Nat) : Int) by omega, g _ (by omega)]
        walk_at "zs"
        rw [g j jl]
        walk_at "zs"
        exact h _ _ e hs (by omega) (of_decide_eq_true jq) n2
def b_upright : ZTS :=
  (sseq (sif (tvl (zop oLt (zv 1) (zc (.int 0)))) (sret (ztup (acons (zop oSub (zc (.int 0)) (zv 0)) (acons (zop oSub (zc (.int 0)) (zv 1)) anil)))) snil)
    (sret (ztup (acons (zv 0) (acons (zv 1) anil)))))
def c_upright : ZSp := fun ds m Q _ => ∃ a b : Int, ds = [.int a, .int b] ∧ Q (if b < 0 then .tup [.int (0 - a), .int (0 - b)] else .tup [.int a, .int b]) m
theorem w_upright (ds : List D) (m : Mu) (Q : QE) (E : QX) (h : c_upright ds m Q E) : ds.length = 2 ∧ b_upright ⟨fun _ m => Q .non m, Q, fun x _ m => E x m⟩ (ds.map some ++ List.replicate (2 - ds.length) none) m := by
  obtain ⟨a, b, rfl, h⟩ := h
  refine ⟨rfl, ?_⟩
  unfold b_upright
  walk_at "zs"
  by_cases hb : b < 0
  · rw [if_pos hb] at h ⊢
    exact h
  · rw [if_neg hb] at h ⊢
    exact h
def fitD : Option (Int × Int) → D
  | some p => .tup [.int p.1, .int p.2]
  | none => .non
def b_fit : ZTS :=
  (sseq (sexp (zcall c_check_fit (acons (zv 0) (acons (zv 1) (acons (zv 2) (acons (zv 3) anil))))))
    (sseq (sasg (zcall c_rows_around (acons (zv 0) (acons (zv 1) (acons (zv 2) anil)))) (gtup 2 (gcons (gn 4) (gcons (gn 5) gnil))))
    (sseq (sset (zcall c_upright (acons (zop oIx (zv 5) (zc (.int 0))) (acons (zop oIx (zv 5) (zc (.int 1))) anil))) 6)
    (sret (zif (tvl (zop oLe (zop oIx (zv 6) (zc (.int 1))) (zv 3))) (zv 6) (zc .non))))))
def c_fit : ZSp := fun ds m Q _ => ∃ M r T B : Int, ds = [.int M, .int r, .int T, .int B] ∧ FitB M r T B ∧ B ≤ G60 ∧ ∀ o, FitIs M r T B o → Q (fitD o) m
def c_fitK : List D → ZSp := kwP c_fit 2 2 fun us ws => us ++ ws
def c_fitKR : List D → ZSp := kwP c_fit 2 2 fun us ws => us ++ ws.reverse
theorem w_fit (ds : List D) (m : Mu) (Q : QE) (E : QX) (h : c_fit ds m Q E) : ds.length = 4 ∧ b_fit ⟨fun _ m => Q .non m, Q, fun x _ m => E x m⟩ (ds.map some ++ List.replicate (7 - ds.length) none) m := by
  obtain ⟨M, r, T, B, rfl, hb, hB, h⟩ := h
  refine ⟨rfl, ?_⟩
  have t1 := hb.t1
  unfold b_fit
  walk_at "zs"
  refine ⟨M, r, T, B, rfl, hb, hB, M, r, T, rfl, hb.r0, hb.r1, hb.m1, hb.t0, t1, fun x y e hs hx hy hn => ?_⟩
  walk_at "zs"
  refine ⟨y.1, y.2.2, rfl, ?_⟩
  have ee := hs.ee
  have up : (if y.2.2 < 0 then D.tup [.int (0 - y.1), .int (0 - y.2.2)] else .tup [.int y.1, .int y.2.2]) = .tup [.int (-(e * y.1)), .int (-(e * y.2.2))] := by
    rcases ee with rfl | rfl
    · rw [if_pos (by omega)]
      congr 3
      · omega
      · congr 1
        omega
    · rw [if_neg (by omega)]
      congr 3
      · omega
      · congr 1
        omega
  rw [up]
  walk_at "zs"
  have core := fun a b hf => fit_core hs (by have := hb.m0; omega) hx hy hn hb.tb hb.t0 (a := a) (b := b) hf
  have hY := hs.y0
  by_cases hlt : -(e * y.2.2) ≤ B
  · rw [if_pos hlt]
    refine h (some (-(e * y.1), -(e * y.2.2))) ⟨⟨by omega, hlt, by rcases ee with rfl | rfl <;> omega, by rcases ee with rfl | rfl <;> omega, ?_⟩, core⟩
    refine ⟨-(e * y.2.1), ?_⟩
    have ly := hs.ly
    have : -(e * y.1) - r * -(e * y.2.2) = -(e * (y.1 - y.2.2 * r)) := by grind
    rw [this, ly]
    grind
  · rw [if_neg hlt]
    refine h none fun a b hf => ?_
    obtain ⟨k, k1, ka, kb⟩ := core a b hf
    have := hf.2.1
    have k2 := Int.mul_le_mul_of_nonneg_right k1 (show 0 ≤ -(e * y.2.2) by omega)
    omega
end Zed
end
section
set_option maxHeartbeats 4000000
/-! ZIs: the laws' own comparing, value by value. -/
namespace Zed
open PySem PySem.Spec PyProof.Rows L2
local macro_rules | `(tactic| walk_at "zs") => `(tactic| simp only [zv, zc, zop, zun, anil, acons, ztup, zfl, zlst, zbl, zcall, zcallK, tvl, ttr, tand, tor, tnot, zand, zor, zorT, znot, zif, zchn, zsl, onone, osome, zrev, zrevA, zisi, gn, gnil, gcons, gtup, gsub, snil, sseq, sexp, sret, sretN, sif, sasg, sset, spar, spar3, saug, wkL, zapp, zpop, zseal, xat, snever, tyes, ilist, itup, istr, irng1, irng2, irng3, ienum, ienumT, izip, irev, wipeZ, zev, oAddL, isNon, at2_if, iseq, ienumT, gstar, gtupA, saugS, oGetL, izipS, sl_0, sl_1, sl_2, sl_3, sl_4, sl_5, sl_6, sl_7, sl_8, at1_0, at2_0, at2_1, at3_0, at3_1, at3_2, at4_0, at4_1, at4_2, at4_3, at5_0, at5_1, at5_2, at5_3, at5_4, at6_0, at6_1, at6_2, at6_3, at6_4, at6_5, at7_0, at7_1, at7_2, at7_3, at7_4, at7_5, at7_6, at8_0, at8_1, at8_2, at8_3, at8_4, at8_5, at8_6, at8_7, ixn2_0, ixn2_1, ixn3_0, ixn3_1, ixn3_2, cp_2, vp_2, cp_3, vp_3, cp_6, vp_6, cp_7, vp_7, cp_18, vp_18, cp_60, vp_60, q_truD_1, q_truD_2, q_truD_3, q_truD_4, q_truD_5, q_truD_6, q_oAdd_1, q_oAdd_2, q_oAdd_3, q_oAdd_4, q_oInt_1, q_oSub_1, q_oLt_1, q_oEq_1, q_oNe_1, q_oNe_2, q_oEq_2, q_oIs_1, q_oIs_2, q_oIsNot_1, q_oIsNot_2, q_oNeg_1, q_cAbs_1, q_cMax_1, q_cMin_1, q_cInt_1, q_cInt_2, q_cDivmod_1, q_lenD_1, q_lenD_2, q_lenD_3, q_cLen_1, q_cTuple_1, q_cTuple_2, q_cTuple_3, q_cListF_1, q_cListF_2, q_cListF_3, q_cList_1, q_cList_2, q_seqD_1, q_seqD_2, q_lenD_4, q_oIx_1, q_oIx_2, q_oIx_4, q_oSl_1, q_oSl_2, q_oSl_3, q_oSl_4, q_tyD_1, q_tyD_2, q_tyD_3, q_tyD_4, q_tyD_5, q_tyD_6, q_cIsi_1, q_oSet_1, q_oIAdd_1, q_oIAdd_2, List.getD_cons_zero, List.getD_cons_succ, List.take_zero, List.drop_zero, updM_same, updM_upd, dropM_updM, isi_ii, isi_bi, isi_ib, isi_bb, isi_tt, List.map_cons, List.map_nil, List.replicate_succ, List.replicate_zero, List.cons_append, List.nil_append, List.append_nil, List.set_cons_zero, List.set_cons_succ, List.getElem?_cons_zero, List.getElem?_cons_succ, List.length_cons, List.length_nil, Bool.false_eq_true, if_true, if_false, Bool.not_true, Bool.not_false, Bool.not_eq_true, Bool.not_eq_false', decide_eq_true_eq, true_and, and_true, exists_eq_left', Nat.reduceAdd, Nat.reduceSub, reduceCtorEq, decide_true, decide_false, Bool.true_eq_false, ite_true, ite_false, isw_int, isiB])
/-- plain tuples, at most n deep -/
def Pt : Nat → D → Prop
  | 0, _ => False
  | _ + 1, .non => True
  | _ + 1, .bl _ => True
  | _ + 1, .int _ => True
  | _ + 1, .str x => PyData.canLay0 (.str x) = true
  | n + 1, .tup xs => xs.length ≤ 1000000 ∧ ∀ x ∈ xs, Pt n x
  | _ + 1, _ => False
def c_lis : Nat → ZSp := fun n ds m Q _ => ∃ d, ds = [d, d] ∧ Pt n d ∧ Q (.bl true) m
theorem lis_zero {ds : List D} {m : Mu} {Q : QE} {E : QX} (h : c_lis 0 ds m Q E) : False := by
  obtain ⟨d, _, h, _⟩ := h
  exact h
theorem oEq_bl {b : Bool} {m : Mu} {Q : QE} (q : Q (.bl true) m) : oEq (.bl b) (.bl b) m Q := ⟨by cases b <;> rfl, by cases b <;> rfl, by cases b <;> exact q⟩
def b_lis (n : Nat) : ZTS :=
  (sseq (sif (tvl (zisi .tuple (zv 1))) (sseq (sif (tor (tnot (tvl (zisi .tuple (zv 0)))) (tvl (zop oNe (zbl (acons (zv 0) anil) cLen) (zbl (acons (zv 1) anil) cLen)))) (sret (zc (.bl false))) snil)
    (sret (zbl (acons (zlc (irng1 (acons (zbl (acons (zv 1) anil) cLen) anil)) (gn 2) tyes (zcall (c_lis n) (acons (zop oIx (zv 0) (zv 2)) (acons (zop oIx (zv 1) (zv 2)) anil))) [2]) anil) cAll))) snil)
    (sseq (sif (tor (tvl (zisi .bool (zv 1))) (tvl (zisi .bool (zv 0)))) (sret (zand (zisi .bool (zv 1)) (zand (zisi .bool (zv 0)) (zop oEq (zv 0) (zv 1))))) snil)
    (sseq (sif (tvl (zisi .int (zv 1))) (sret (zand (zisi .int (zv 0)) (zop oEq (zv 0) (zv 1)))) snil)
    (sret (zor (zand (zop oIs (zv 1) (zc .non)) (zop oIs (zv 0) (zc .non))) (zand (zisi .str (zv 1)) (zand (zisi .str (zv 0)) (zop oEq (zv 0) (zv 1)))))))))
theorem w_lis {n : Nat} (ds : List D) (m : Mu) (Q : QE) (E : QX) (h : c_lis (n + 1) ds m Q E) : ds.length = 2 ∧ b_lis n ⟨fun _ m => Q .non m, Q, fun x _ m => E x m⟩ (ds.map some ++ List.replicate (3 - ds.length) none) m := by
  obtain ⟨d, rfl, hd, h⟩ := h
  refine ⟨rfl, ?_⟩
  unfold b_lis
  cases d with
  | non =>
    walk_at "zs"
    exact h
  | bl b =>
    walk_at "zs"
    exact oEq_bl h
  | int i =>
    walk_at "zs"
    exact h
  | str x =>
    have hx : PyData.canLay0 (.str x) = true := hd
    walk_at "zs"
    refine oEq_str hx hx ?_
    rw [beq_self_eq_true]
    exact h
  | tup xs =>
    obtain ⟨hl, hd⟩ : xs.length ≤ 1000000 ∧ ∀ x ∈ xs, Pt n x := hd
    walk_at "zs"
    rw [comp_e]
    walk_at "zs"
    refine ⟨⟨by omega, by omega⟩, ?_⟩
    have e : ((xs.length : Int)).toNat = xs.length := by omega
    refine comp_mapE (fun i => .bl true) ((List.replicate xs.length true).map .bl) (by show ((xs.length : Int)).toNat ≤ _; rw [sizeLine_eq]; omega) trivial (fun i hi K1 K2 hK => ?_) (by show (List.range ((xs.length : Int)).toNat).map _ = _; rw [e, rng_bl]) ?_
    · have hi' : i < xs.length := by have : i < ((xs.length : Int)).toNat := hi; omega
      walk_at "zs"
      rw [atI_nat (j := i) (List.getElem?_eq_getElem hi')]
      exact ⟨_, rfl, hd _ (List.getElem_mem hi'), hK⟩
    · refine cAll_bls ?_
      rw [all_rep]
      exact h
  | _ => exact hd.elim
end Zed
end
section
set_option maxHeartbeats 4000000
/-! ZJoin: joining.py. -/
namespace Zed
open PySem PySem.Spec PyProof.Rows L2
local macro_rules | `(tactic| walk_at "zs") => `(tactic| simp only [zv, zc, zop, zun, anil, acons, ztup, zfl, zlst, zbl, zcall, zcallK, tvl, ttr, tand, tor, tnot, zand, zor, zorT, znot, zif, zchn, zsl, onone, osome, zrev, zrevA, zisi, gn, gnil, gcons, gtup, gsub, snil, sseq, sexp, sret, sretN, sif, sasg, sset, spar, spar3, saug, wkL, zapp, zpop, zseal, xat, snever, tyes, ilist, itup, istr, irng1, irng2, irng3, ienum, ienumT, izip, irev, wipeZ, zev, oAddL, isNon, at2_if, iseq, ienumT, gstar, gtupA, saugS, oGetL, sl_0, sl_1, sl_2, sl_3, sl_4, sl_5, sl_6, sl_7, sl_8, at1_0, at2_0, at2_1, at3_0, at3_1, at3_2, at4_0, at4_1, at4_2, at4_3, at5_0, at5_1, at5_2, at5_3, at5_4, at6_0, at6_1, at6_2, at6_3, at6_4, at6_5, at7_0, at7_1, at7_2, at7_3, at7_4, at7_5, at7_6, at8_0, at8_1, at8_2, at8_3, at8_4, at8_5, at8_6, at8_7, ixn2_0, ixn2_1, ixn3_0, ixn3_1, ixn3_2, cp_2, vp_2, cp_3, vp_3, cp_6, vp_6, cp_7, vp_7, cp_18, vp_18, cp_60, vp_60, q_truD_1, q_truD_2, q_truD_3, q_truD_4, q_truD_5, q_truD_6, q_oAdd_1, q_oAdd_2, q_oAdd_3, q_oAdd_4, q_oInt_1, q_oSub_1, q_oLt_1, q_oEq_1, q_oNe_1, q_oNe_2, q_oEq_2, q_oIs_1, q_oIs_2, q_oIsNot_1, q_oIsNot_2, q_oNeg_1, q_cAbs_1, q_cMax_1, q_cMin_1, q_cInt_1, q_cInt_2, q_cDivmod_1, q_lenD_1, q_lenD_2, q_lenD_3, q_cLen_1, q_cTuple_1, q_cTuple_2, q_cTuple_3, q_cListF_1, q_cListF_2, q_cListF_3, q_cList_1, q_cList_2, q_seqD_1, q_seqD_2, q_lenD_4, q_oIx_1, q_oIx_2, q_oIx_4, q_oSl_1, q_oSl_2, q_oSl_3, q_oSl_4, q_tyD_1, q_tyD_2, q_tyD_3, q_tyD_4, q_tyD_5, q_tyD_6, q_cIsi_1, q_oSet_1, q_oIAdd_1, q_oIAdd_2, List.getD_cons_zero, List.getD_cons_succ, List.take_zero, List.drop_zero, updM_same, updM_upd, dropM_updM, isi_ii, isi_bi, isi_ib, isi_bb, isi_tt, List.map_cons, List.map_nil, List.replicate_succ, List.replicate_zero, List.cons_append, List.nil_append, List.append_nil, List.set_cons_zero, List.set_cons_succ, List.getElem?_cons_zero, List.getElem?_cons_succ, List.length_cons, List.length_nil, Bool.false_eq_true, if_true, if_false, Bool.not_true, Bool.not_false, Bool.not_eq_true, Bool.not_eq_false', decide_eq_true_eq, true_and, and_true, exists_eq_left', Nat.reduceAdd, Nat.reduceSub, reduceCtorEq, decide_true, decide_false, Bool.true_eq_false, ite_true, ite_false, isw_int])
/-! ### the mathematics -/
theorem gcd_pos_l {a : Int} (b : Int) (h : 0 < a) : 0 < Int.gcd a b := Int.gcd_pos_iff.mpr (.inl (by omega))
theorem gcd_joint {L m b d : Int} (hL : 0 < L) (hm : 0 < m) (h1 : (Int.gcd L b : Int) ∣ d) (h2 : (Int.gcd m b : Int) ∣ d) : (Int.gcd (L * (m / Int.gcd L m)) b : Int) ∣ d := by
  have cp : 0 < Int.gcd L m := gcd_pos_l m hL
  have c0 : (0 : Int) < Int.gcd L m := by omega
  have eu : L / Int.gcd L m * Int.gcd L m = L := Int.ediv_mul_cancel (Int.gcd_dvd_left ..)
  have ev : m / Int.gcd L m * Int.gcd L m = m := Int.ediv_mul_cancel (Int.gcd_dvd_right ..)
  have co : Int.gcd (L / Int.gcd L m) (m / Int.gcd L m) = 1 := Int.gcd_ediv_gcd_ediv_gcd cp
  have u0 : 0 ≤ L / Int.gcd L m := Int.ediv_nonneg (by omega) (by omega)
  have v0 : 0 ≤ m / Int.gcd L m := Int.ediv_nonneg (by omega) (by omega)
  generalize hu : L / Int.gcd L m = u at *
  generalize hv : m / Int.gcd L m = v at *
  generalize (Int.gcd L m : Int) = c at *
  have gL := Int.gcd_dvd_left (L * v) b
  have gb := Int.gcd_dvd_right (L * v) b
  generalize (Int.gcd (L * v) b : Int) = g at *
  have k1 : g ∣ u * (Int.gcd m b : Int) := by
    have : g ∣ (Int.gcd (u * m) (u * b) : Int) := Int.dvd_coe_gcd (by rw [← ev, ← Int.mul_assoc, Int.mul_right_comm, eu]; exact gL) (Int.dvd_trans gb (Int.dvd_mul_left ..))
    rw [Int.gcd_mul_left, Int.natCast_mul, Int.natAbs_of_nonneg u0] at this
    exact this
  have k2 : g ∣ v * (Int.gcd L b : Int) := by
    have : g ∣ (Int.gcd (v * L) (v * b) : Int) := Int.dvd_coe_gcd (by rw [Int.mul_comm]; exact gL) (Int.dvd_trans gb (Int.dvd_mul_left ..))
    rw [Int.gcd_mul_left, Int.natCast_mul, Int.natAbs_of_nonneg v0] at this
    exact this
  have j1 : g ∣ u * d := Int.dvd_trans k1 (Int.mul_dvd_mul_left u h2)
  have j2 : g ∣ v * d := Int.dvd_trans k2 (Int.mul_dvd_mul_left v h1)
  have : g ∣ (Int.gcd (u * d) (v * d) : Int) := Int.dvd_coe_gcd j1 j2
  rw [Int.gcd_mul_right, co, Nat.one_mul] at this
  exact Int.dvd_natAbs.mp this
/-- the least common multiple, one after another -/
def lcmF : Int → List Int → Int
  | L, [] => L
  | L, m :: ms => lcmF (L * (m / Int.gcd L m)) ms
theorem lcmF_app : ∀ (L : Int) (xs ys : List Int), lcmF L (xs ++ ys) = lcmF (lcmF L xs) ys
  | _, [], _ => rfl
  | _, _ :: xs, ys => lcmF_app _ xs ys
theorem step_pos {L m : Int} (hL : 0 < L) (hm : 0 < m) : 0 < m / Int.gcd L m := by
  have cp : 0 < Int.gcd L m := gcd_pos_l m hL
  have ev : m / Int.gcd L m * Int.gcd L m = m := Int.ediv_mul_cancel (Int.gcd_dvd_right ..)
  have v0 : 0 ≤ m / Int.gcd L m := Int.ediv_nonneg (by omega) (by omega)
  rcases Int.lt_or_eq_of_le v0 with h | h
  · exact h
  · rw [← h, Int.zero_mul] at ev
    omega
theorem step_le {L m : Int} (hL : 0 < L) (hm : 0 < m) : m / Int.gcd L m ≤ m := Int.ediv_le_self _ (by omega)
theorem lcm_pos {L m : Int} (hL : 0 < L) (hm : 0 < m) : 0 < L * (m / Int.gcd L m) := Int.mul_pos hL (step_pos hL hm)
theorem lcmF_pos : ∀ {L : Int} {xs : List Int}, 0 < L → (∀ x ∈ xs, 0 < x) → 0 < lcmF L xs
  | _, [], hL, _ => hL
  | L, x :: xs, hL, h => lcmF_pos (L := L * (x / Int.gcd L x)) (xs := xs) (lcm_pos hL (h x List.mem_cons_self)) fun y hy => h y (List.mem_cons_of_mem _ hy)
theorem lcm_dvd_l (L m : Int) : L ∣ L * (m / Int.gcd L m) := Int.dvd_mul_right ..
theorem lcm_dvd_r {L m : Int} : m ∣ L * (m / Int.gcd L m) := by
  have eu : L / Int.gcd L m * Int.gcd L m = L := Int.ediv_mul_cancel (Int.gcd_dvd_left ..)
  have ev : m / Int.gcd L m * Int.gcd L m = m := Int.ediv_mul_cancel (Int.gcd_dvd_right ..)
  refine ⟨L / Int.gcd L m, ?_⟩
  generalize (Int.gcd L m : Int) = c at *
  generalize L / c = u at *
  generalize m / c = v at *
  rw [← eu, ← ev, Int.mul_right_comm, Int.mul_assoc, Int.mul_comm, Int.mul_assoc, Int.mul_comm c u]
theorem lcmF_joint {b d : Int} : ∀ {xs : List Int} {L : Int}, 0 < L → (∀ x ∈ xs, 0 < x) → (Int.gcd L b : Int) ∣ d → (∀ x ∈ xs, (Int.gcd x b : Int) ∣ d) → (Int.gcd (lcmF L xs) b : Int) ∣ d
  | [], _, _, _, h, _ => h
  | x :: xs, L, hL, hx, h, k => lcmF_joint (xs := xs) (L := L * (x / Int.gcd L x)) (lcm_pos hL (hx x List.mem_cons_self)) (fun y hy => hx y (List.mem_cons_of_mem _ hy)) (gcd_joint hL (hx x List.mem_cons_self) h (k x List.mem_cons_self)) fun y hy => k y (List.mem_cons_of_mem _ hy)
theorem lcmF_bits {B : Int} (hB : 1 ≤ B) : ∀ (xs : List Int) (L : Int) (k : Nat), 0 < L → L ≤ B ^ k → (∀ x ∈ xs, 0 < x ∧ x ≤ B) → lcmF L xs ≤ B ^ (k + xs.length)
  | [], L, k, _, h, _ => h
  | x :: xs, L, k, hL, h, hx => by
    obtain ⟨x0, x1⟩ := hx x List.mem_cons_self
    have s1 := step_le hL x0
    have s0 := step_pos hL x0
    have h1 : L * (x / Int.gcd L x) ≤ B ^ k * B := Int.mul_le_mul h (by omega) (by omega) (Int.le_of_lt (Int.pow_pos (by omega)))
    rw [← Int.pow_succ] at h1
    have := lcmF_bits hB xs (L * (x / Int.gcd L x)) (k + 1) (lcm_pos hL x0) h1 fun y hy => hx y (List.mem_cons_of_mem _ hy)
    rw [List.length_cons, Nat.add_comm xs.length 1, ← Nat.add_assoc]
    exact this
theorem dvd_cop {u v k : Int} (h : Int.gcd u v = 1) (hd : v ∣ u * k) : v ∣ k := by
  have : v ∣ (Int.gcd (u * k) (v * k) : Int) := Int.dvd_coe_gcd hd (Int.dvd_mul_right ..)
  rw [Int.gcd_mul_right, h, Nat.one_mul] at this
  exact Int.dvd_natAbs.mp this
theorem lcm_least {L m d : Int} (hL : 0 < L) (h1 : L ∣ d) (h2 : m ∣ d) : L * (m / Int.gcd L m) ∣ d := by
  have cp : 0 < Int.gcd L m := gcd_pos_l m hL
  have eu : L / Int.gcd L m * Int.gcd L m = L := Int.ediv_mul_cancel (Int.gcd_dvd_left ..)
  have ev : m / Int.gcd L m * Int.gcd L m = m := Int.ediv_mul_cancel (Int.gcd_dvd_right ..)
  have co : Int.gcd (L / Int.gcd L m) (m / Int.gcd L m) = 1 := Int.gcd_ediv_gcd_ediv_gcd cp
  obtain ⟨k, rfl⟩ := h1
  refine Int.mul_dvd_mul_left L (dvd_cop co ?_)
  generalize hu : L / Int.gcd L m = u at *
  generalize hv : m / Int.gcd L m = v at *
  have c0 : (Int.gcd L m : Int) ≠ 0 := by omega
  generalize (Int.gcd L m : Int) = c at *
  obtain ⟨j, hj⟩ := h2
  refine ⟨j, ?_⟩
  have : c * (u * k) = c * (v * j) := by
    rw [← Int.mul_assoc, ← Int.mul_assoc, Int.mul_comm c u, Int.mul_comm c v, eu, ev]
    exact hj
  exact Int.eq_of_mul_eq_mul_left c0 this
theorem lcmF_least {d : Int} : ∀ {xs : List Int} {L : Int}, 0 < L → L ∣ d → (∀ x ∈ xs, 0 < x ∧ x ∣ d) → lcmF L xs ∣ d
  | [], _, _, h, _ => h
  | x :: xs, L, hL, h, hx => lcmF_least (xs := xs) (L := L * (x / Int.gcd L x)) (lcm_pos hL (hx x List.mem_cons_self).1) (lcm_least hL h (hx x List.mem_cons_self).2) fun y hy => hx y (List.mem_cons_of_mem _ hy)
theorem emod_dvd {R R' m : Int} (h : R % m = R' % m) : m ∣ R - R' := by
  have e1 := Int.mul_ediv_add_emod R m
  have e2 := Int.mul_ediv_add_emod R' m
  refine ⟨R / m - R' / m, ?_⟩
  rw [Int.mul_sub]
  omega
theorem crt_uniq {R R' : Int} {ps : List (Int × Int)} (h0 : ∀ q ∈ ps, 0 < q.2) (a0 : 0 ≤ R) (a1 : R < lcmF 1 (ps.map (·.2))) (b0 : 0 ≤ R') (b1 : R' < lcmF 1 (ps.map (·.2))) (ha : ∀ q ∈ ps, R % q.2 = q.1) (hb : ∀ q ∈ ps, R' % q.2 = q.1) : R = R' := by
  have hd : lcmF 1 (ps.map (·.2)) ∣ R - R' := lcmF_least (by decide) (Int.one_dvd _) fun x hx => by
    obtain ⟨q, hq, rfl⟩ := List.mem_map.mp hx
    exact ⟨h0 q hq, emod_dvd (by rw [ha q hq, hb q hq])⟩
  have e1 : (R - R') % lcmF 1 (ps.map (·.2)) = 0 := Int.emod_eq_zero_of_dvd hd
  have e2 := Int.emod_eq_emod_iff_emod_sub_eq_zero.mpr e1
  rwa [Int.emod_eq_of_lt a0 a1, Int.emod_eq_of_lt b0 b1] at e2
/-- one step of joining -/
theorem crt_step {R M o b s : Int} (hM : 0 < M) (hb : 0 < b) (hd : (Int.gcd M b : Int) ∣ o - R) (ho : 0 ≤ o ∧ o < b) (hs : (s * (M / Int.gcd M b)) % (b / Int.gcd M b) = 1 % (b / Int.gcd M b)) :
    (R + M * ((o - R) / Int.gcd M b * s % (b / Int.gcd M b))) % b = o := by
  have eM : M / Int.gcd M b * Int.gcd M b = M := Int.ediv_mul_cancel (Int.gcd_dvd_left ..)
  have eb : b / Int.gcd M b * Int.gcd M b = b := Int.ediv_mul_cancel (Int.gcd_dvd_right ..)
  have ed : (o - R) / Int.gcd M b * Int.gcd M b = o - R := Int.ediv_mul_cancel hd
  generalize (Int.gcd M b : Int) = c at *
  generalize M / c = M1 at *
  generalize b / c = b1 at *
  generalize (o - R) / c = e at *
  have q := Int.mul_ediv_add_emod (e * s) b1
  have q2 := Int.mul_ediv_add_emod (s * M1) b1
  have q3 := Int.mul_ediv_add_emod 1 b1
  rw [hs] at q2
  have hk : ∃ k, R + M * (e * s % b1) = o + b * k := by
    refine ⟨e * (s * M1 / b1) - e * (1 / b1) - M1 * (e * s / b1), ?_⟩
    have t : e * s % b1 = e * s - b1 * (e * s / b1) := by omega
    rw [t]
    generalize e * s / b1 = z at *
    generalize 1 / b1 = z1 at *
    generalize s * M1 / b1 = z2 at *
    generalize 1 % b1 = z3 at *
    have a1 : s * M1 = b1 * z2 + (1 - b1 * z1) := by omega
    have a2 : M * (e * s - b1 * z) = c * (e * (s * M1)) - b * (M1 * z) := by
      rw [← eM, ← eb]
      simp only [Int.mul_sub]
      have t1 : M1 * c * (e * s) = c * (e * (s * M1)) := by
        rw [Int.mul_comm M1 c, Int.mul_assoc, Int.mul_left_comm M1 e s, Int.mul_comm M1 s]
      have t2 : M1 * c * (b1 * z) = b1 * c * (M1 * z) := by
        rw [Int.mul_comm M1 c, Int.mul_comm b1 c, Int.mul_assoc, Int.mul_assoc, Int.mul_left_comm M1 b1 z]
      rw [t1, t2]
    have a3 : c * (e * (s * M1)) = b * (e * z2) - b * (e * z1) + c * e := by
      rw [a1, ← eb]
      simp only [Int.mul_add, Int.mul_sub, Int.mul_one]
      have t1 : c * (e * (b1 * z2)) = b1 * c * (e * z2) := by
        rw [Int.mul_left_comm e b1 z2, ← Int.mul_assoc, Int.mul_comm c b1]
      have t2 : c * (e * (b1 * z1)) = b1 * c * (e * z1) := by
        rw [Int.mul_left_comm e b1 z1, ← Int.mul_assoc, Int.mul_comm c b1]
      rw [t1, t2]
      omega
    have a4 : c * e = o - R := by rw [Int.mul_comm]; exact ed
    rw [a2, a3, a4]
    simp only [Int.mul_sub]
    omega
  obtain ⟨k, hk⟩ := hk
  rw [hk, Int.add_mul_emod_self_left]
  exact Int.emod_eq_of_lt ho.1 ho.2
def Val (q : Int × Int) : Prop := 0 ≤ q.1 ∧ q.1 < q.2 ∧ q.2 ≤ 1000000000000000000000000000000000000000000000000000000000000
theorem g60_lt {n : Int} (h : n ≤ 1000000000000000000000000000000000000000000000000000000000000) : n < 2 ^ 7000 := lt_two (j := 200) (by
  have : (2 : Int) ^ 200 = 1606938044258990275541962092341162602522202993782792835301376 := by decide +kernel
  omega) (by decide)
/-! ### walks -/
def b_is_modulus : ZTS :=
  (sret (zand (zcall c_is_whole (acons (zv 0) anil)) (zchn oLe oLe (zc (.int 1)) (zv 0) (zc (.int 1000000000000000000000000000000000000000000000000000000000000)))))
def c_is_modulus : ZSp := fun ds m Q _ => ∃ n : Int, ds = [.int n] ∧ 1 ≤ n ∧ n ≤ 1000000000000000000000000000000000000000000000000000000000000 ∧ Q (.bl true) m
theorem w_is_modulus (ds : List D) (m : Mu) (Q : QE) (E : QX) (h : c_is_modulus ds m Q E) : ds.length = 1 ∧ b_is_modulus ⟨fun _ m => Q .non m, Q, fun x _ m => E x m⟩ (ds.map some ++ List.replicate (1 - ds.length) none) m := by
  obtain ⟨n, rfl, h0, h1, h⟩ := h
  refine ⟨rfl, ?_⟩
  unfold b_is_modulus
  walk_at "zs"
  simp only [h0, h1, decide_true, if_true]
  exact h
def b_is_pair : ZTS :=
  (sseq (sif (tor (tnot (tvl (zisi .tuple (zv 0)))) (tor (tvl (zop oNe (zbl (acons (zv 0) anil) cLen) (zc (.int 2)))) (tnot (tvl (zcall c_is_modulus (acons (zop oIx (zv 0) (zc (.int 1))) anil)))))) (sret (zc (.bl false))) snil)
    (sret (zand (zcall c_is_whole (acons (zop oIx (zv 0) (zc (.int 0))) anil)) (zchn oLe oLt (zc (.int 0)) (zop oIx (zv 0) (zc (.int 0))) (zop oIx (zv 0) (zc (.int 1)))))))
def c_is_pair : ZSp := fun ds m Q _ => ∃ q : Int × Int, ds = [pr q] ∧ Val q ∧ Q (.bl true) m
theorem w_is_pair (ds : List D) (m : Mu) (Q : QE) (E : QX) (h : c_is_pair ds m Q E) : ds.length = 1 ∧ b_is_pair ⟨fun _ m => Q .non m, Q, fun x _ m => E x m⟩ (ds.map some ++ List.replicate (1 - ds.length) none) m := by
  obtain ⟨q, rfl, ⟨q0, q1, q2⟩, h⟩ := h
  refine ⟨rfl, ?_⟩
  unfold b_is_pair
  unfold pr
  walk_at "zs"
  refine ⟨q.2, rfl, by omega, q2, ?_⟩
  walk_at "zs"
  simp only [q0, q1, decide_true, if_true]
  exact h
def b_check_pairs : ZTS :=
  (sif (tor (tnot (tvl (zisi .tuple (zv 0)))) (tor (tvl (zop oGt (zbl (acons (zv 0) anil) cLen) (zc (.int 30)))) (tnot (tvl (zbl (acons (zlc (iseq (zv 0)) (gn 1) tyes (zcall c_is_pair (acons (zv 1) anil)) [1]) anil) cAll))))) snever snil)
def c_check_pairs : ZSp := fun ds m Q _ => ∃ ps : List (Int × Int), ds = [.tup (ps.map pr)] ∧ ps.length ≤ 30 ∧ (∀ q ∈ ps, Val q) ∧ Q .non m
theorem w_check_pairs (ds : List D) (m : Mu) (Q : QE) (E : QX) (h : c_check_pairs ds m Q E) : ds.length = 1 ∧ b_check_pairs ⟨fun _ m => Q .non m, Q, fun x _ m => E x m⟩ (ds.map some ++ List.replicate (2 - ds.length) none) m := by
  obtain ⟨ps, rfl, hl, hv, h⟩ := h
  refine ⟨rfl, ?_⟩
  unfold b_check_pairs
  walk_at "zs"
  rw [if_neg (by rw [List.length_map]; omega)]
  rw [comp_e]
  walk_at "zs"
  refine comp_map (fun _ => .bl true) (by show (ps.map pr).length ≤ _; rw [List.length_map, sizeLine_eq]; omega) trivial (fun i hi K1 K2 hK => ?_) ?_
  · have hi' := lt_len hi
    show gn 1 ((ps.map pr).getD i .non) _ _ _ _
    rw [getD_prs hi']
    walk_at "zs"
    exact ⟨_, rfl, hv _ (getD_mem hi'), hK⟩
  · rw [rng_bl]
    refine cAll_bls ?_
    rw [all_rep]
    exact h
/-- the first two that clash -/
def Bad (ps : List (Int × Int)) (f s : Nat) : Prop := ((ps.getD f (0, 0)).1 - (ps.getD s (0, 0)).1) % Int.gcd (ps.getD f (0, 0)).2 (ps.getD s (0, 0)).2 ≠ 0
def Cl (ps : List (Int × Int)) : Option (Nat × Nat) → Prop
  | none => ∀ s f, s < ps.length → f < s → ¬ Bad ps f s
  | some (f, s) => s < ps.length ∧ f < s ∧ Bad ps f s ∧ (∀ s' f', s' < s → f' < s' → ¬ Bad ps f' s') ∧ ∀ f', f' < f → ¬ Bad ps f' s
theorem Cl.uniq {ps : List (Int × Int)} {r r' : Option (Nat × Nat)} (h : Cl ps r) (h' : Cl ps r') : r = r' := by
  cases r with
  | none =>
    cases r' with
    | none => rfl
    | some p => exact absurd h'.2.2.1 (h _ _ h'.1 h'.2.1)
  | some p =>
    cases r' with
    | none => exact absurd h.2.2.1 (h' _ _ h.1 h.2.1)
    | some p' =>
      obtain ⟨f, s⟩ := p
      obtain ⟨f', s'⟩ := p'
      obtain ⟨a1, a2, a3, a4, a5⟩ := h
      obtain ⟨b1, b2, b3, b4, b5⟩ := h'
      have es : s = s' := by
        rcases Nat.lt_trichotomy s s' with q | q | q
        · exact absurd a3 (b4 _ _ q a2)
        · exact q
        · exact absurd b3 (a4 _ _ q b2)
      subst es
      have ef : f = f' := by
        rcases Nat.lt_trichotomy f f' with q | q | q
        · exact absurd a3 (b5 _ q)
        · exact q
        · exact absurd b3 (a5 _ q)
      rw [ef]
def clD : Option (Nat × Nat) → D
  | none => .non
  | some (f, s) => .tup [.int f, .int s]
theorem cut_take {xs : List D} {i : Nat} (h : i ≤ xs.length) : cutG xs none (some (i : Int)) = xs.take i := by
  unfold cutG
  rw [HT.sIx_none, HT.sIx_nat, List.drop_zero, Nat.sub_zero, Nat.min_eq_left h]
def b_clash_of : ZTS :=
  (sseq (sfor (ienumT (acons (zv 0) anil)) (gtup 2 (gcons (gn 1) (gcons (gtup 2 (gcons (gn 2) (gcons (gn 3) gnil))) gnil))) (sfor (ienumT (acons (zsl (zv 0) onone (osome (zv 1))) anil)) (gtup 2 (gcons (gn 4) (gcons (gtup 2 (gcons (gn 5) (gcons (gn 6) gnil))) gnil))) (sif (tvl (zop oNe (zop oMod (zop oSub (zv 5) (zv 2)) (zcall c_gcd_of (acons (zv 6) (acons (zv 3) anil)))) (zc (.int 0)))) (sret (ztup (acons (zv 4) (acons (zv 1) anil)))) snil)))
    (sret (zc .non)))
def c_clash_of : ZSp := fun ds m Q _ => ∃ ps : List (Int × Int), ds = [.tup (ps.map pr)] ∧ ps.length ≤ 30 ∧ (∀ q ∈ ps, Val q) ∧ ∀ r, Cl ps r → Q (clD r) m
theorem w_clash_of (ds : List D) (m : Mu) (Q : QE) (E : QX) (h : c_clash_of ds m Q E) : ds.length = 1 ∧ b_clash_of ⟨fun _ m => Q .non m, Q, fun x _ m => E x m⟩ (ds.map some ++ List.replicate (7 - ds.length) none) m := by
  obtain ⟨ps, rfl, hl, hv, h⟩ := h
  refine ⟨rfl, ?_⟩
  unfold b_clash_of
  walk_at "zs"
  refine for_i ?_
  walk_at "zs"
  obtain ⟨I, hI⟩ : ∃ I : Nat → ZEnv → Mu → Prop, I = fun i ρ m' => ∃ a b c d e f, i ≤ ps.length ∧ (∀ s' f', s' < i → f' < s' → ¬ Bad ps f' s') ∧ ρ = [some (.tup (ps.map pr)), a, b, c, d, e, f] ∧ m' = m := ⟨_, rfl⟩
  refine loop_i I (by rw [hI]; exact ⟨_, _, _, _, _, _, Nat.zero_le _, fun s' f' h => by omega, rfl, rfl⟩) fun s ρ m' hi => ?_
  rw [hI] at hi
  obtain ⟨a, b, c, d, e, f, hs, hb, rfl, rfl⟩ := hi
  refine ⟨trivial, fun hlt => ?_, fun e => ?_⟩
  · have hlt' := lt_len hlt
    show gtup 2 _ (.tup [.int s, (ps.map pr).getD s .non]) _ _ _ _
    rw [getD_prs hlt']
    walk_at "zs"
    have v1 := hv _ (getD_mem (d := (0, 0)) hlt')
    refine for_i ?_
    walk_at "zs"
    rw [cut_take (by rw [List.length_map]; omega), ← List.map_take]
    obtain ⟨J, hJ⟩ : ∃ J : Nat → ZEnv → Mu → Prop, J = fun i ρ m2 => ∃ d e f, i ≤ s ∧ (∀ f', f' < i → ¬ Bad ps f' s) ∧ ρ = [some (.tup (ps.map pr)), some (.int s), some (.int (ps.getD s (0, 0)).1), some (.int (ps.getD s (0, 0)).2), d, e, f] ∧ m2 = m' := ⟨_, rfl⟩
    refine loop_i J (by rw [hJ]; exact ⟨_, _, _, Nat.zero_le _, fun f' h => by omega, rfl, rfl⟩) fun i ρ m2 hi => ?_
    rw [hJ] at hi
    obtain ⟨d, e, f, hi, hb2, rfl, rfl⟩ := hi
    have tl : (ps.take s).length = s := by rw [List.length_take]; omega
    refine ⟨trivial, fun hlt2 => ?_, fun e2 => ?_⟩
    · have hlt2' := lt_len hlt2
      rw [tl] at hlt2'
      show gtup 2 _ (.tup [.int i, ((ps.take s).map pr).getD i .non]) _ _ _ _
      rw [getD_prs (by rw [tl]; exact hlt2')]
      have ge : (ps.take s).getD i (0, 0) = ps.getD i (0, 0) := by simp [List.getD_eq_getElem?_getD, List.getElem?_take, hlt2']
      rw [ge]
      have v2 := hv _ (getD_mem (d := (0, 0)) (show i < ps.length by omega))
      walk_at "zs"
      refine ⟨_, _, rfl, by have := v2.1; have := v2.2.1; omega, g60_lt v2.2.2, by have := v1.1; have := v1.2.1; omega, g60_lt v1.2.2, .inl (by have := v2.1; have := v2.2.1; omega), ?_⟩
      have gp : 0 < Int.gcd (ps.getD i (0, 0)).2 (ps.getD s (0, 0)).2 := gcd_pos_l _ (by have := v2.1; have := v2.2.1; omega)
      walk_at "zs"
      refine ⟨by omega, ?_⟩
      by_cases hz : ((ps.getD i (0, 0)).1 - (ps.getD s (0, 0)).1) % Int.gcd (ps.getD i (0, 0)).2 (ps.getD s (0, 0)).2 = 0
      · simp only [hz, decide_true, Bool.not_true, Bool.false_eq_true, if_false]
        rw [hJ]
        refine ⟨_, _, _, hlt2', fun f' hf => ?_, rfl, rfl⟩
        rcases Nat.lt_or_eq_of_le (Nat.le_of_lt_succ hf) with q | q
        · exact hb2 f' q
        · rw [q]
          exact fun bad => bad hz
      · simp only [hz, decide_false, Bool.not_false, if_true]
        exact h (some (i, s)) ⟨hlt', hlt2', hz, hb, hb2⟩
    · have e3 := eq_len e2
      rw [tl] at e3
      rw [hI]
      refine ⟨_, _, _, _, _, _, hlt', fun s' f' hs' hf' => ?_, rfl, rfl⟩
      rcases Nat.lt_or_eq_of_le (Nat.le_of_lt_succ hs') with q | q
      · exact hb s' f' q hf'
      · rw [q] at hf' ⊢
        exact hb2 f' (by omega)
  · have e3 := eq_len e
    walk_at "zs"
    exact h none fun s' f' hs' hf' => hb s' f' (by omega) hf'
def b_two_joined : ZTS :=
  (sseq (sset (zcall c_gcd_of (acons (zv 1) (acons (zv 3) anil))) 4)
    (sseq (sset (zop oFdv (zv 3) (zv 4)) 5)
    (sseq (sset (zop oMod (zop oMul (zop oFdv (zop oSub (zv 2) (zv 0)) (zv 4)) (zcall c_inverse_by (acons (zop oFdv (zv 1) (zv 4)) (acons (zv 5) anil)))) (zv 5)) 6)
    (sret (ztup (acons (zop oAdd (zv 0) (zop oMul (zv 1) (zv 6))) (acons (zop oMul (zv 1) (zv 5)) anil)))))))
def c_two_joined : ZSp := fun ds m Q _ => ∃ R M o b : Int, ds = [.int R, .int M, .int o, .int b] ∧ 0 ≤ R ∧ R < M ∧ M < 2 ^ 6500 ∧ 0 ≤ o ∧ o < b ∧ b ≤ 1000000000000000000000000000000000000000000000000000000000000 ∧ (Int.gcd M b : Int) ∣ o - R ∧ ∀ t, 0 ≤ t → t < b / Int.gcd M b → (R + M * t) % b = o → Q (.tup [.int (R + M * t), .int (M * (b / Int.gcd M b))]) m
theorem w_two_joined (ds : List D) (m : Mu) (Q : QE) (E : QX) (h : c_two_joined ds m Q E) : ds.length = 4 ∧ b_two_joined ⟨fun _ m => Q .non m, Q, fun x _ m => E x m⟩ (ds.map some ++ List.replicate (7 - ds.length) none) m := by
  obtain ⟨R, M, o, b, rfl, R0, R1, M1, o0, o1, b1, hd, h⟩ := h
  refine ⟨rfl, ?_⟩
  unfold b_two_joined
  have M7 : M < 2 ^ 7000 := Int.lt_of_lt_of_le M1 (two_le (by decide))
  have b7 := g60_lt b1
  have c0 : (0 : Int) < Int.gcd M b := by have := gcd_pos_l b (show 0 < M by omega); omega
  have c1 : (Int.gcd M b : Int) ≤ b := Int.le_of_dvd (by omega) (Int.gcd_dvd_right ..)
  have sp := step_pos (show 0 < M by omega) (show 0 < b by omega)
  have sl := step_le (show 0 < M by omega) (show 0 < b by omega)
  have up : (2 : Int) ^ 7000 < 2 ^ 8000 := lt_two (Int.le_refl _) (by decide)
  walk_at "zs"
  refine ⟨M, b, rfl, by omega, M7, by omega, b7, .inl (by omega), ?_⟩
  walk_at "zs"
  refine ⟨small_fdv c0 (by omega), small_fdv c0 (by omega), small_fdv c0 (by omega), _, _, rfl, sp, by omega, fun s s0 s1 hs => ?_⟩
  walk_at "zs"
  rw [Int.gcd_ediv_gcd_ediv_gcd (gcd_pos_l b (show 0 < M by omega))] at hs
  have ed : (o - R) / Int.gcd M b * Int.gcd M b = o - R := Int.ediv_mul_cancel hd
  have ab : ((o - R) / Int.gcd M b).natAbs < 2 ^ 7000 := by
    have h1 : ((o - R) / Int.gcd M b).natAbs ≤ (o - R).natAbs := by
      rw [← ed, Int.natAbs_mul, Int.mul_ediv_cancel _ (by omega)]
      exact Nat.le_mul_of_pos_right _ (by omega)
    refine Nat.lt_of_le_of_lt h1 ?_
    have h2 := abs_lt (k := 7000) (show 0 ≤ M by omega) M7
    have h3 := abs_lt (k := 7000) (show 0 ≤ b by omega) b7
    omega
  have t0 := Int.emod_nonneg ((o - R) / Int.gcd M b * s) (show b / Int.gcd M b ≠ 0 by omega)
  have t1 := Int.emod_lt_of_pos ((o - R) / Int.gcd M b * s) sp
  have mt : ∀ t, 0 ≤ t → t < 2 ^ 7000 → CMulW M t := fun t t0 t1 => mul_ok (abs_lt (show 0 ≤ M by omega) M7) (abs_lt t0 t1) (by decide)
  exact ⟨mul_ok ab (abs_lt (k := 7000) s0 (by omega)) (by decide), sp, mt _ t0 (by omega), mt _ (by omega) (by omega), h _ t0 t1 (crt_step (by omega) (by omega) hd ⟨o0, o1⟩ hs)⟩
def b_joined_of : ZTS :=
  (sseq (sasg (ztup (acons (zc (.int 0)) (acons (zc (.int 1)) anil))) (gtup 2 (gcons (gn 1) (gcons (gn 2) gnil))))
    (sseq (sfor (iseq (zv 0)) (gtup 2 (gcons (gn 3) (gcons (gn 4) gnil))) (sasg (zcall c_two_joined (acons (zv 1) (acons (zv 2) (acons (zv 3) (acons (zv 4) anil))))) (gtup 2 (gcons (gn 1) (gcons (gn 2) gnil)))))
    (sret (ztup (acons (zv 1) (acons (zv 2) anil))))))
def c_joined_of : ZSp := fun ds m Q _ => ∃ ps : List (Int × Int), ds = [.tup (ps.map pr)] ∧ ps.length ≤ 30 ∧ (∀ q ∈ ps, Val q) ∧ Cl ps none ∧ ∀ R, 0 ≤ R → R < lcmF 1 (ps.map (·.2)) → (∀ q ∈ ps, R % q.2 = q.1) → Q (.tup [.int R, .int (lcmF 1 (ps.map (·.2)))]) m
theorem w_joined_of (ds : List D) (m : Mu) (Q : QE) (E : QX) (h : c_joined_of ds m Q E) : ds.length = 1 ∧ b_joined_of ⟨fun _ m => Q .non m, Q, fun x _ m => E x m⟩ (ds.map some ++ List.replicate (5 - ds.length) none) m := by
  obtain ⟨ps, rfl, hl, hv, hc, h⟩ := h
  refine ⟨rfl, ?_⟩
  unfold b_joined_of
  walk_at "zs"
  refine for_i ?_
  walk_at "zs"
  obtain ⟨I, hI⟩ : ∃ I : Nat → ZEnv → Mu → Prop, I = fun i ρ m' => ∃ R c d, i ≤ ps.length ∧ 0 ≤ R ∧ R < lcmF 1 ((ps.take i).map (·.2)) ∧ (∀ q ∈ ps.take i, R % q.2 = q.1) ∧ (∀ q ∈ ps.take i, q.2 ∣ lcmF 1 ((ps.take i).map (·.2))) ∧ ρ = [some (.tup (ps.map pr)), some (.int R), some (.int (lcmF 1 ((ps.take i).map (·.2)))), c, d] ∧ m' = m := ⟨_, rfl⟩
  refine loop_i I (by rw [hI]; exact ⟨0, _, _, Nat.zero_le _, Int.le_refl 0, by show (0 : Int) < 1; decide, fun q hq => by simp at hq, fun q hq => by simp at hq, rfl, rfl⟩) fun i ρ m' hi => ?_
  rw [hI] at hi
  obtain ⟨R, c, d, il, R0, R1, hR, hD, rfl, rfl⟩ := hi
  refine ⟨trivial, fun hlt => ?_, fun e => ?_⟩
  · have hlt' := lt_len hlt
    show gtup 2 _ ((ps.map pr).getD i .non) _ _ _ _
    rw [getD_prs hlt']
    walk_at "zs"
    have gx : ps.getD i (0, 0) = ps[i] := by rw [List.getD_eq_getElem?_getD, List.getElem?_eq_getElem hlt']; rfl
    have v := hv _ (List.getElem_mem hlt')
    rw [gx]
    have mem : ∀ q ∈ ps.take i, ∃ j, j < i ∧ ps.getD j (0, 0) = q := fun q hq => by
      obtain ⟨j, hj, e⟩ := List.mem_iff_getElem.mp hq
      rw [List.length_take] at hj
      refine ⟨j, by omega, ?_⟩
      rw [List.getD_eq_getElem?_getD, List.getElem?_eq_getElem (by omega), ← e]
      simp
    have pos : ∀ x ∈ (ps.take i).map (·.2), 0 < x ∧ x ≤ 1000000000000000000000000000000000000000000000000000000000000 := fun x hx => by
      obtain ⟨q, hq, rfl⟩ := List.mem_map.mp hx
      have w := hv q (List.mem_of_mem_take hq)
      exact ⟨by have := w.1; have := w.2.1; omega, w.2.2⟩
    have L0 : 0 < lcmF 1 ((ps.take i).map (·.2)) := by omega
    have L1 : lcmF 1 ((ps.take i).map (·.2)) < 2 ^ 6500 := by
      have := lcmF_bits (B := 1000000000000000000000000000000000000000000000000000000000000) (by decide) ((ps.take i).map (·.2)) 1 0 (by decide) (by decide) pos
      have h4 : (0 + ((ps.take i).map (fun q : Int × Int => q.2)).length) ≤ 30 := by rw [List.length_map, List.length_take]; omega
      generalize (0 + ((ps.take i).map (fun q : Int × Int => q.2)).length) = k at *
      have h3 : ((1000000000000000000000000000000000000000000000000000000000000 : Int) ^ k).natAbs ≤ 2 ^ (200 * k) := abs_pow (i := 1000000000000000000000000000000000000000000000000000000000000) (a := 200) _ (by decide +kernel)
      have h5 : (2 : Nat) ^ (200 * k) < 2 ^ 6500 := Nat.pow_lt_pow_right (by decide) (by omega)
      have h6 := lt_abs (k := 6500) (i := (1000000000000000000000000000000000000000000000000000000000000 : Int) ^ k) (by omega)
      omega
    have gd : (Int.gcd (lcmF 1 ((ps.take i).map (·.2))) ps[i].2 : Int) ∣ ps[i].1 - R := by
      refine lcmF_joint (by decide) (fun x hx => (pos x hx).1) ?_ fun x hx => ?_
      · rw [Int.gcd_one_left]
        exact Int.one_dvd _
      · obtain ⟨q, hq, rfl⟩ := List.mem_map.mp hx
        obtain ⟨j, hj, ej⟩ := mem q hq
        have nb := hc i j hlt' hj
        unfold Bad at nb
        rw [ej, gx] at nb
        have nb2 : (Int.gcd q.2 ps[i].2 : Int) ∣ q.1 - ps[i].1 := Int.dvd_of_emod_eq_zero (by omega)
        have r1 : q.2 ∣ R - q.1 := by
          have := hR q hq
          have e := Int.mul_ediv_add_emod R q.2
          exact ⟨R / q.2, by omega⟩
        have r2 := Int.dvd_trans (Int.gcd_dvd_left q.2 ps[i].2) r1
        have : ps[i].1 - R = -((q.1 - ps[i].1) + (R - q.1)) := by omega
        rw [this]
        exact Int.dvd_neg.mpr (Int.dvd_add nb2 r2)
    have et : (ps.take (i + 1)).map (·.2) = (ps.take i).map (·.2) ++ [ps[i].2] := by rw [List.take_succ_eq_append_getElem hlt', List.map_append]; rfl
    have eL : lcmF 1 ((ps.take (i + 1)).map (·.2)) = lcmF 1 ((ps.take i).map (·.2)) * (ps[i].2 / Int.gcd (lcmF 1 ((ps.take i).map (·.2))) ps[i].2) := by rw [et, lcmF_app]; rfl
    refine ⟨R, _, _, _, rfl, R0, R1, L1, v.1, v.2.1, v.2.2, gd, fun t t0 t1 ht => ?_⟩
    walk_at "zs"
    rw [hI]
    have vb : 0 < ps[i].2 := by have := v.1; have := v.2.1; omega
    refine ⟨_, _, _, hlt', ?_, ?_, fun q hq => ?_, fun q hq => ?_, by rw [eL], rfl⟩
    · have := Int.mul_nonneg (show 0 ≤ lcmF 1 ((ps.take i).map (·.2)) by omega) t0
      omega
    · rw [eL]
      have h1 := Int.mul_le_mul_of_nonneg_left (show t + 1 ≤ ps[i].2 / Int.gcd (lcmF 1 ((ps.take i).map (·.2))) ps[i].2 by omega) (show 0 ≤ lcmF 1 ((ps.take i).map (·.2)) by omega)
      rw [Int.mul_add, Int.mul_one] at h1
      omega
    · rw [List.take_succ_eq_append_getElem hlt'] at hq
      rcases List.mem_append.mp hq with hq | hq
      · obtain ⟨k, hk⟩ := hD q hq
        rw [hk, Int.mul_assoc, Int.add_mul_emod_self_left]
        exact hR q hq
      · rw [List.mem_singleton.mp hq]
        exact ht
    · rw [eL]
      rw [List.take_succ_eq_append_getElem hlt'] at hq
      rcases List.mem_append.mp hq with hq | hq
      · exact Int.dvd_trans (hD q hq) (lcm_dvd_l ..)
      · rw [List.mem_singleton.mp hq]
        exact lcm_dvd_r
  · have e3 := eq_len e
    rw [e3, List.take_length] at R1 hR
    walk_at "zs"
    rw [e3, List.take_length]
    exact h R R0 R1 hR
def b_joined : ZTS :=
  (sseq (sexp (zcall c_check_pairs (acons (zv 0) anil)))
    (sseq (sset (zcall c_clash_of (acons (zv 0) anil)) 1)
    (sseq (sif (tvl (zop oIsNot (zv 1) (zc .non))) (sret (zop oAdd (ztup (acons (zc (.str "clash")) anil)) (zv 1))) snil)
    (sret (zop oAdd (ztup (acons (zc (.str "class")) anil)) (zcall c_joined_of (acons (zv 0) anil)))))))
def c_joined : ZSp := fun ds m Q _ => ∃ ps : List (Int × Int), ds = [.tup (ps.map pr)] ∧ ps.length ≤ 30 ∧ (∀ q ∈ ps, Val q) ∧ (∀ f s : Nat, Cl ps (some (f, s)) → Q (.tup [.str "clash", .int f, .int s]) m) ∧
  (Cl ps none → ∀ R, 0 ≤ R → R < lcmF 1 (ps.map (·.2)) → (∀ q ∈ ps, R % q.2 = q.1) → Q (.tup [.str "class", .int R, .int (lcmF 1 (ps.map (·.2)))]) m)
theorem w_joined (ds : List D) (m : Mu) (Q : QE) (E : QX) (h : c_joined ds m Q E) : ds.length = 1 ∧ b_joined ⟨fun _ m => Q .non m, Q, fun x _ m => E x m⟩ (ds.map some ++ List.replicate (2 - ds.length) none) m := by
  obtain ⟨ps, rfl, hl, hv, h1, h2⟩ := h
  refine ⟨rfl, ?_⟩
  unfold b_joined
  walk_at "zs"
  refine ⟨ps, rfl, hl, hv, ?_⟩
  walk_at "zs"
  refine ⟨ps, rfl, hl, hv, fun r hr => ?_⟩
  cases r with
  | none =>
    simp only [clD, isNon, Bool.not_true, Bool.false_eq_true, if_false]
    refine ⟨ps, rfl, hl, hv, hr, fun R R0 R1 hR => ?_⟩
    walk_at "zs"
    exact h2 hr R R0 R1 hR
  | some p =>
    obtain ⟨f, s⟩ := p
    simp only [clD, isNon, Bool.not_false, if_true]
    walk_at "zs"
    exact h1 f s hr
end Zed
end
section
set_option maxHeartbeats 4000000
/-! ZCrt: what the laws of joining share. -/
namespace Zed
open PySem PySem.Spec PyProof.Rows L2
local macro_rules | `(tactic| walk_at "zs") => `(tactic| simp only [zv, zc, zop, zun, anil, acons, ztup, zfl, zlst, zbl, zcall, zcallK, tvl, ttr, tand, tor, tnot, zand, zor, zorT, znot, zif, zchn, zsl, onone, osome, zrev, zrevA, zisi, gn, gnil, gcons, gtup, gsub, snil, sseq, sexp, sret, sretN, sif, sasg, sset, spar, spar3, saug, wkL, zapp, zpop, zseal, xat, snever, tyes, ilist, itup, istr, irng1, irng2, irng3, ienum, ienumT, izip, irev, wipeZ, zev, oAddL, isNon, at2_if, iseq, ienumT, gstar, gtupA, saugS, oGetL, sl_0, sl_1, sl_2, sl_3, sl_4, sl_5, sl_6, sl_7, sl_8, at1_0, at2_0, at2_1, at3_0, at3_1, at3_2, at4_0, at4_1, at4_2, at4_3, at5_0, at5_1, at5_2, at5_3, at5_4, at6_0, at6_1, at6_2, at6_3, at6_4, at6_5, at7_0, at7_1, at7_2, at7_3, at7_4, at7_5, at7_6, at8_0, at8_1, at8_2, at8_3, at8_4, at8_5, at8_6, at8_7, ixn2_0, ixn2_1, ixn3_0, ixn3_1, ixn3_2, cp_2, vp_2, cp_3, vp_3, cp_6, vp_6, cp_7, vp_7, cp_18, vp_18, cp_60, vp_60, q_truD_1, q_truD_2, q_truD_3, q_truD_4, q_truD_5, q_truD_6, q_oAdd_1, q_oAdd_2, q_oAdd_3, q_oAdd_4, q_oInt_1, q_oSub_1, q_oLt_1, q_oEq_1, q_oNe_1, q_oNe_2, q_oEq_2, q_oIs_1, q_oIs_2, q_oIsNot_1, q_oIsNot_2, q_oNeg_1, q_cAbs_1, q_cMax_1, q_cMin_1, q_cInt_1, q_cInt_2, q_cDivmod_1, q_lenD_1, q_lenD_2, q_lenD_3, q_cLen_1, q_cTuple_1, q_cTuple_2, q_cTuple_3, q_cListF_1, q_cListF_2, q_cListF_3, q_cList_1, q_cList_2, q_seqD_1, q_seqD_2, q_lenD_4, q_oIx_1, q_oIx_2, q_oIx_4, q_oSl_1, q_oSl_2, q_oSl_3, q_oSl_4, q_tyD_1, q_tyD_2, q_tyD_3, q_tyD_4, q_tyD_5, q_tyD_6, q_cIsi_1, q_oSet_1, q_oIAdd_1, q_oIAdd_2, List.getD_cons_zero, List.getD_cons_succ, List.take_zero, List.drop_zero, updM_same, updM_upd, dropM_updM, isi_ii, isi_bi, isi_ib, isi_bb, isi_tt, List.map_cons, List.map_nil, List.replicate_succ, List.replicate_zero, List.cons_append, List.nil_append, List.append_nil, List.set_cons_zero, List.set_cons_succ, List.getElem?_cons_zero, List.getElem?_cons_succ, List.length_cons, List.length_nil, Bool.false_eq_true, if_true, if_false, Bool.not_true, Bool.not_false, Bool.not_eq_true, Bool.not_eq_false', decide_eq_true_eq, true_and, and_true, exists_eq_left', Nat.reduceAdd, Nat.reduceSub, reduceCtorEq, decide_true, decide_false, Bool.true_eq_false, ite_true, ite_false, isw_int])
def b_lgcd : ZTS :=
  (sseq (swhile (tvl (zop oGt (zv 1) (zc (.int 0)))) (spar 0 1 (acons (zv 1) (acons (zop oMod (zv 0) (zv 1)) anil))))
    (sret (zv 0)))
def c_lgcd : ZSp := fun ds m Q _ => ∃ a b : Int, ds = [.int a, .int b] ∧ 0 ≤ a ∧ 0 ≤ b ∧ Q (.int (Int.gcd a b)) m
theorem w_lgcd (ds : List D) (m : Mu) (Q : QE) (E : QX) (h : c_lgcd ds m Q E) : ds.length = 2 ∧ b_lgcd ⟨fun _ m => Q .non m, Q, fun x _ m => E x m⟩ (ds.map some ++ List.replicate (2 - ds.length) none) m := by
  obtain ⟨a, b, rfl, a0, b0, h⟩ := h
  refine ⟨rfl, ?_⟩
  unfold b_lgcd
  walk_at "zs"
  refine while_i (fun k ρ m' => ∃ x y : Int, k = y.toNat ∧ 0 ≤ x ∧ 0 ≤ y ∧ Int.gcd x y = Int.gcd a b ∧ ρ = [some (.int x), some (.int y)] ∧ m' = m) b.toNat ⟨a, b, rfl, a0, b0, rfl, rfl, rfl⟩ ?_
  rintro k ρ m' ⟨x, y, rfl, x0, y0, g, rfl, rfl⟩
  walk_at "zs"
  by_cases hy : 0 < y
  · rw [if_pos hy]
    have z0 := Int.emod_nonneg x (show y ≠ 0 by omega)
    have z1 := Int.emod_lt_of_pos x hy
    refine ⟨hy, (x % y).toNat, by omega, y, x % y, rfl, y0, z0, ?_, rfl⟩
    rw [← g]
    have e := Int.mul_ediv_add_emod x y
    have e2 : x % y = x + -(x / y) * y := by rw [Int.neg_mul, Int.mul_comm (x / y) y]; omega
    rw [e2, Int.gcd_add_mul_right_right, Int.gcd_comm]
  · rw [if_neg hy]
    have e : y = 0 := by omega
    rw [e, Int.gcd_zero_right] at g
    rw [← g, Int.natAbs_of_nonneg x0] at h
    exact h
def b_k20_least : ZTS :=
  (sseq (sset (zc (.int 1)) 1)
    (sseq (sfor (iseq (zv 0)) (gn 2) (sset (zop oMul (zv 1) (zop oFdv (zv 2) (zcall c_lgcd (acons (zv 1) (acons (zv 2) anil))))) 1))
    (sret (zv 1))))
def c_k20_least : ZSp := fun ds m Q _ => ∃ ms : List Int, ds = [.fl (ms.map .int)] ∧ ms.length ≤ 31 ∧ (∀ x ∈ ms, 0 < x ∧ x ≤ 1000000000000000000000000000000000000000000000000000000000000) ∧ Q (.int (lcmF 1 ms)) m
theorem lcm_small {ms : List Int} (hl : ms.length ≤ 31) (h : ∀ x ∈ ms, 0 < x ∧ x ≤ 1000000000000000000000000000000000000000000000000000000000000) : (lcmF 1 ms).natAbs < 2 ^ 6500 := by
  have p := lcmF_pos (show (0 : Int) < 1 by decide) fun x hx => (h x hx).1
  have := lcmF_bits (B := 1000000000000000000000000000000000000000000000000000000000000) (by decide) ms 1 0 (by decide) (by decide) h
  generalize hk : 0 + ms.length = k at *
  have h3 : ((1000000000000000000000000000000000000000000000000000000000000 : Int) ^ k).natAbs ≤ 2 ^ (200 * k) := abs_pow (i := 1000000000000000000000000000000000000000000000000000000000000) (a := 200) _ (by decide +kernel)
  have h5 : (2 : Nat) ^ (200 * k) < 2 ^ 6500 := Nat.pow_lt_pow_right (by decide) (by omega)
  omega
theorem w_k20_least (ds : List D) (m : Mu) (Q : QE) (E : QX) (h : c_k20_least ds m Q E) : ds.length = 1 ∧ b_k20_least ⟨fun _ m => Q .non m, Q, fun x _ m => E x m⟩ (ds.map some ++ List.replicate (3 - ds.length) none) m := by
  obtain ⟨ms, rfl, hl, hv, h⟩ := h
  refine ⟨rfl, ?_⟩
  unfold b_k20_least
  walk_at "zs"
  refine for_i ?_
  walk_at "zs"
  obtain ⟨I, hI⟩ : ∃ I : Nat → ZEnv → Mu → Prop, I = fun i ρ m' => ∃ c, i ≤ ms.length ∧ ρ = [some (.fl (ms.map .int)), some (.int (lcmF 1 (ms.take i))), c] ∧ m' = m := ⟨_, rfl⟩
  refine loop_i I (by rw [hI]; exact ⟨_, Nat.zero_le _, rfl, rfl⟩) fun i ρ m' hi => ?_
  rw [hI] at hi
  obtain ⟨c, il, rfl, rfl⟩ := hi
  refine ⟨trivial, fun hlt => ?_, fun e => ?_⟩
  · have hlt' := lt_len hlt
    show gn 2 ((ms.map D.int).getD i .non) _ _ _ _
    rw [getD_ints, if_pos hlt']
    have gx : ms.getD i 0 = ms[i] := by rw [List.getD_eq_getElem?_getD, List.getElem?_eq_getElem hlt']; rfl
    rw [gx]
    have v := hv _ (List.getElem_mem hlt')
    have L0 := lcmF_pos (xs := ms.take i) (show (0 : Int) < 1 by decide) fun x hx => (hv x (List.mem_of_mem_take hx)).1
    have sm := lcm_small (ms := ms.take i) (by rw [List.length_take]; omega) fun x hx => hv x (List.mem_of_mem_take hx)
    walk_at "zs"
    refine ⟨_, _, rfl, by omega, by omega, ?_⟩
    have c0 : (0 : Int) < Int.gcd (lcmF 1 (ms.take i)) ms[i] := by have := gcd_pos_l ms[i] L0; omega
    have c1 : (Int.gcd (lcmF 1 (ms.take i)) ms[i] : Int) ≤ ms[i] := Int.le_of_dvd (by omega) (Int.gcd_dvd_right ..)
    have g7 := g60_lt v.2
    have up : (2 : Int) ^ 7000 < 2 ^ 8000 := lt_two (Int.le_refl _) (by decide)
    have s0 := step_pos L0 v.1
    have s1 := step_le L0 v.1
    walk_at "zs"
    refine ⟨small_fdv c0 (by omega), mul_ok sm (abs_lt (k := 7000) (by omega) (by omega)) (by decide), ?_⟩
    rw [hI]
    have eL : lcmF 1 (ms.take (i + 1)) = lcmF 1 (ms.take i) * (ms[i] / Int.gcd (lcmF 1 (ms.take i)) ms[i]) := by
      rw [List.take_succ_eq_append_getElem hlt', lcmF_app]
      rfl
    exact ⟨_, hlt', by rw [eL], rfl⟩
  · have e3 := eq_len e
    walk_at "zs"
    rw [e3, List.take_length]
    exact h
theorem q_oIsNot_t {xs : List D} {m : Mu} {Q : QE} : oIsNot (.tup xs) .non m Q = Q (.bl true) m := rfl
theorem q_oIsNot_n {m : Mu} {Q : QE} : oIsNot .non .non m Q = Q (.bl false) m := rfl
theorem ok_class : PyData.canLay0 (.str "class") = true := by decide +kernel
theorem ok_clash : PyData.canLay0 (.str "clash") = true := by decide +kernel
theorem pl_c3 {x : Str} {a b : Int} (h : PyData.canLay0 (.str x) = true) : Pl 1 (.tup [.str x, .int a, .int b]) := fun y hy => by
  rcases List.mem_cons.mp hy with rfl | hy
  · exact h
  · rcases List.mem_cons.mp hy with rfl | hy
    · exact True.intro
    · rw [List.mem_singleton.mp hy]
      exact True.intro
def bdK (w i : Nat) : Int := match w with
  | 3 => ([1, 2, 6, 30, 210, 2310, 30030, 2912910] : List Int).getD i 0 ^ 2
  | 4 => ([1, 2, 6, 30, 210, 2310, 30030, 2912910] : List Int).getD i 0 ^ 7
  | _ => ([1, 2, 6, 30, 210, 2310, 30030, 2912910] : List Int).getD i 0 ^ 3
def t_k20_mod2 : ZTS :=
  (sseq (sif (tand (tvl (zop oNe (zv 2) (zfl anil))) (tvl (zop oEq (zcall c_take (acons (zv 0) (acons (zc (.int 6)) anil))) (zc (.int 0))))) (sset (zop oIx (zv 2) (zcall c_take (acons (zv 0) (acons (zbl (acons (zv 2) anil) cLen) anil)))) 5) snil)
    (sexp (zapp (zv 2) (acons (zv 5) anil))))
def t_k20_mod1 : ZTS :=
  (sseq (sif (tvl (zop oGt (zv 4) (zc (.int 2)))) (sfor (iseq (zfl (acons (zc (.int 2)) (acons (zc (.int 3)) (acons (zc (.int 5)) (acons (zc (.int 7)) (acons (zc (.int 11)) (acons (zc (.int 13)) (acons (zc (.int 97)) anil))))))))) (gn 6) (sfor (irng1 (acons (zcall c_take (acons (zv 0) (acons (zop oIx (zfl (acons (zc (.int 3)) (acons (zc (.int 8)) (acons (zc (.int 4)) anil)))) (zop oSub (zv 4) (zc (.int 3)))) anil))) anil)) (gn 7) (sset (zop oMul (zv 5) (zv 6)) 5))) snil)
    t_k20_mod2)
def b_k20_moduli : ZTS :=
  (sseq (sset (zlst anil) 2)
    (sseq (sfor (irng1 (acons (zv 1) anil)) (gn 3) (sseq (sset (zcall c_take (acons (zv 0) (acons (zc (.int 6)) anil))) 4)
    (sseq (sset (zop oIx (zfl (acons (zop oAdd (zc (.int 1)) (zcall c_take (acons (zv 0) (acons (zc (.int 12)) anil)))) (acons (zop oAdd (zc (.int 1)) (zcall c_take (acons (zv 0) (acons (zc (.int 300)) anil)))) (acons (zop oAdd (zc (.int 1)) (zcall c_figures (acons (zv 0) (acons (zc (.int 59)) anil)))) (acons (zc (.int 1)) (acons (zc (.int 1)) (acons (zc (.int 1)) anil))))))) (zv 4)) 5)
    t_k20_mod1)))
    (sret (zseal (zv 2)))))
def c_k20_moduli : ZSp := fun ds m Q _ => ∃ (p : Addr) (n : Int) (K : Nat), ds = [.ref p, .int n] ∧ Pool m p K ∧ K ≤ 1000000 ∧ 0 ≤ n ∧ n ≤ 64 ∧ ∀ (ms : List Int) m', (ms.length : Int) = n → (∀ x ∈ ms, 0 < x ∧ x ≤ 1000000000000000000000000000000000000000000000000000000000000) → PM m p (K + 20 * n.toNat) m' → Q (.fl (ms.map .int)) m'
theorem tail_k20_mod2 {Dz : ZEnds} {p q : Addr} {n : Int} {K : Nat} {ms : List Int} {m : Mu} {M w : Int} {a d e : Option D} (hM : 0 < M ∧ M ≤ 1000000000000000000000000000000000000000000000000000000000000) (hv : ∀ x ∈ ms, 0 < x ∧ x ≤ 1000000000000000000000000000000000000000000000000000000000000) (hl : ms.length ≤ 64) (hK : K ≤ 100000000) (hp : Pool m p K) (qp : q ≠ p)
    (h : ∀ M m1 d, 0 < M ∧ M ≤ 1000000000000000000000000000000000000000000000000000000000000 → PM m p (K + 2) m1 → Dz.nx [some (.ref p), some (.int n), some (.ref q), a, some (.int w), some (.int M), d, e] (updM m1 q (.lst ((ms ++ [M]).map .int)))) :
    t_k20_mod2 Dz [some (.ref p), some (.int n), some (.ref q), a, some (.int w), some (.int M), d, e] (updM m q (.lst (ms.map .int))) := by
  have eM : ∀ M : Int, ms.map D.int ++ [D.int M] = (ms ++ [M]).map .int := fun M => by rw [List.map_append]; rfl
  unfold t_k20_mod2
  walk_at "zs"
  refine oNe_ref_nil (n := 1) updM_same (pl_ints ms) (by decide) ?_
  have fin : ∀ M m1 d, 0 < M ∧ M ≤ 1000000000000000000000000000000000000000000000000000000000000 → PM m p (K + 2) m1 → (∃ xs, some (MO.lst (ms.map D.int)) = some (.lst xs)) ∧ (ms.map D.int).length < sizeLine ∧ Dz.nx [some (.ref p), some (.int n), some (.ref q), a, some (.int w), some (.int M), d, e] (updM m1 q (.lst (ms.map D.int ++ [.int M]))) := fun M m1 d hM hm1 => by
    rw [eM]
    exact ⟨⟨_, rfl⟩, by rw [List.length_map, sizeLine_eq]; omega, h M m1 d hM hm1⟩
  cases hms : ms with
  | nil =>
    rw [hms] at fin
    simp only [List.map_nil, List.isEmpty_nil, Bool.not_true, Bool.false_eq_true, if_false]
    walk_at "zs"
    exact fin M m d hM (hp.self.more (by omega))
  | cons x xs =>
    rw [← hms]
    have e0 : (ms.map D.int).isEmpty = false := by rw [hms]; rfl
    simp only [e0, Bool.not_false, if_true]
    have l0 : 0 < ms.length := by rw [hms]; simp
    refine ⟨p, 6, _, rfl, hp.upd qp, by omega, by decide, small_lt (by decide), fun r m2 r0 r1 hm2 => ?_⟩
    obtain ⟨u2, hu2, rfl⟩ := hm2.under qp
    walk_at "zs"
    by_cases c0 : r = 0
    · rw [if_pos c0]
      refine ⟨p, _, _, rfl, hu2.pool.upd qp, by omega, by rw [List.length_map]; omega, small_lt (by rw [List.length_map]; omega), fun j m3 j0 j1 hm3 => ?_⟩
      obtain ⟨u3, hu3, rfl⟩ := hm3.under qp
      rw [List.length_map] at j1
      walk_at "zs"
      obtain ⟨k, rfl⟩ : ∃ k : Nat, j = (k : Int) := ⟨j.toNat, by omega⟩
      have ej : atI (ms.map D.int) (k : Int) = some (.int (ms.getD k 0)) := by
        refine atI_nat ?_
        have : k < ms.length := by omega
        simp [List.getD_eq_getElem?_getD, this]
      rw [ej]
      walk_at "zs"
      exact fin _ _ d (hv _ (getD_mem (by omega))) ((hu2.trans hu3).more (by omega))
    · rw [if_neg c0]
      exact fin M _ d hM (hu2.more (by omega))
def prs7 : List Int := [2, 3, 5, 7, 11, 13, 97]
theorem bdK_le : ∀ w, w < 6 → 2 < w → ∀ i, i ≤ 7 → 0 < bdK w i ∧ bdK w i ≤ 1000000000000000000000000000000000000000000000000000000000000 := by decide +kernel
theorem bdK_step : ∀ w, w < 6 → 2 < w → ∀ i, i < 7 → bdK w i * prs7.getD i 0 ^ (([3, 8, 4] : List Nat).getD (w - 3) 0 - 1) ≤ bdK w (i + 1) ∧ 2 ≤ prs7.getD i 0 ∧ prs7.getD i 0 ≤ 97 ∧ 1 ≤ ([3, 8, 4] : List Nat).getD (w - 3) 0 ∧ ([3, 8, 4] : List Nat).getD (w - 3) 0 ≤ 8 := by decide +kernel
theorem tail_k20_mod1 {Dz : ZEnds} {p q : Addr} {n : Int} {K : Nat} {ms : List Int} {m : Mu} {M : Int} {w : Nat} {a d e : Option D} (hM : 0 < M ∧ M ≤ 1000000000000000000000000000000000000000000000000000000000000) (hw : w < 6) (hM1 : 2 < w → M = 1) (hv : ∀ x ∈ ms, 0 < x ∧ x ≤ 1000000000000000000000000000000000000000000000000000000000000) (hl : ms.length ≤ 64) (hK : K ≤ 10000000) (hp : Pool m p K) (qp : q ≠ p)
    (h : ∀ M m1 d e, 0 < M ∧ M ≤ 1000000000000000000000000000000000000000000000000000000000000 → PM m p (K + 9) m1 → Dz.nx [some (.ref p), some (.int n), some (.ref q), a, some (.int (w : Int)), some (.int M), d, e] (updM m1 q (.lst ((ms ++ [M]).map .int)))) :
    t_k20_mod1 Dz [some (.ref p), some (.int n), some (.ref q), a, some (.int (w : Int)), some (.int M), d, e] (updM m q (.lst (ms.map .int))) := by
  unfold t_k20_mod1
  walk_at "zs"
  by_cases h2 : 2 < (w : Int)
  · rw [if_pos h2]
    have h2' : 2 < w := by omega
    refine for_i ?_
    walk_at "zs"
    obtain ⟨I, hI⟩ : ∃ I : Nat → ZEnv → Mu → Prop, I = fun i ρ m' => ∃ (x : Int) (u : Mu) (d e : Option D), i ≤ 7 ∧ 0 < x ∧ x ≤ bdK w i ∧ PM m p (K + i) u ∧ ρ = [some (.ref p), some (.int n), some (.ref q), a, some (.int (w : Int)), some (.int x), d, e] ∧ m' = updM u q (.lst (ms.map .int)) := ⟨_, rfl⟩
    refine loop_i I (by rw [hI]; exact ⟨M, m, _, _, by decide, hM.1, by rw [hM1 h2']; exact (bdK_le w hw h2' 0 (by decide)).1, hp.self, rfl, rfl⟩) fun i ρ m' hi => ?_
    rw [hI] at hi
    obtain ⟨x, u, d, e, il, x0, x1, hu, rfl, rfl⟩ := hi
    refine ⟨trivial, fun hlt => ?_, fun e9 => ?_⟩
    · have hlt' : i < 7 := hlt
      have hitem : ([D.int 2, D.int 3, D.int 5, D.int 7, D.int 11, D.int 13, D.int 97] : List D).getD i .non = .int (prs7.getD i 0) := by
        have cs : i = 0 ∨ i = 1 ∨ i = 2 ∨ i = 3 ∨ i = 4 ∨ i = 5 ∨ i = 6 := by omega
        rcases cs with rfl | rfl | rfl | rfl | rfl | rfl | rfl <;> rfl
      show gn 6 (([D.int 2, D.int 3, D.int 5, D.int 7, D.int 11, D.int 13, D.int 97] : List D).getD i .non) _ _ _ _
      rw [hitem]
      walk_at "zs"
      refine for_i ?_
      walk_at "zs"
      obtain ⟨b1, b2, b3, b4, b5⟩ := bdK_step w hw h2' i hlt'
      have hat : atI [D.int 3, D.int 8, D.int 4] ((w : Int) - 3) = some (.int ((([3, 8, 4] : List Nat).getD (w - 3) 0 : Nat) : Int)) := by
        have cs : w = 3 ∨ w = 4 ∨ w = 5 := by omega
        rcases cs with rfl | rfl | rfl <;> rfl
      rw [hat]
      generalize ([3, 8, 4] : List Nat).getD (w - 3) 0 = many at *
      generalize prs7.getD i 0 = pr7 at *
      walk_at "zs"
      refine ⟨p, _, _, rfl, hu.pool.upd qp, by omega, by omega, small_lt (by omega), fun r u' r0 r1 hu' => ?_⟩
      obtain ⟨v, hv', rfl⟩ := hu'.under qp
      walk_at "zs"
      refine ⟨⟨by omega, by omega⟩, ?_⟩
      have mono : ∀ j : Nat, j ≤ r.toNat → x * pr7 ^ j ≤ bdK w (i + 1) := fun j hj => by
        have h1 : (pr7 : Int) ^ j ≤ pr7 ^ (many - 1) := by
          obtain ⟨k, hk⟩ := Nat.exists_eq_add_of_le (show j ≤ many - 1 by omega)
          rw [hk, Int.pow_add]
          have g1 : 0 < (pr7 : Int) ^ j := Int.pow_pos (by omega)
          have g2 : 0 < (pr7 : Int) ^ k := Int.pow_pos (by omega)
          have := Int.mul_le_mul_of_nonneg_left (show (1 : Int) ≤ pr7 ^ k by omega) (show 0 ≤ pr7 ^ j by omega)
          omega
        have h2 := Int.mul_le_mul x1 h1 (Int.le_of_lt (Int.pow_pos (by omega))) (by omega)
        omega
      have big := (bdK_le w hw h2' (i + 1) (by omega)).2
      obtain ⟨J, hJ⟩ : ∃ J : Nat → ZEnv → Mu → Prop, J = fun j ρ m' => ∃ e : Option D, j ≤ r.toNat ∧ ρ = [some (.ref p), some (.int n), some (.ref q), a, some (.int (w : Int)), some (.int (x * pr7 ^ j)), some (.int pr7), e] ∧ m' = updM v q (.lst (ms.map .int)) := ⟨_, rfl⟩
      refine loop_i J (by rw [hJ]; exact ⟨_, Nat.zero_le _, by rw [Int.pow_zero, Int.mul_one], rfl⟩) fun j ρ m' hj => ?_
      rw [hJ] at hj
      obtain ⟨e', jl, rfl, rfl⟩ := hj
      have xj0 : 0 < x * pr7 ^ j := Int.mul_pos x0 (Int.pow_pos (by omega))
      have xj1 := mono j jl
      have g7 := g60_lt (Int.le_trans xj1 big)
      refine ⟨trivial, fun hlt3 => ?_, fun e3 => ?_⟩
      · have hlt3' : j < r.toNat := hlt3
        walk_at "zs"
        refine ⟨mul_ok (abs_lt (k := 7000) (by omega) g7) (abs_lt (k := 7000) (by omega) (g60_lt (by omega))) (by decide), ?_⟩
        rw [hJ]
        exact ⟨_, hlt3', by rw [Int.mul_assoc, ← Int.pow_succ], rfl⟩
      · rw [hI]
        exact ⟨_, v, _, _, hlt', xj0, xj1, hu.trans hv', rfl, rfl⟩
    · have e8 : i = 7 := e9
      rw [e8] at x1 hu
      exact tail_k20_mod2 ⟨x0, Int.le_trans x1 (bdK_le w hw h2' 7 (by decide)).2⟩ hv hl (by omega) hu.pool qp fun M m1 d hM hm1 => h M m1 d e hM (hu.trans (hm1.more (by omega)))
  · rw [if_neg h2]
    exact tail_k20_mod2 hM hv hl (by omega) hp qp fun M m1 d hM hm1 => h M m1 d e hM (hm1.more (by omega))
theorem w_k20_moduli (ds : List D) (m : Mu) (Q : QE) (E : QX) (h : c_k20_moduli ds m Q E) : ds.length = 2 ∧ b_k20_moduli ⟨fun _ m => Q .non m, Q, fun x _ m => E x m⟩ (ds.map some ++ List.replicate (8 - ds.length) none) m := by
  obtain ⟨p, n, K, rfl, hp, hK, n0, n1, h⟩ := h
  refine ⟨rfl, ?_⟩
  unfold b_k20_moduli
  walk_at "zs"
  refine fun q nq => for_i ?_
  walk_at "zs"
  have qp := hp.ne nq
  refine ⟨⟨by omega, by omega⟩, ?_⟩
  obtain ⟨I, hI⟩ : ∃ I : Nat → ZEnv → Mu → Prop, I = fun i ρ m' => ∃ (ms : List Int) (m1 : Mu) (a b c d e : Option D), ms.length = i ∧ i ≤ 64 ∧ (∀ x ∈ ms, 0 < x ∧ x ≤ 1000000000000000000000000000000000000000000000000000000000000) ∧ PM m p (K + 20 * i) m1 ∧ ρ = [some (.ref p), some (.int n), some (.ref q), a, b, c, d, e] ∧ m' = updM m1 q (.lst (ms.map .int)) := ⟨_, rfl⟩
  refine loop_i I (by rw [hI]; exact ⟨[], m, _, _, _, _, _, rfl, by decide, (fun x hx => by cases hx), hp.self, rfl, rfl⟩) fun i ρ m' hi => ?_
  rw [hI] at hi
  obtain ⟨ms, m1, a, b, c, d, e, hl, il, hv, hm, rfl, rfl⟩ := hi
  refine ⟨trivial, fun hlt => ?_, fun e => ?_⟩
  · have hlt' : i < n.toNat := hlt
    walk_at "zs"
    refine ⟨p, 6, _, rfl, hm.pool.upd qp, by omega, by decide, small_lt (by decide), fun w m2 w0 w1 hm2 => ?_⟩
    obtain ⟨u2, hu2, rfl⟩ := hm2.under qp
    walk_at "zs"
    refine ⟨p, 12, _, rfl, hu2.pool.upd qp, by omega, by decide, small_lt (by decide), fun t1 m3 t10 t11 hm3 => ?_⟩
    obtain ⟨u3, hu3, rfl⟩ := hm3.under qp
    walk_at "zs"
    refine ⟨p, 300, _, rfl, hu3.pool.upd qp, by omega, by decide, small_lt (by decide), fun t2 m4 t20 t21 hm4 => ?_⟩
    obtain ⟨u4, hu4, rfl⟩ := hm4.under qp
    walk_at "zs"
    refine ⟨p, 59, _, rfl, hu4.pool.upd qp, by omega, by decide, by decide, fun t3 m5 t30 _ hm5 t31 => ?_⟩
    obtain ⟨u5, hu5, rfl⟩ := hm5.under qp
    walk_at "zs"
    obtain ⟨k, rfl⟩ : ∃ k : Nat, w = (k : Int) := ⟨w.toNat, by omega⟩
    have hm5 := (((hm.trans hu2).trans hu3).trans hu4).trans hu5
    have fin : ∀ M : Int, 0 < M ∧ M ≤ 1000000000000000000000000000000000000000000000000000000000000 → (2 < k → M = 1) → t_k20_mod1 ⟨I (i + 1), Q, fun x ρ m => E x m⟩ [some (.ref p), some (.int n), some (.ref q), some (.int i), some (.int (k : Int)), some (.int M), d, e] (updM u5 q (.lst (ms.map .int))) := fun M hM hM1 => by
      refine tail_k20_mod1 hM (by omega) hM1 hv (by omega) (by omega) hm5.pool qp fun M m1 d e hM hm1 => ?_
      rw [hI]
      refine ⟨ms ++ [M], m1, _, _, _, _, _, by rw [List.length_append, hl]; rfl, by omega, fun y hy => ?_, (hm5.trans hm1).more (by omega), rfl, rfl⟩
      rcases List.mem_append.mp hy with hy | hy
      · exact hv y hy
      · rw [List.mem_singleton.mp hy]
        exact hM
    have f59 : (10 : Int) ^ (59 : Int).toNat ≤ 1000000000000000000000000000000000000000000000000000000000000 := by decide +kernel
    have cs : k = 0 ∨ k = 1 ∨ k = 2 ∨ k = 3 ∨ k = 4 ∨ k = 5 := by omega
    rcases cs with rfl | rfl | rfl | rfl | rfl | rfl
    · exact fin _ (by omega) (by omega)
    · exact fin _ (by omega) (by omega)
    · exact fin _ (by omega) (by omega)
    · exact fin _ (by omega) (fun _ => rfl)
    · exact fin _ (by omega) (fun _ => rfl)
    · exact fin _ (by omega) (fun _ => rfl)
  · have e3 : i = n.toNat := e
    walk_at "zs"
    rw [dropM_updM (by rw [hm.at qp]; exact nq)]
    exact h ms m1 (by omega) hv (by rw [← e3]; exact hm)
end Zed
end
section
set_option maxHeartbeats 4000000
/-! ZK80: fits gone through, the law's own. -/
namespace Zed
open PySem PySem.Spec PyProof.Rows L2
local macro_rules | `(tactic| walk_at "zs") => `(tactic| simp only [zv, zc, zop, zun, anil, acons, ztup, zfl, zlst, zbl, zcall, zcallK, tvl, ttr, tand, tor, tnot, zand, zor, zorT, znot, zif, zchn, zsl, onone, osome, zrev, zrevA, zisi, gn, gnil, gcons, gtup, gsub, snil, sseq, sexp, sret, sretN, sif, sasg, sset, spar, spar3, saug, wkL, zapp, zpop, zseal, xat, snever, tyes, ilist, itup, istr, irng1, irng2, irng3, ienum, ienumT, izip, irev, wipeZ, zev, oAddL, isNon, at2_if, iseq, ienumT, gstar, gtupA, saugS, oGetL, izipS, sl_0, sl_1, sl_2, sl_3, sl_4, sl_5, sl_6, sl_7, sl_8, at1_0, at2_0, at2_1, at3_0, at3_1, at3_2, at4_0, at4_1, at4_2, at4_3, at5_0, at5_1, at5_2, at5_3, at5_4, at6_0, at6_1, at6_2, at6_3, at6_4, at6_5, at7_0, at7_1, at7_2, at7_3, at7_4, at7_5, at7_6, at8_0, at8_1, at8_2, at8_3, at8_4, at8_5, at8_6, at8_7, ixn2_0, ixn2_1, ixn3_0, ixn3_1, ixn3_2, cp_2, vp_2, cp_3, vp_3, cp_6, vp_6, cp_7, vp_7, cp_18, vp_18, cp_60, vp_60, q_truD_1, q_truD_2, q_truD_3, q_truD_4, q_truD_5, q_truD_6, q_oAdd_1, q_oAdd_2, q_oAdd_3, q_oAdd_4, q_oInt_1, q_oSub_1, q_oLt_1, q_oEq_1, q_oNe_1, q_oNe_2, q_oEq_2, q_oIs_1, q_oIs_2, q_oIsNot_1, q_oIsNot_2, q_oNeg_1, q_cAbs_1, q_cMax_1, q_cMin_1, q_cInt_1, q_cInt_2, q_cDivmod_1, q_lenD_1, q_lenD_2, q_lenD_3, q_cLen_1, q_cTuple_1, q_cTuple_2, q_cTuple_3, q_cListF_1, q_cListF_2, q_cListF_3, q_cList_1, q_cList_2, q_seqD_1, q_seqD_2, q_lenD_4, q_oIx_1, q_oIx_2, q_oIx_4, q_oSl_1, q_oSl_2, q_oSl_3, q_oSl_4, q_tyD_1, q_tyD_2, q_tyD_3, q_tyD_4, q_tyD_5, q_tyD_6, q_cIsi_1, q_oSet_1, q_oIAdd_1, q_oIAdd_2, List.getD_cons_zero, List.getD_cons_succ, List.take_zero, List.drop_zero, updM_same, updM_upd, dropM_updM, isi_ii, isi_bi, isi_ib, isi_bb, isi_tt, List.map_cons, List.map_nil, List.replicate_succ, List.replicate_zero, List.cons_append, List.nil_append, List.append_nil, List.set_cons_zero, List.set_cons_succ, List.getElem?_cons_zero, List.getElem?_cons_succ, List.length_cons, List.length_nil, Bool.false_eq_true, if_true, if_false, Bool.not_true, Bool.not_false, Bool.not_eq_true, Bool.not_eq_false', decide_eq_true_eq, true_and, and_true, exists_eq_left', Nat.reduceAdd, Nat.reduceSub, reduceCtorEq, decide_true, decide_false, Bool.true_eq_false, ite_true, ite_false, isw_int])
theorem fitK_i {M r T B : Int} {m : Mu} {Q : QE} {E : QX} (hb : FitB M r T B) (hB : B ≤ G60) (h : ∀ o, FitIs M r T B o → Q (fitD o) m) : c_fitK [.int M, .int r] [.int T, .int B] m Q E := ⟨rfl, rfl, M, r, T, B, rfl, hb, hB, h⟩
/-- the fractions with bottoms below u -/
def AllF (M r T u : Int) (zs : List (Int × Int)) : Prop := (∀ p ∈ zs, IsFit M r T (u - 1) p.1 p.2) ∧ (∀ a b, IsFit M r T (u - 1) a b → (a, b) ∈ zs) ∧ zs.Pairwise fun p q => p.2 ≤ q.2
def b_k80_all : ZTS :=
  (sseq (sset (zlst anil) 4)
    (sseq (sfor (irng2 (acons (zc (.int 1)) (acons (zop oAdd (zv 3) (zc (.int 1))) anil))) (gn 5) (sseq (sset (zop oMod (zop oMul (zv 1) (zv 5)) (zv 0)) 6)
    (sfor (iseq (zfl (acons (zv 6) (acons (zop oSub (zv 6) (zv 0)) anil)))) (gn 7) (sif (tvl (zchn oLe oLe (zop oSub (zc (.int 0)) (zv 2)) (zv 7) (zv 2))) (sexp (zapp (zv 4) (acons (ztup (acons (zv 7) (acons (zv 5) anil))) anil))) snil))))
    (sret (zseal (zv 4)))))
def c_k80_all : ZSp := fun ds m Q _ => ∃ M r T B : Int, ds = [.int M, .int r, .int T, .int B] ∧ FitB M r T B ∧ M ≤ 3000 ∧ B ≤ 3000 ∧ ∀ zs : List (Int × Int), AllF M r T (B + 1) zs → zs.length ≤ 9000 → Q (.fl (zs.map pr)) m
theorem w_k80_all (ds : List D) (m : Mu) (Q : QE) (E : QX) (h : c_k80_all ds m Q E) : ds.length = 4 ∧ b_k80_all ⟨fun _ m => Q .non m, Q, fun x _ m => E x m⟩ (ds.map some ++ List.replicate (8 - ds.length) none) m := by
  obtain ⟨M, r, T, B, rfl, hb, hM, hB, h⟩ := h
  refine ⟨rfl, ?_⟩
  obtain ⟨m0, m1, r0, r1, T0, B0, tb⟩ := id hb
  have T1 := hb.t1
  have T2 : 2 * T < M := by
    have k1 := Int.mul_le_mul_of_nonneg_left B0 (show 0 ≤ 2 * T by omega)
    omega
  unfold b_k80_all
  walk_at "zs"
  intro q nq
  refine for_i ?_
  walk_at "zs"
  refine ⟨⟨by decide, by decide, by omega, by omega⟩, ?_⟩
  obtain ⟨I, hI⟩ : ∃ I : Nat → ZEnv → Mu → Prop, I = fun (i : Nat) ρ m' => ∃ (zs : List (Int × Int)) (a b c : Option D), (i : Int) ≤ B ∧ AllF M r T (1 + (i : Int)) zs ∧ zs.length ≤ 3 * i ∧
    ρ = [some (.int M), some (.int r), some (.int T), some (.int B), some (.ref q), a, b, c] ∧ m' = updM m q (.lst (zs.map pr)) := ⟨_, rfl⟩
  refine loop_i I (by
    rw [hI]
    refine ⟨[], _, _, _, by omega, ⟨fun p hp => (by cases hp), fun a b hf => ?_, List.Pairwise.nil⟩, Nat.zero_le _, rfl, rfl⟩
    have h1 := hf.1
    have h2 := hf.2.1
    omega) fun i ρ m' hi => ?_
  rw [hI] at hi
  obtain ⟨zs, a, b, c, il, ha, hl, rfl, rfl⟩ := hi
  refine ⟨trivial, fun hlt => ?_, fun e => ?_⟩
  · have hlt' : i < (B + 1 - 1).toNat := hlt
    walk_at "zs"
    have e1 := Int.emod_nonneg (r * (1 + (i : Int))) (show M ≠ 0 by omega)
    have e2 := Int.emod_lt_of_pos (r * (1 + (i : Int))) (show 0 < M by omega)
    have e3 := Int.mul_ediv_add_emod (r * (1 + (i : Int))) M
    refine ⟨mul_ok (a := 20) (b := 20) (by omega) (by omega) (by decide), by omega, ?_⟩
    generalize ho : r * (1 + (i : Int)) % M = o at e1 e2 e3
    have dv1 : ∀ x, M ∣ x - r * (1 + (i : Int)) ↔ M ∣ x - o := fun x => by
      constructor
      · rintro ⟨k, hk⟩
        exact ⟨k + r * (1 + (i : Int)) / M, by rw [Int.mul_add]; omega⟩
      · rintro ⟨k, hk⟩
        exact ⟨k - r * (1 + (i : Int)) / M, by rw [Int.mul_sub]; omega⟩
    refine for_i ?_
    walk_at "zs"
    -- one of both, or none
    obtain ⟨J, hJ⟩ : ∃ J : Nat → ZEnv → Mu → Prop, J = fun j ρ m' => ∃ (ys : List (Int × Int)) (c : Option D), j ≤ 2 ∧ (∀ p ∈ ys, p ∈ zs ∨ IsFit M r T (1 + (i : Int)) p.1 p.2 ∧ p.2 = 1 + (i : Int)) ∧ (∀ p ∈ zs, p ∈ ys) ∧ (0 < j → -T ≤ o → o ≤ T → (o, 1 + (i : Int)) ∈ ys) ∧ (1 < j → -T ≤ o - M → o - M ≤ T → (o - M, 1 + (i : Int)) ∈ ys) ∧ ys.Pairwise (fun p q => p.2 ≤ q.2) ∧ ys.length ≤ 3 * i + j ∧
      ρ = [some (.int M), some (.int r), some (.int T), some (.int B), some (.ref q), some (.int (1 + (i : Int))), some (.int o), c] ∧ m' = updM m q (.lst (ys.map pr)) := ⟨_, rfl⟩
    refine loop_i J (by rw [hJ]; exact ⟨zs, _, by decide, fun p hp => .inl hp, fun p hp => hp, fun h => absurd h (by decide), fun h => absurd h (by decide), ha.2.2, by omega, rfl, rfl⟩) fun j ρ m' hj => ?_
    rw [hJ] at hj
    obtain ⟨ys, c, jl, y1, y2, y3, y4, y5, y6, rfl, rfl⟩ := hj
    have yle : ∀ p ∈ ys, p.2 ≤ 1 + (i : Int) := fun p hp => by
      rcases y1 p hp with hp | ⟨hf, _⟩
      · have := (ha.1 p hp).2.1
        omega
      · exact hf.2.1
    refine ⟨trivial, fun hlt2 => ?_, fun e => ?_⟩
    · have hlt2' : j < 2 := hlt2
      have cs : j = 0 ∨ j = 1 := by omega
      -- one more item x
      have more : ∀ x : Int, M ∣ x - o → -T ≤ x → x ≤ T → (∀ p ∈ ys ++ [(x, 1 + (i : Int))], p ∈ zs ∨ IsFit M r T (1 + (i : Int)) p.1 p.2 ∧ p.2 = 1 + (i : Int)) ∧ (ys ++ [(x, 1 + (i : Int))]).Pairwise (fun p q => p.2 ≤ q.2) := fun x hx h1 h2 => by
        refine ⟨fun p hp => ?_, ?_⟩
        · rcases List.mem_append.mp hp with hp | hp
          · exact y1 p hp
          · rw [List.mem_singleton.mp hp]
            exact .inr ⟨⟨show 1 ≤ 1 + (i : Int) by omega, Int.le_refl _, h1, h2, (dv1 x).mpr hx⟩, rfl⟩
        · rw [List.pairwise_append]
          refine ⟨y5, List.pairwise_singleton _ _, fun p hp q hq => ?_⟩
          rw [List.mem_singleton.mp hq]
          exact yle p hp
      rcases cs with rfl | rfl
      · walk_at "zs"
        by_cases h1 : 0 - T ≤ o
        · rw [if_pos h1]
          by_cases h2 : o ≤ T
          · rw [if_pos h2, hJ]
            obtain ⟨n1, n2⟩ := more o ⟨0, by omega⟩ (by omega) h2
            refine ⟨⟨_, rfl⟩, by rw [List.length_map, sizeLine_eq]; omega, ys ++ [(o, 1 + (i : Int))], _, by decide, n1, fun p hp => List.mem_append_left _ (y2 p hp), fun _ _ _ => List.mem_append_right _ List.mem_cons_self, fun h => absurd h (by decide), n2, by rw [List.length_append]; show ys.length + 1 ≤ _; omega, rfl, by rw [List.map_append]; rfl⟩
          · rw [if_neg h2, hJ]
            exact ⟨ys, _, by decide, y1, y2, fun _ _ h => absurd h h2, fun h => absurd h (by decide), y5, by omega, rfl, rfl⟩
        · rw [if_neg h1, hJ]
          exact ⟨ys, _, by decide, y1, y2, fun _ h _ => absurd h (by omega), fun h => absurd h (by decide), y5, by omega, rfl, rfl⟩
      · walk_at "zs"
        by_cases h1 : 0 - T ≤ o - M
        · rw [if_pos h1]
          by_cases h2 : o - M ≤ T
          · rw [if_pos h2, hJ]
            obtain ⟨n1, n2⟩ := more (o - M) ⟨-1, by omega⟩ (by omega) h2
            refine ⟨⟨_, rfl⟩, by rw [List.length_map, sizeLine_eq]; omega, ys ++ [(o - M, 1 + (i : Int))], _, by decide, n1, fun p hp => List.mem_append_left _ (y2 p hp), fun _ h3 h4 => List.mem_append_left _ (y3 (by decide) h3 h4), fun _ _ _ => List.mem_append_right _ List.mem_cons_self, n2, by rw [List.length_append]; show ys.length + 1 ≤ _; omega, rfl, by rw [List.map_append]; rfl⟩
          · rw [if_neg h2, hJ]
            exact ⟨ys, _, by decide, y1, y2, fun _ => y3 (by decide), fun _ _ h => absurd h h2, y5, by omega, rfl, rfl⟩
        · rw [if_neg h1, hJ]
          exact ⟨ys, _, by decide, y1, y2, fun _ => y3 (by decide), fun _ h _ => absurd h (by omega), y5, by omega, rfl, rfl⟩
    · have ej : j = 2 := e
      subst ej
      rw [hI]
      refine ⟨ys, _, _, _, by omega, ⟨fun p hp => ?_, fun a b hf => ?_, y5⟩, by omega, rfl, rfl⟩
      · rcases y1 p hp with hp | ⟨hf, _⟩
        · obtain ⟨f1, f2, f3⟩ := ha.1 p hp
          exact ⟨f1, by omega, f3⟩
        · obtain ⟨f1, f2, f3⟩ := hf
          exact ⟨f1, by omega, f3⟩
      · obtain ⟨f1, f2, f3, f4, f5⟩ := hf
        by_cases hbe : b = 1 + (i : Int)
        · subst hbe
          obtain ⟨k, hk⟩ := (dv1 a).mp f5
          rcases Int.lt_trichotomy k 0 with h | h | h
          · have k1 : k = -1 := by
              rcases (by omega : k = -1 ∨ k ≤ -2) with h | h
              · exact h
              · have := Int.mul_le_mul_of_nonneg_left h (show 0 ≤ M by omega)
                omega
            subst k1
            have e : a = o - M := by omega
            subst e
            exact y4 (by decide) f3 f4
          · subst h
            have e : a = o := by omega
            subst e
            exact y3 (by decide) f3 f4
          · have := Int.mul_le_mul_of_nonneg_left (show 1 ≤ k by omega) (show 0 ≤ M by omega)
            omega
        · exact y2 _ (ha.2.1 a b ⟨f1, by omega, f3, f4, f5⟩)
  · have ei : i = (B + 1 - 1).toNat := e
    walk_at "zs"
    rw [dropM_updM nq]
    refine h zs (by rw [show B + 1 = 1 + (i : Int) by omega]; exact ha) (by omega)
theorem atI_head {x : D} {xs : List D} : atI (x :: xs) 0 = some x := atI_nat (j := 0) (xs := x :: xs) rfl
theorem pl_prsF (zs : List (Int × Int)) : Pl 2 (.fl (zs.map pr)) := fun x hx => by
  obtain ⟨p, _, rfl⟩ := List.mem_map.mp hx
  exact pl_tup [p.1, p.2]
theorem oEq_fl_nil {n : Nat} {xs : List D} {m : Mu} {Q : QE} (h : Pl n (.fl xs)) (hn : n ≤ 64) (q : Q (.bl xs.isEmpty) m) : oEq (.fl xs) (.fl []) m Q := by
  rw [q_oEq_fl, eqv_fl_nil]
  exact ⟨h.shaped hn, Pl.shaped (n := 1) (d := .fl []) (fun x hx => by cases hx) (by decide), q⟩
def b_k80_one : ZTS :=
  (sseq (sset (zcall c_k80_all (acons (zv 0) (acons (zv 1) (acons (zv 2) (acons (zv 3) anil))))) 4)
    (sseq (sset (zcallK c_fitK (acons (zv 0) (acons (zv 1) anil)) (acons (zv 2) (acons (zv 3) anil))) 5)
    (sseq (sif (tvl (zop oEq (zv 4) (zfl anil))) (sret (zop oIs (zv 5) (zc .non))) snil)
    (sseq (sif (tnot (tvl (zcall (c_lis 3) (acons (zv 5) (acons (zop oIx (zv 4) (zc (.int 0))) anil))))) (sret (zc (.bl false))) snil)
    (sret (zbl (acons (zlc (iseq (zv 4)) (gn 6) tyes (zop oEq (zv 6) (ztup (acons (zop oMul (zop oIx (zv 5) (zc (.int 0))) (zop oFdv (zop oIx (zv 6) (zc (.int 1))) (zop oIx (zv 5) (zc (.int 1))))) (acons (zop oMul (zop oFdv (zop oIx (zv 6) (zc (.int 1))) (zop oIx (zv 5) (zc (.int 1)))) (zop oIx (zv 5) (zc (.int 1)))) anil)))) [6]) anil) cAll))))))
def c_k80_one : ZSp := fun ds m Q _ => ∃ M r T B : Int, ds = [.int M, .int r, .int T, .int B] ∧ FitB M r T B ∧ M ≤ 3000 ∧ B ≤ 3000 ∧ Q (.bl true) m
theorem w_k80_one (ds : List D) (m : Mu) (Q : QE) (E : QX) (h : c_k80_one ds m Q E) : ds.length = 4 ∧ b_k80_one ⟨fun _ m => Q .non m, Q, fun x _ m => E x m⟩ (ds.map some ++ List.replicate (7 - ds.length) none) m := by
  obtain ⟨M, r, T, B, rfl, hb, hM, hB, h⟩ := h
  refine ⟨rfl, ?_⟩
  have BG : B ≤ G60 := Int.le_trans hB (by decide +kernel)
  have T1 := hb.t1
  unfold b_k80_one
  walk_at "zs"
  refine ⟨M, r, T, B, rfl, hb, hM, hB, fun zs ha hl => ?_⟩
  rw [show B + 1 = B + 1 from rfl] at ha
  have ha1 : ∀ p ∈ zs, IsFit M r T B p.1 p.2 := fun p hp => by
    have := ha.1 p hp
    rwa [show B + 1 - 1 = B by omega] at this
  have ha2 : ∀ a b, IsFit M r T B a b → (a, b) ∈ zs := fun a b hf => ha.2.1 a b (by rwa [show B + 1 - 1 = B by omega])
  walk_at "zs"
  refine fitK_i hb BG fun o ho => ?_
  refine oEq_fl_nil (pl_prsF zs) (by decide) ?_
  cases zs with
  | nil =>
    walk_at "zs"
    cases o with
    | none =>
      unfold fitD
      walk_at "zs"
      exact h
    | some q => exact absurd (ha2 q.1 q.2 ho.1) (by simp)
  | cons z zs =>
    walk_at "zs"
    cases o with
    | none => exact absurd (ha1 z List.mem_cons_self) (ho z.1 z.2)
    | some q =>
      obtain ⟨a, b⟩ := q
      obtain ⟨hf, hall⟩ := ho
      have hb1 := hf.1
      -- the first one is it
      have ez : z = (a, b) := by
        obtain ⟨k, k1, ka, kb⟩ := hall z.1 z.2 (ha1 z List.mem_cons_self)
        have le : z.2 ≤ b := by
          rcases List.mem_cons.mp (ha2 a b hf) with e | hm
          · rw [← e]; exact Int.le_refl _
          · exact (List.pairwise_cons.mp ha.2.2).1 _ hm
        have k2 : k = 1 := by
          rcases (by omega : k = 1 ∨ 2 ≤ k) with h | h
          · exact h
          · have := Int.mul_le_mul_of_nonneg_right h (show 0 ≤ b by omega)
            omega
        subst k2
        rw [Int.one_mul] at ka kb
        exact Prod.ext ka kb
      subst ez
      rw [atI_head]
      refine ⟨pr (a, b), rfl, ⟨show (2 : Nat) ≤ 1000000 by decide, fun x hx => ?_⟩, ?_⟩
      · simp only [List.mem_cons, List.mem_nil_iff, or_false] at hx
        rcases hx with rfl | rfl <;> exact trivial
      unfold fitD
      walk_at "zs"
      rw [comp_e]
      walk_at "zs"
      have el : (pr (a, b) :: zs.map pr) = ((a, b) :: zs).map pr := rfl
      rw [el]
      generalize hzs : (a, b) :: zs = ws at *
      refine comp_mapE (fun i => .bl true) ((List.replicate ws.length true).map .bl) (by show (zs.map pr).length + 1 ≤ _; rw [List.length_map, sizeLine_eq]; rw [← hzs] at hl; simp at hl; omega) trivial (fun i hi K1 K2 hK => ?_) (by
        show (List.range ((zs.map pr).length + 1)).map _ = _
        rw [List.length_map, ← hzs, List.length_cons, rng_bl]) ?_
      · have hi' : i < ws.length := by
          have : i < (zs.map pr).length + 1 := hi
          rw [List.length_map] at this
          rw [← hzs, List.length_cons]
          exact this
        show gn 6 ((ws.map pr).getD i .non) _ _ _ _
        rw [getD_prs hi']
        obtain ⟨f1, f2, f3, f4, f5⟩ := ha1 _ (getD_mem (d := (0, 0)) hi')
        obtain ⟨k, k1, ka, kb⟩ := hall _ _ (ha1 _ (getD_mem (d := (0, 0)) hi'))
        generalize ws.getD i (0, 0) = x at *
        have ek : x.2 / b = k := by rw [kb]; exact Int.mul_ediv_cancel _ (by omega)
        have kB : k ≤ 3000 := by
          have := Int.mul_le_mul_of_nonneg_left hb1 (show 0 ≤ k by omega)
          omega
        walk_at "zs"
        have hf2 := hf.2.1
        have hf3 := hf.2.2.1
        have hf4 := hf.2.2.2.1
        have hsm : b < 2 ^ 8000 := lt_two (j := 20) (by
          have : (2 : Int) ^ 20 = 1048576 := by decide
          omega) (by decide)
        rw [ek]
        refine ⟨small_fdv (by omega) hsm, mul_ok (a := 20) (b := 20) (by omega) (by omega) (by decide), small_fdv (by omega) hsm, mul_ok (a := 20) (b := 20) (by omega) (by omega) (by decide), ?_⟩
        rw [show a * k = x.1 by rw [ka, Int.mul_comm], ← kb]
        refine ⟨(pl_tup [x.1, x.2]).shaped (by decide), (pl_tup [x.1, x.2]).shaped (by decide), ?_⟩
        rw [show PyData.eqv (D.tup [.int x.1, .int x.2]).toP (D.tup [.int x.1, .int x.2]).toP = true from (pl_tup [x.1, x.2]).eq]
        exact hK
      · refine cAll_bls ?_
        rw [all_rep]
        exact h
def b_k80_limits : ZTS :=
  (sseq (sset (zop oFdv (zop oSub (zv 1) (zc (.int 1))) (zc (.int 2))) 2)
    (sseq (sset (zcall c_take (acons (zv 0) (acons (zop oAdd (zv 2) (zc (.int 1))) anil))) 3)
    (sseq (sset (zop oAdd (zc (.int 1)) (zcall c_take (acons (zv 0) (acons (zbl (acons (zc (.int 60)) (acons (zv 1) anil)) cMin) anil)))) 4)
    (sseq (sif (tvl (zop oGt (zv 3) (zc (.int 0)))) (sset (zop oAdd (zc (.int 1)) (zcall c_take (acons (zv 0) (acons (zbl (acons (zc (.int 1)) (acons (zbl (acons (zc (.int 60)) (acons (zop oFdv (zv 2) (zv 3)) anil)) cMin) anil)) cMax) anil)))) 4) snil)
    (sret (ztup (acons (zv 3) (acons (zv 4) anil))))))))
def c_k80_limits : ZSp := fun ds m Q _ => ∃ (p : Addr) (M : Int) (K : Nat), ds = [.ref p, .int M] ∧ Pool m p K ∧ K ≤ 100000 ∧ 2 ≤ M ∧ M ≤ 3000 ∧ ∀ (T B : Int) m', 0 ≤ T → T ≤ M → 1 ≤ B → B ≤ 60 → PM m p (K + 3) m' → Q (.tup [.int T, .int B]) m'
theorem w_k80_limits (ds : List D) (m : Mu) (Q : QE) (E : QX) (h : c_k80_limits ds m Q E) : ds.length = 2 ∧ b_k80_limits ⟨fun _ m => Q .non m, Q, fun x _ m => E x m⟩ (ds.map some ++ List.replicate (5 - ds.length) none) m := by
  obtain ⟨p, M, K, rfl, hp, hK, m0, m1, h⟩ := h
  refine ⟨rfl, ?_⟩
  unfold b_k80_limits
  walk_at "zs"
  refine ⟨small_fdv (by decide) (by decide +kernel), p, _, _, rfl, hp, by omega, show 0 < (M - 1) / 2 + 1 by omega, small_lt (by omega), fun T m2 T0 T1 hm2 => ?_⟩
  walk_at "zs"
  generalize hz : (if M < 60 then M else 60) = z
  refine ⟨p, z, _, rfl, hm2.pool, by omega, by omega, small_lt (by omega), fun b m3 b0 b1 hm3 => ?_⟩
  walk_at "zs"
  by_cases hT : 0 < T
  · rw [if_pos hT]
    have hsm : T < 2 ^ 8000 := million_le (by omega)
    have q0 : 0 ≤ (M - 1) / 2 / T := Int.ediv_nonneg (by omega) (by omega)
    generalize hw : (M - 1) / 2 / T = w at q0
    generalize hy : (if w < 60 then w else 60) = y
    generalize hv : (if y > 1 then y else 1) = v
    refine ⟨small_fdv hT hsm, p, v, _, rfl, hm3.pool, by omega, by omega, small_lt (by omega), fun c m4 c0 c1 hm4 => ?_⟩
    walk_at "zs"
    exact h _ _ _ T0 (by omega) (by omega) (by omega) (((hm2.trans hm3).trans hm4).more (by omega))
  · rw [if_neg hT]
    exact h _ _ _ T0 (by omega) (by omega) (by omega) ((hm2.trans hm3).more (by omega))
def t_k80_law2 : ZTS :=
  (sseq (sset (zop oAdd (zc (.int 100)) (zcall c_take (acons (zv 2) (acons (zc (.int 2000)) anil)))) 8)
    (sseq (sasg (zcall c_k80_limits (acons (zv 2) (acons (zv 8) anil))) (gtup 2 (gcons (gn 5) (gcons (gn 6) gnil))))
    (sfor (irng1 (acons (zc (.int 40)) anil)) (gn 4) (sif (tand (tvl (zop oLt (zop oMul (zop oMul (zc (.int 2)) (zv 5)) (zv 6)) (zv 8))) (tnot (tvl (zcall c_k80_one (acons (zv 8) (acons (zcall c_take (acons (zv 2) (acons (zv 8) anil))) (acons (zv 5) (acons (zv 6) anil)))))))) (sret (zc (.bl false))) snil))))
def b_k80_law : ZTS :=
  (sseq (sfor (irng1 (acons (zbl (acons (zc (.int 1)) (acons (zbl (acons (zc (.int 3)) (acons (zbl (acons (zv 0) anil) cLen) anil)) cMin) anil)) cMax) anil)) (gn 1) (sseq (sset (zcall c_pool (acons (zcall c_cell (acons (zv 0) (acons (zv 1) anil))) anil)) 2)
    (sseq (sset (zop oAdd (zc (.int 2)) (zcall c_take (acons (zv 2) (acons (zc (.int 80)) anil)))) 3)
    (sseq (sfor (irng1 (acons (zc (.int 3)) anil)) (gn 4) (sseq (sasg (zcall c_k80_limits (acons (zv 2) (acons (zv 3) anil))) (gtup 2 (gcons (gn 5) (gcons (gn 6) gnil))))
    (sif (tvl (zop oLt (zop oMul (zop oMul (zc (.int 2)) (zv 5)) (zv 6)) (zv 3))) (sif (tnot (tvl (zbl (acons (zlc (irng1 (acons (zv 3) anil)) (gn 7) tyes (zcall c_k80_one (acons (zv 3) (acons (zv 7) (acons (zv 5) (acons (zv 6) anil))))) [7]) anil) cAll))) (sret (zc (.bl false))) snil) snil)))
    t_k80_law2))))
    (sret (zc (.bl true))))
theorem tail_k80_law2 {Dz : ZEnds} {m : Mu} {q : Addr} {a b e3 e4 e5 e6 e7 e8 : Option D} {K : Nat} (hq : Pool m q K) (hK : K ≤ 1000)
    (h : ∀ e4 e5 e6 e7 e8 m', Dz.nx [a, b, some (.ref q), e3, e4, e5, e6, e7, e8] m') : t_k80_law2 Dz [a, b, some (.ref q), e3, e4, e5, e6, e7, e8] m := by
  unfold t_k80_law2
  walk_at "zs"
  refine ⟨q, 2000, _, rfl, hq, by omega, by decide, small_lt (by decide), fun g m2 g0 g1 hm2 => ?_⟩
  walk_at "zs"
  refine ⟨q, 100 + g, _, rfl, hm2.pool, by omega, by omega, by omega, fun T B m3 T0 T1 B0 B1 hm3 => ?_⟩
  walk_at "zs"
  refine for_i ?_
  walk_at "zs"
  refine ⟨⟨by decide, by decide⟩, ?_⟩
  obtain ⟨I, hI⟩ : ∃ I : Nat → ZEnv → Mu → Prop, I = fun i ρ m' => ∃ u, i ≤ 40 ∧ Pool m' q (K + 1 + 3 + 2 * i) ∧ ρ = [a, b, some (.ref q), e3, u, some (.int T), some (.int B), e7, some (.int (100 + g))] := ⟨_, rfl⟩
  refine loop_i I (by rw [hI]; exact ⟨_, by decide, hm3.pool, rfl⟩) fun i ρ m' hi => ?_
  rw [hI] at hi
  obtain ⟨u, hi, hp', rfl⟩ := hi
  refine ⟨trivial, fun hlt => ?_, fun e => h _ _ _ _ _ _⟩
  have hlt' : i < 40 := hlt
  walk_at "zs"
  have tb : (2 * T * B).natAbs < 2 ^ 40 := by
    have e : (2 : Nat) ^ 40 = 1099511627776 := by decide
    have k1 := Int.mul_le_mul (show 2 * T ≤ 6000 by omega) B1 (by omega) (by omega)
    have k2 := Int.mul_nonneg (show 0 ≤ 2 * T by omega) (show 0 ≤ B by omega)
    omega
  refine ⟨mul_ok (a := 20) (b := 20) (by omega) (by omega) (by decide), mul_ok (a := 20) (b := 20) (by omega) (by omega) (by decide), ?_⟩
  by_cases hlt2 : 2 * T * B < 100 + g
  · rw [if_pos hlt2]
    refine ⟨q, 100 + g, _, rfl, hp', by omega, by omega, small_lt (by omega), fun r m4 r0 r1 hm4 => ?_⟩
    refine ⟨100 + g, r, T, B, rfl, ⟨by omega, Int.le_trans (show 100 + g ≤ 3000 by omega) (by decide +kernel), r0, r1, T0, B0, hlt2⟩, by omega, by omega, ?_⟩
    walk_at "zs"
    rw [hI]
    exact ⟨_, by omega, hm4.pool.more (by omega), rfl⟩
  · rw [if_neg hlt2, hI]
    exact ⟨_, by omega, hp'.more (by omega), rfl⟩
def c_k80_law : ZSp := fun ds m Q _ => ∃ ns : List Int, ds = [.fl (ns.map .int)] ∧ ns.length ≤ 63 ∧ ∀ m, Q (.bl true) m
theorem w_k80_law (ds : List D) (m : Mu) (Q : QE) (E : QX) (h : c_k80_law ds m Q E) : ds.length = 1 ∧ b_k80_law ⟨fun _ m => Q .non m, Q, fun x _ m => E x m⟩ (ds.map some ++ List.replicate (9 - ds.length) none) m := by
  obtain ⟨ns, rfl, hn, h⟩ := h
  refine ⟨rfl, ?_⟩
  unfold b_k80_law
  walk_at "zs"
  refine for_i ?_
  walk_at "zs"
  rw [List.length_map]
  generalize hN : (if (if (ns.length : Int) < 3 then (ns.length : Int) else 3) > 1 then (if (ns.length : Int) < 3 then (ns.length : Int) else 3) else 1) = N
  have hN0 : 0 ≤ N ∧ N ≤ 6 := by omega
  refine ⟨by omega, ?_⟩
  obtain ⟨I, hI⟩ : ∃ I : Nat → ZEnv → Mu → Prop, I = fun i ρ m' => ∃ a b c d e f g j, i ≤ 6 ∧ ρ = [some (.fl (ns.map .int)), a, b, c, d, e, f, g, j] := ⟨_, rfl⟩
  refine loop_i I (by rw [hI]; exact ⟨_, _, _, _, _, _, _, _, by decide, rfl⟩) fun i ρ m0 hi => ?_
  rw [hI] at hi
  obtain ⟨a, b, c, d, e, f, g, j_, hi, rfl⟩ := hi
  refine ⟨trivial, fun hlt => ?_, fun _ => ?_⟩
  · have hlt' : i < N.toNat := hlt
    walk_at "zs"
    refine ⟨ns, i, rfl, by omega, hn, fun i0 => ⟨i0, rfl, fun p np m1 hp hx1 => ?_⟩⟩
    walk_at "zs"
    refine ⟨p, 80, _, rfl, hp, by decide, by decide, small_lt (by decide), fun u m2 u0 u1 hm2 => ?_⟩
    walk_at "zs"
    refine for_i ?_
    walk_at "zs"
    refine ⟨⟨by decide, by decide⟩, ?_⟩
    have p4 := hm2.pool
    generalize hMM : 2 + u = M
    obtain ⟨J, hJ⟩ : ∃ J : Nat → ZEnv → Mu → Prop, J = fun j ρ m' => ∃ x y z w, j ≤ 3 ∧ Pool m' p (0 + 1 + 5 * j) ∧ ρ = [some (.fl (ns.map .int)), some (.int (i : Int)), some (.ref p), some (.int M), x, y, z, w, j_] := ⟨_, rfl⟩
    refine loop_i J (by rw [hJ]; exact ⟨_, _, _, _, by decide, p4, rfl⟩) fun j ρ m5 hj => ?_
    rw [hJ] at hj
    obtain ⟨x, y, z, w, jl, hp5, rfl⟩ := hj
    refine ⟨trivial, fun hlt2 => ?_, fun _ => ?_⟩
    · have hlt2' : j < 3 := hlt2
      walk_at "zs"
      refine ⟨p, M, _, rfl, hp5, by omega, by omega, by omega, fun T B m6 T0 T1 B0 B1 hm6 => ?_⟩
      walk_at "zs"
      refine ⟨mul_ok (a := 20) (b := 20) (by omega) (by omega) (by decide), mul_ok (a := 20) (b := 20) (by omega) (by omega) (by decide), ?_⟩
      by_cases hlt3 : 2 * T * B < M
      · rw [if_pos hlt3, comp_e]
        walk_at "zs"
        refine ⟨⟨by omega, by omega⟩, ?_⟩
        refine comp_mapE (fun i => .bl true) ((List.replicate M.toNat true).map .bl) (by show M.toNat ≤ _; rw [sizeLine_eq]; omega) trivial (fun k hk K1 K2 hK => ?_) (by show (List.range M.toNat).map _ = _; rw [rng_bl]) ?_
        · have hk' : k < M.toNat := hk
          walk_at "zs"
          exact ⟨M, k, T, B, rfl, ⟨by omega, Int.le_trans (show M ≤ 3000 by omega) (by decide +kernel), by omega, by omega, T0, B0, hlt3⟩, by omega, by omega, hK⟩
        · refine cAll_bls ?_
          rw [all_rep]
          walk_at "zs"
          rw [hJ]
          exact ⟨_, _, _, _, by omega, hm6.pool.more (by omega), rfl⟩
      · rw [if_neg hlt3, hJ]
        exact ⟨_, _, _, _, by omega, hm6.pool.more (by omega), rfl⟩
    · refine tail_k80_law2 hp5 (by omega) fun e4 e5 e6 e7 e8 m' => ?_
      rw [hI]
      exact ⟨_, _, _, _, _, _, _, _, by omega, rfl⟩
  · walk_at "zs"
    exact h _
end Zed
end
set_option maxHeartbeats 0
namespace Zed
open PySem PySem.Spec PyProof.Rows L2
def topS (i : Nat) : Stmt := PySem.Challenge.pw_restarith_k80_whole_fits_gone_through.main.body.getD i (.Pass ⟨0, 0, 0, 0⟩)
abbrev s_is_whole : Stmt := topS 6
theorem sc_is_whole : FnScope ["thing"] ["thing"] (defScope s_is_whole) := ⟨rfl, rfl, rfl, by decide +kernel, rfl, by decide +kernel, by decide +kernel⟩
theorem d_is_whole {P : Program} {w : World} {K : PySem.W.Frag} {mg : Str → Option Value} {base : Heap} {f : Addr} {fd : FuncData} {k : Nat} (F : FunD K "is_whole" "is_whole" (defArgs s_is_whole) (defBody s_is_whole) (defScope s_is_whole) [] [] f fd) (B : Blt mg)  : FnOk P w K mg base (L2.CX P w) (k + 1) f fd ["thing"] (SpOf K c_is_whole) :=
  def_okD F sc_is_whole w_is_whole (fun cdv A outer s H E hr => by
    have nd := sc_is_whole.nd
    have hp : PassesOwn (model P w) (A.deeper (envOfC "is_whole" (defScope s_is_whole) s.heap.objs.size f cdv)) (envOfC "is_whole" (defScope s_is_whole) s.heap.objs.size f cdv) (cxOf (L2.CX P w) P w K mg base ["thing"] "is_whole" (defScope s_is_whole) f cdv A outer s H E).xe := passes_of rfl
    have tk : Takes (cxOf (L2.CX P w) P w K mg base ["thing"] "is_whole" (defScope s_is_whole) f cdv A outer s H E) (fun c d _ H => E c d H) := takes_of rfl rfl rfl rfl
    exact (r_last (r_ret (r_and (i_int B (r_v 0)) (r_one (r_not (i_bool B (r_v 0))))))))
abbrev s_rows_of : Stmt := topS 8
theorem sc_rows_of : FnScope ["one", "other", "found", "ahead", "last", "many", "a", "b"] ["one", "other"] (defScope s_rows_of) := ⟨rfl, rfl, rfl, by decide +kernel, rfl, by decide +kernel, by decide +kernel⟩
theorem d_rows_of {P : Program} {w : World} {K : PySem.W.Frag} {mg : Str → Option Value} {base : Heap} {f : Addr} {fd : FuncData} {k : Nat} (F : FunD K "rows_of" "rows_of" (defArgs s_rows_of) (defBody s_rows_of) (defScope s_rows_of) [] [] f fd) (B : Blt mg)  : FnOk P w K mg base (L2.CX P w) (k + 1) f fd ["one", "other"] (SpOf K c_rows_ofX) :=
  def_okD F sc_rows_of w_rows_of_X (fun cdv A outer s H E hr => by
    have nd := sc_rows_of.nd
    have hp : PassesOwn (model P w) (A.deeper (envOfC "rows_of" (defScope s_rows_of) s.heap.objs.size f cdv)) (envOfC "rows_of" (defScope s_rows_of) s.heap.objs.size f cdv) (cxOf (L2.CX P w) P w K mg base ["one", "other", "found", "ahead", "last", "many", "a", "b"] "rows_of" (defScope s_rows_of) f cdv A outer s H E).xe := passes_of rfl
    have tk : Takes (cxOf (L2.CX P w) P w K mg base ["one", "other", "found", "ahead", "last", "many", "a", "b"] "rows_of" (defScope s_rows_of) f cdv A outer s H E) (fun c d _ H => E c d H) := takes_of rfl rfl rfl rfl
    exact (r_cons (r_set 2 nd (r_lst (r_acons (r_tup (r_acons (r_v 0) (r_acons r_int (r_acons r_int r_anil)))) (r_acons (r_tup (r_acons (r_v 1) (r_acons r_int (r_acons r_int r_anil)))) r_anil)))) (r_cons (r_while hp (r_tcmp o_gt (r_ix (r_ix (r_v 2) (r_un o_neg r_int)) r_int) r_int) (r_cons (r_sasg (vs := [3, 4]) (r_sl (r_v 2) (r_osome (r_un o_neg r_int)) r_onone) (r_gtupA rfl (r_gcons (r_gn 3 nd) (r_gcons (r_gn 4 nd) r_gnil)))) (r_cons (r_set 5 nd (r_op o_fdv (r_ix (r_v 3) r_int) (r_ix (r_v 4) r_int))) (r_last (r_sexp (r_app (r_v 2) (r_acons (r_bty c_tuple B.tuple bv_tuple (r_acons (r_lc rfl nd [("a", 6), ("b", 7)] (by exact (show blkC ["one", "other", "found", "ahead", "last", "many", "a", "b"] (defScope s_rows_of) _ [("a", 6), ("b", 7)] = true from by decide +kernel)) (r_izip B.zip (r_acons (r_v 3) (r_acons (r_v 4) r_anil))) (fun _ _ _ _ _ => (r_gtup rfl (r_gcons (r_gn 6 nd) (r_gcons (r_gn 7 nd) r_gnil)))) (fun _ _ _ _ _ => r_tyes) (fun _ _ _ _ _ => (r_op o_sub (r_v 6) (r_op o_mul (r_v 5) (r_v 7))))) r_anil)) r_anil))))))) (r_last (r_ret (r_seal (r_v 2)))))))
abbrev s_check_modulus : Stmt := topS 11
theorem sc_check_modulus : FnScope ["thing"] ["thing"] (defScope s_check_modulus) := ⟨rfl, rfl, rfl, by decide +kernel, rfl, by decide +kernel, by decide +kernel⟩
theorem d_check_modulus {P : Program} {w : World} {K : PySem.W.Frag} {mg : Str → Option Value} {base : Heap} {f : Addr} {fd : FuncData} {k : Nat} (F : FunD K "check_modulus" "check_modulus" (defArgs s_check_modulus) (defBody s_check_modulus) (defScope s_check_modulus) [] [] f fd) (B : Blt mg) (g_is_whole : GDef P w K mg base k "is_whole" c_is_whole) (v_MOST_MODULUS : GVal K mg "MOST_MODULUS" (.int 1000000000000000000000000000000000000000000000000000000000000)) : FnOk P w K mg base (L2.CX P w) (k + 1) f fd ["thing"] (SpOf K c_check_modulus) :=
  def_okD F sc_check_modulus w_check_modulus (fun cdv A outer s H E hr => by
    have nd := sc_check_modulus.nd
    have hp : PassesOwn (model P w) (A.deeper (envOfC "check_modulus" (defScope s_check_modulus) s.heap.objs.size f cdv)) (envOfC "check_modulus" (defScope s_check_modulus) s.heap.objs.size f cdv) (cxOf (L2.CX P w) P w K mg base ["thing"] "check_modulus" (defScope s_check_modulus) f cdv A outer s H E).xe := passes_of rfl
    have tk : Takes (cxOf (L2.CX P w) P w K mg base ["thing"] "check_modulus" (defScope s_check_modulus) f cdv A outer s H E) (fun c d _ H => E c d H) := takes_of rfl rfl rfl rfl
    exact (r_last (r_sif (PW.pt (r_tor (r_tnot (r_tvl (r_call g_is_whole hr tk (r_acons (r_v 0) r_anil)))) (r_or1 (r_tnot (r_tchn o_le o_le r_int (r_v 0) (r_g v_MOST_MODULUS)))))) r_never r_nil)))
abbrev s_check_fit : Stmt := topS 13
theorem sc_check_fit : FnScope ["modulus", "rest", "top", "bottom"] ["modulus", "rest", "top", "bottom"] (defScope s_check_fit) := ⟨rfl, rfl, rfl, by decide +kernel, rfl, by decide +kernel, by decide +kernel⟩
theorem d_check_fit {P : Program} {w : World} {K : PySem.W.Frag} {mg : Str → Option Value} {base : Heap} {f : Addr} {fd : FuncData} {k : Nat} (F : FunD K "check_fit" "check_fit" (defArgs s_check_fit) (defBody s_check_fit) (defScope s_check_fit) [] [] f fd) (B : Blt mg) (g_is_whole : GDef P w K mg base k "is_whole" c_is_whole) (g_check_modulus : GDef P w K mg base k "check_modulus" c_check_modulus) : FnOk P w K mg base (L2.CX P w) (k + 1) f fd ["modulus", "rest", "top", "bottom"] (SpOf K c_check_fit) :=
  def_okD F sc_check_fit w_check_fit (fun cdv A outer s H E hr => by
    have nd := sc_check_fit.nd
    have hp : PassesOwn (model P w) (A.deeper (envOfC "check_fit" (defScope s_check_fit) s.heap.objs.size f cdv)) (envOfC "check_fit" (defScope s_check_fit) s.heap.objs.size f cdv) (cxOf (L2.CX P w) P w K mg base ["modulus", "rest", "top", "bottom"] "check_fit" (defScope s_check_fit) f cdv A outer s H E).xe := passes_of rfl
    have tk : Takes (cxOf (L2.CX P w) P w K mg base ["modulus", "rest", "top", "bottom"] "check_fit" (defScope s_check_fit) f cdv A outer s H E) (fun c d _ H => E c d H) := takes_of rfl rfl rfl rfl
    exact (r_cons (r_sexp (r_call g_check_modulus hr tk (r_acons (r_v 0) r_anil))) (r_cons (r_sif (PW.pt (r_tor (r_tnot (r_tvl (r_call g_is_whole hr tk (r_acons (r_v 1) r_anil)))) (r_or1 (r_tnot (r_tchn o_le o_lt r_int (r_v 1) (r_v 0)))))) r_never r_nil) (r_last (r_sif (PW.pt (r_tor (r_tnot (r_tvl (r_call g_is_whole hr tk (r_acons (r_v 2) r_anil)))) (r_tor (r_tnot (r_tvl (r_call g_is_whole hr tk (r_acons (r_v 3) r_anil)))) (r_tor (r_tcmp o_lt (r_v 2) r_int) (r_tor (r_tcmp o_lt (r_v 3) r_int) (r_or1 (r_tcmp o_ge (r_op o_mul (r_op o_mul r_int (r_v 2)) (r_v 3)) (r_v 0)))))))) r_never r_nil)))))
abbrev s_rows_around : Stmt := topS 14
theorem sc_rows_around : FnScope ["modulus", "rest", "top", "rows", "number", "x", "y", "place"] ["modulus", "rest", "top"] (defScope s_rows_around) := ⟨rfl, rfl, rfl, by decide +kernel, rfl, by decide +kernel, by decide +kernel⟩
theorem d_rows_around {P : Program} {w : World} {K : PySem.W.Frag} {mg : Str → Option Value} {base : Heap} {f : Addr} {fd : FuncData} {k : Nat} (F : FunD K "rows_around" "rows_around" (defArgs s_rows_around) (defBody s_rows_around) (defScope s_rows_around) [] [] f fd) (B : Blt mg) (g_rows_of : GDef P w K mg base k "rows_of" c_rows_ofX) : FnOk P w K mg base (L2.CX P w) (k + 1) f fd ["modulus", "rest", "top"] (SpOf K c_rows_around) :=
  def_okD F sc_rows_around w_rows_around (fun cdv A outer s H E hr => by
    have nd := sc_rows_around.nd
    have hp : PassesOwn (model P w) (A.deeper (envOfC "rows_around" (defScope s_rows_around) s.heap.objs.size f cdv)) (envOfC "rows_around" (defScope s_rows_around) s.heap.objs.size f cdv) (cxOf (L2.CX P w) P w K mg base ["modulus", "rest", "top", "rows", "number", "x", "y", "place"] "rows_around" (defScope s_rows_around) f cdv A outer s H E).xe := passes_of rfl
    have tk : Takes (cxOf (L2.CX P w) P w K mg base ["modulus", "rest", "top", "rows", "number", "x", "y", "place"] "rows_around" (defScope s_rows_around) f cdv A outer s H E) (fun c d _ H => E c d H) := takes_of rfl rfl rfl rfl
    exact (r_cons (r_setLc 3 rfl nd [("number", 4), ("x", 5), ("y", 6)] (by exact (show blkC ["modulus", "rest", "top", "rows", "number", "x", "y", "place"] (defScope s_rows_around) _ [("number", 4), ("x", 5), ("y", 6)] = true from by decide +kernel)) (r_iseq (r_call g_rows_of hr tk (r_acons (r_v 0) (r_acons (r_v 1) r_anil)))) (fun _ _ _ _ _ => (r_gtup rfl (r_gcons (r_gn 4 nd) (r_gcons (r_gn 5 nd) (r_gcons (r_gn 6 nd) r_gnil))))) (fun _ _ _ _ _ => r_tyes) (fun _ _ _ _ _ => (r_tup (r_acons (r_v 4) (r_acons (r_v 6) r_anil)))) (by decide +kernel)) (r_cons (r_set 7 nd (r_idx (r_lc rfl nd [("number", 4), ("y", 6)] (by exact (show blkC ["modulus", "rest", "top", "rows", "number", "x", "y", "place"] (defScope s_rows_around) _ [("number", 4), ("y", 6)] = true from by decide +kernel)) (r_iseq (r_v 3)) (fun _ _ _ _ _ => (r_gtup rfl (r_gcons (r_gn 4 nd) (r_gcons (r_gn 6 nd) r_gnil)))) (fun _ _ _ _ _ => r_tyes) (fun _ _ _ _ _ => (r_cmp o_le (r_v 4) (r_v 2)))) (r_acons r_bl r_anil))) (r_last (r_ret (r_tup (r_acons (r_ix (r_v 3) (r_op o_sub (r_v 7) r_int)) (r_acons (r_ix (r_v 3) (r_v 7)) r_anil))))))))
abbrev s_upright : Stmt := topS 15
theorem sc_upright : FnScope ["number", "many"] ["number", "many"] (defScope s_upright) := ⟨rfl, rfl, rfl, by decide +kernel, rfl, by decide +kernel, by decide +kernel⟩
theorem d_upright {P : Program} {w : World} {K : PySem.W.Frag} {mg : Str → Option Value} {base : Heap} {f : Addr} {fd : FuncData} {k : Nat} (F : FunD K "upright" "upright" (defArgs s_upright) (defBody s_upright) (defScope s_upright) [] [] f fd) (B : Blt mg)  : FnOk P w K mg base (L2.CX P w) (k + 1) f fd ["number", "many"] (SpOf K c_upright) :=
  def_okD F sc_upright w_upright (fun cdv A outer s H E hr => by
    have nd := sc_upright.nd
    have hp : PassesOwn (model P w) (A.deeper (envOfC "upright" (defScope s_upright) s.heap.objs.size f cdv)) (envOfC "upright" (defScope s_upright) s.heap.objs.size f cdv) (cxOf (L2.CX P w) P w K mg base ["number", "many"] "upright" (defScope s_upright) f cdv A outer s H E).xe := passes_of rfl
    have tk : Takes (cxOf (L2.CX P w) P w K mg base ["number", "many"] "upright" (defScope s_upright) f cdv A outer s H E) (fun c d _ H => E c d H) := takes_of rfl rfl rfl rfl
    exact (r_cons (r_sif (r_tcmp o_lt (r_v 1) r_int) (r_last (r_ret (r_tup (r_acons (r_op o_sub r_int (r_v 0)) (r_acons (r_op o_sub r_int (r_v 1)) r_anil))))) r_nil) (r_last (r_ret (r_tup (r_acons (r_v 0) (r_acons (r_v 1) r_anil)))))))
abbrev s_fit : Stmt := topS 16
theorem sc_fit : FnScope ["modulus", "rest", "top", "bottom", "above", "within", "found"] ["modulus", "rest", "top", "bottom"] (defScope s_fit) := ⟨rfl, rfl, rfl, by decide +kernel, rfl, by decide +kernel, by decide +kernel⟩
theorem d_fit {P : Program} {w : World} {K : PySem.W.Frag} {mg : Str → Option Value} {base : Heap} {f : Addr} {fd : FuncData} {k : Nat} (F : FunD K "fit" "fit" (defArgs s_fit) (defBody s_fit) (defScope s_fit) [] [] f fd) (B : Blt mg) (g_upright : GDef P w K mg base k "upright" c_upright) (g_rows_around : GDef P w K mg base k "rows_around" c_rows_around) (g_check_fit : GDef P w K mg base k "check_fit" c_check_fit) : FnOk P w K mg base (L2.CX P w) (k + 1) f fd ["modulus", "rest", "top", "bottom"] (SpOf K c_fit) :=
  def_okD F sc_fit w_fit (fun cdv A outer s H E hr => by
    have nd := sc_fit.nd
    have hp : PassesOwn (model P w) (A.deeper (envOfC "fit" (defScope s_fit) s.heap.objs.size f cdv)) (envOfC "fit" (defScope s_fit) s.heap.objs.size f cdv) (cxOf (L2.CX P w) P w K mg base ["modulus", "rest", "top", "bottom", "above", "within", "found"] "fit" (defScope s_fit) f cdv A outer s H E).xe := passes_of rfl
    have tk : Takes (cxOf (L2.CX P w) P w K mg base ["modulus", "rest", "top", "bottom", "above", "within", "found"] "fit" (defScope s_fit) f cdv A outer s H E) (fun c d _ H => E c d H) := takes_of rfl rfl rfl rfl
    exact (r_cons (r_sexp (r_call g_check_fit hr tk (r_acons (r_v 0) (r_acons (r_v 1) (r_acons (r_v 2) (r_acons (r_v 3) r_anil)))))) (r_cons (r_sasg (vs := [4, 5]) (r_call g_rows_around hr tk (r_acons (r_v 0) (r_acons (r_v 1) (r_acons (r_v 2) r_anil)))) (r_gtup rfl (r_gcons (r_gn 4 nd) (r_gcons (r_gn 5 nd) r_gnil)))) (r_cons (r_set 6 nd (r_call g_upright hr tk (r_acons (r_ix (r_v 5) r_int) (r_acons (r_ix (r_v 5) r_int) r_anil)))) (r_last (r_ret (r_if (r_tcmp o_le (r_ix (r_v 6) r_int) (r_v 3)) (r_v 6) r_non)))))))
abbrev s__law_cell : Stmt := topS 18
theorem sc__law_cell : FnScope ["_law_script", "_law_k", "_law_state", "_law_cell_here"] ["_law_script", "_law_k"] (defScope s__law_cell) := ⟨rfl, rfl, rfl, by decide +kernel, rfl, by decide +kernel, by decide +kernel⟩
theorem d__law_cell {P : Program} {w : World} {K : PySem.W.Frag} {mg : Str → Option Value} {base : Heap} {f : Addr} {fd : FuncData} {k : Nat} (F : FunD K "_law_cell" "_law_cell" (defArgs s__law_cell) (defBody s__law_cell) (defScope s__law_cell) [] [] f fd) (B : Blt mg)  : FnOk P w K mg base (L2.CX P w) (k + 1) f fd ["_law_script", "_law_k"] (SpOf K c_cell) :=
  def_okD F sc__law_cell w_cell (fun cdv A outer s H E hr => by
    have nd := sc__law_cell.nd
    have hp : PassesOwn (model P w) (A.deeper (envOfC "_law_cell" (defScope s__law_cell) s.heap.objs.size f cdv)) (envOfC "_law_cell" (defScope s__law_cell) s.heap.objs.size f cdv) (cxOf (L2.CX P w) P w K mg base ["_law_script", "_law_k", "_law_state", "_law_cell_here"] "_law_cell" (defScope s__law_cell) f cdv A outer s H E).xe := passes_of rfl
    have tk : Takes (cxOf (L2.CX P w) P w K mg base ["_law_script", "_law_k", "_law_state", "_law_cell_here"] "_law_cell" (defScope s__law_cell) f cdv A outer s H E) (fun c d _ H => E c d H) := takes_of rfl rfl rfl rfl
    exact (r_cons (r_sif (r_tcmp o_lt (r_v 1) (r_blt c_len B.len bv_len (r_acons (r_v 0) r_anil))) (r_last (r_ret (r_ix (r_v 0) (r_v 1)))) r_nil) (r_cons (r_set 2 nd (r_op o_mod (r_op o_mul r_int (r_op o_add (r_op o_add (r_op o_mul (r_v 1) (r_v 1)) (r_op o_mul r_int (r_v 1))) r_int)) r_int)) (r_cons (r_for (vs := [3]) hp rfl (r_iseq (r_sl (r_v 0) r_onone (r_osome r_int))) (r_gn 3 nd) (r_last (r_set 2 nd (r_op o_mod (r_op o_add (r_op o_mul (r_v 2) r_int) (r_v 3)) r_int)))) (r_last (r_ret (r_v 2)))))))
abbrev s__law_pool : Stmt := topS 19
theorem sc__law_pool : FnScope ["_law_cell_here", "_law_digits"] ["_law_cell_here"] (defScope s__law_pool) := ⟨rfl, rfl, rfl, by decide +kernel, rfl, by decide +kernel, by decide +kernel⟩
theorem d__law_pool {P : Program} {w : World} {K : PySem.W.Frag} {mg : Str → Option Value} {base : Heap} {f : Addr} {fd : FuncData} {k : Nat} (F : FunD K "_law_pool" "_law_pool" (defArgs s__law_pool) (defBody s__law_pool) (defScope s__law_pool) [] [] f fd) (B : Blt mg)  : FnOk P w K mg base (L2.CX P w) (k + 1) f fd ["_law_cell_here"] (SpOf K c_pool) :=
  def_okD F sc__law_pool w_pool (fun cdv A outer s H E hr => by
    have nd := sc__law_pool.nd
    have hp : PassesOwn (model P w) (A.deeper (envOfC "_law_pool" (defScope s__law_pool) s.heap.objs.size f cdv)) (envOfC "_law_pool" (defScope s__law_pool) s.heap.objs.size f cdv) (cxOf (L2.CX P w) P w K mg base ["_law_cell_here", "_law_digits"] "_law_pool" (defScope s__law_pool) f cdv A outer s H E).xe := passes_of rfl
    have tk : Takes (cxOf (L2.CX P w) P w K mg base ["_law_cell_here", "_law_digits"] "_law_pool" (defScope s__law_pool) f cdv A outer s H E) (fun c d _ H => E c d H) := takes_of rfl rfl rfl rfl
    exact (r_cons (r_set 1 nd r_int) (r_cons (r_sif (PW.pt (r_tor (r_tcmp o_lt (r_v 0) r_int) (r_or1 (r_tcmp o_ge (r_v 0) (r_op o_pow r_int r_int))))) (r_last (r_set 1 nd (r_blt c_abs B.abs bv_abs (r_acons (r_v 0) r_anil)))) r_nil) (r_last (r_ret (r_lst (r_acons (r_op o_mod (r_v 0) r_int) (r_acons (r_v 1) (r_acons r_int r_anil)))))))))
abbrev s__law_take : Stmt := topS 20
theorem sc__law_take : FnScope ["_law_pool_here", "_law_many", "_law_digit", "_law_found", "_law_size", "_law_blend"] ["_law_pool_here", "_law_many"] (defScope s__law_take) := ⟨rfl, rfl, rfl, by decide +kernel, rfl, by decide +kernel, by decide +kernel⟩
theorem d__law_take {P : Program} {w : World} {K : PySem.W.Frag} {mg : Str → Option Value} {base : Heap} {f : Addr} {fd : FuncData} {k : Nat} (F : FunD K "_law_take" "_law_take" (defArgs s__law_take) (defBody s__law_take) (defScope s__law_take) [] [] f fd) (B : Blt mg)  : FnOk P w K mg base (L2.CX P w) (k + 1) f fd ["_law_pool_here", "_law_many"] (SpOf K c_take) :=
  def_okD F sc__law_take w_take (fun cdv A outer s H E hr => by
    have nd := sc__law_take.nd
    have hp : PassesOwn (model P w) (A.deeper (envOfC "_law_take" (defScope s__law_take) s.heap.objs.size f cdv)) (envOfC "_law_take" (defScope s__law_take) s.heap.objs.size f cdv) (cxOf (L2.CX P w) P w K mg base ["_law_pool_here", "_law_many", "_law_digit", "_law_found", "_law_size", "_law_blend"] "_law_take" (defScope s__law_take) f cdv A outer s H E).xe := passes_of rfl
    have tk : Takes (cxOf (L2.CX P w) P w K mg base ["_law_pool_here", "_law_many", "_law_digit", "_law_found", "_law_size", "_law_blend"] "_law_take" (defScope s__law_take) f cdv A outer s H E) (fun c d _ H => E c d H) := takes_of rfl rfl rfl rfl
    exact (r_cons (r_sasg (vs := []) (r_op o_add (r_ix (r_v 0) r_int) r_int) (r_gsub (r_v 0) r_int)) (r_cons (r_sif (r_tcmp o_gt (r_ix (r_v 0) r_int) r_int) (r_cons (r_sasg (vs := [2]) (r_blt c_divmod B.divmod bv_divmod (r_acons (r_ix (r_v 0) r_int) (r_acons (r_v 1) r_anil))) (r_gtup rfl (r_gcons (r_gsub (r_v 0) r_int) (r_gcons (r_gn 2 nd) r_gnil)))) (r_last (r_ret (r_v 2)))) r_nil) (r_cons (r_sasg (vs := [3, 4]) (r_tup (r_acons r_int (r_acons r_int r_anil))) (r_gtup rfl (r_gcons (r_gn 3 nd) (r_gcons (r_gn 4 nd) r_gnil)))) (r_cons (r_while hp (r_tcmp o_lt (r_v 4) (r_op o_mul (r_v 1) r_int)) (r_cons (r_set 5 nd (r_op o_mul (r_ix (r_v 0) r_int) (r_op o_add (r_op o_mod (r_ix (r_v 0) r_int) r_int) r_int))) (r_cons (r_sasg (vs := []) (r_op o_mod (r_op o_add (r_op o_add (r_v 5) (r_op o_mul r_int (r_ix (r_v 0) r_int))) (r_op o_mod (r_v 4) r_int)) r_int) (r_gsub (r_v 0) r_int)) (r_last (r_par 3 4 rfl nd (r_acons (r_op o_add (r_op o_mul (r_v 3) (r_op o_pow r_int r_int)) (r_op o_mod (r_op o_fdv (r_ix (r_v 0) r_int) r_int) (r_op o_pow r_int r_int))) (r_acons (r_op o_mul (r_v 4) (r_op o_pow r_int r_int)) r_anil))))))) (r_last (r_ret (r_op o_mod (r_v 3) (r_v 1)))))))))
abbrev s__law_is : Stmt := topS 21
theorem sc__law_is : FnScope ["_law_found", "_law_due", "_law_k"] ["_law_found", "_law_due"] (defScope s__law_is) := ⟨rfl, rfl, rfl, by decide +kernel, rfl, by decide +kernel, by decide +kernel⟩
theorem d__law_is {P : Program} {w : World} {K : PySem.W.Frag} {mg : Str → Option Value} {base : Heap} {f : Addr} {fd : FuncData} {k : Nat} {n : Nat} (F : FunD K "_law_is" "_law_is" (defArgs s__law_is) (defBody s__law_is) (defScope s__law_is) [] [] f fd) (B : Blt mg) (g__law_is : GDef P w K mg base k "_law_is" (c_lis n)) : FnOk P w K mg base (L2.CX P w) (k + 1) f fd ["_law_found", "_law_due"] (SpOf K (c_lis (n + 1))) :=
  def_okD F sc__law_is w_lis (fun cdv A outer s H E hr => by
    have nd := sc__law_is.nd
    have hp : PassesOwn (model P w) (A.deeper (envOfC "_law_is" (defScope s__law_is) s.heap.objs.size f cdv)) (envOfC "_law_is" (defScope s__law_is) s.heap.objs.size f cdv) (cxOf (L2.CX P w) P w K mg base ["_law_found", "_law_due", "_law_k"] "_law_is" (defScope s__law_is) f cdv A outer s H E).xe := passes_of rfl
    have tk : Takes (cxOf (L2.CX P w) P w K mg base ["_law_found", "_law_due", "_law_k"] "_law_is" (defScope s__law_is) f cdv A outer s H E) (fun c d _ H => E c d H) := takes_of rfl rfl rfl rfl
    exact (r_cons (r_sif (r_tvl (i_tuple B (r_v 1))) (r_cons (r_sif (PW.pt (r_tor (r_tnot (r_tvl (i_tuple B (r_v 0)))) (r_or1 (r_tcmp (o_ne hr.units) (r_blt c_len B.len bv_len (r_acons (r_v 0) r_anil)) (r_blt c_len B.len bv_len (r_acons (r_v 1) r_anil)))))) (r_last (r_ret r_bl)) r_nil) (r_last (r_ret (r_blt (c_all rfl) B.all bv_all (r_acons (r_lc rfl nd [("_law_k", 2)] (by exact (show blkC ["_law_found", "_law_due", "_law_k"] (defScope s__law_is) _ [("_law_k", 2)] = true from by decide +kernel)) (r_irng1 B.range (r_acons (r_blt c_len B.len bv_len (r_acons (r_v 1) r_anil)) r_anil)) (fun _ _ _ _ _ => (r_gn 2 nd)) (fun _ _ _ _ _ => r_tyes) (fun _ _ _ _ _ => (r_call g__law_is hr takes0 (r_acons (r_ix (r_v 0) (r_v 2)) (r_acons (r_ix (r_v 1) (r_v 2)) r_anil))))) r_anil))))) r_nil) (r_cons (r_sif (PW.pt (r_tor (r_tvl (i_bool B (r_v 1))) (r_or1 (r_tvl (i_bool B (r_v 0)))))) (r_last (r_ret (r_and (i_bool B (r_v 1)) (r_and (i_bool B (r_v 0)) (r_one (r_cmp (o_eq hr.units) (r_v 0) (r_v 1))))))) r_nil) (r_cons (r_sif (r_tvl (i_int B (r_v 1))) (r_last (r_ret (r_and (i_int B (r_v 0)) (r_one (r_cmp (o_eq hr.units) (r_v 0) (r_v 1)))))) r_nil) (r_last (r_ret (r_or (r_and (r_cmp o_is (r_v 1) r_non) (r_one (r_cmp o_is (r_v 0) r_non))) (r_one (r_and (i_str B (r_v 1)) (r_and (i_str B (r_v 0)) (r_one (r_cmp (o_eq hr.units) (r_v 0) (r_v 1)))))))))))))
abbrev s__law_all : Stmt := topS 22
theorem sc__law_all : FnScope ["_law_modulus", "_law_rest", "_law_high", "_law_low", "_law_found", "_law_under", "_law_over", "_law_one"] ["_law_modulus", "_law_rest", "_law_high", "_law_low"] (defScope s__law_all) := ⟨rfl, rfl, rfl, by decide +kernel, rfl, by decide +kernel, by decide +kernel⟩
theorem d__law_all {P : Program} {w : World} {K : PySem.W.Frag} {mg : Str → Option Value} {base : Heap} {f : Addr} {fd : FuncData} {k : Nat} (F : FunD K "_law_all" "_law_all" (defArgs s__law_all) (defBody s__law_all) (defScope s__law_all) [] [] f fd) (B : Blt mg)  : FnOk P w K mg base (L2.CX P w) (k + 1) f fd ["_law_modulus", "_law_rest", "_law_high", "_law_low"] (SpOf K c_k80_all) :=
  def_okD F sc__law_all w_k80_all (fun cdv A outer s H E hr => by
    have nd := sc__law_all.nd
    have hp : PassesOwn (model P w) (A.deeper (envOfC "_law_all" (defScope s__law_all) s.heap.objs.size f cdv)) (envOfC "_law_all" (defScope s__law_all) s.heap.objs.size f cdv) (cxOf (L2.CX P w) P w K mg base ["_law_modulus", "_law_rest", "_law_high", "_law_low", "_law_found", "_law_under", "_law_over", "_law_one"] "_law_all" (defScope s__law_all) f cdv A outer s H E).xe := passes_of rfl
    have tk : Takes (cxOf (L2.CX P w) P w K mg base ["_law_modulus", "_law_rest", "_law_high", "_law_low", "_law_found", "_law_under", "_law_over", "_law_one"] "_law_all" (defScope s__law_all) f cdv A outer s H E) (fun c d _ H => E c d H) := takes_of rfl rfl rfl rfl
    exact (r_cons (r_set 4 nd (r_lst r_anil)) (r_cons (r_for (vs := [5]) hp rfl (r_irng2 B.range (r_acons r_int (r_acons (r_op o_add (r_v 3) r_int) r_anil))) (r_gn 5 nd) (r_cons (r_set 6 nd (r_op o_mod (r_op o_mul (r_v 1) (r_v 5)) (r_v 0))) (r_last (r_for (vs := [7]) hp rfl (r_iseq (r_fl (r_acons (r_v 6) (r_acons (r_op o_sub (r_v 6) (r_v 0)) r_anil)))) (r_gn 7 nd) (r_last (r_sif (r_tchn o_le o_le (r_op o_sub r_int (r_v 2)) (r_v 7) (r_v 2)) (r_last (r_sexp (r_app (r_v 4) (r_acons (r_tup (r_acons (r_v 7) (r_acons (r_v 5) r_anil))) r_anil)))) r_nil)))))) (r_last (r_ret (r_seal (r_v 4)))))))
abbrev s__law_one_right : Stmt := topS 23
theorem sc__law_one_right : FnScope ["_law_modulus", "_law_rest", "_law_high", "_law_low", "_law_every", "_law_found", "_law_one"] ["_law_modulus", "_law_rest", "_law_high", "_law_low"] (defScope s__law_one_right) := ⟨rfl, rfl, rfl, by decide +kernel, rfl, by decide +kernel, by decide +kernel⟩
theorem d__law_one_right {P : Program} {w : World} {K : PySem.W.Frag} {mg : Str → Option Value} {base : Heap} {f : Addr} {fd : FuncData} {k : Nat} (F : FunD K "_law_one_right" "_law_one_right" (defArgs s__law_one_right) (defBody s__law_one_right) (defScope s__law_one_right) [] [] f fd) (B : Blt mg) (g__law_is : GDef P w K mg base k "_law_is" (c_lis 3)) (k_fit_top_bottom : GDefK P w K mg base k "fit" 2 ["top", "bottom"] c_fitK) (g__law_all : GDef P w K mg base k "_law_all" c_k80_all) : FnOk P w K mg base (L2.CX P w) (k + 1) f fd ["_law_modulus", "_law_rest", "_law_high", "_law_low"] (SpOf K c_k80_one) :=
  def_okD F sc__law_one_right w_k80_one (fun cdv A outer s H E hr => by
    have nd := sc__law_one_right.nd
    have hp : PassesOwn (model P w) (A.deeper (envOfC "_law_one_right" (defScope s__law_one_right) s.heap.objs.size f cdv)) (envOfC "_law_one_right" (defScope s__law_one_right) s.heap.objs.size f cdv) (cxOf (L2.CX P w) P w K mg base ["_law_modulus", "_law_rest", "_law_high", "_law_low", "_law_every", "_law_found", "_law_one"] "_law_one_right" (defScope s__law_one_right) f cdv A outer s H E).xe := passes_of rfl
    have tk : Takes (cxOf (L2.CX P w) P w K mg base ["_law_modulus", "_law_rest", "_law_high", "_law_low", "_law_every", "_law_found", "_law_one"] "_law_one_right" (defScope s__law_one_right) f cdv A outer s H E) (fun c d _ H => E c d H) := takes_of rfl rfl rfl rfl
    exact (r_cons (r_set 4 nd (r_call g__law_all hr tk (r_acons (r_v 0) (r_acons (r_v 1) (r_acons (r_v 2) (r_acons (r_v 3) r_anil)))))) (r_cons (r_set 5 nd (r_callK k_fit_top_bottom hr tk (r_acons (r_v 0) (r_acons (r_v 1) r_anil)) (r_kcons (r_v 2) (r_kcons (r_v 3) r_knil)))) (r_cons (r_sif (r_tcmp (o_eq hr.units) (r_v 4) (r_fl r_anil)) (r_last (r_ret (r_cmp o_is (r_v 5) r_non))) r_nil) (r_cons (r_sif (r_tnot (r_tvl (r_call g__law_is hr tk (r_acons (r_v 5) (r_acons (r_ix (r_v 4) r_int) r_anil))))) (r_last (r_ret r_bl)) r_nil) (r_last (r_ret (r_blt (c_all rfl) B.all bv_all (r_acons (r_lc rfl nd [("_law_one", 6)] (by exact (show blkC ["_law_modulus", "_law_rest", "_law_high", "_law_low", "_law_every", "_law_found", "_law_one"] (defScope s__law_one_right) _ [("_law_one", 6)] = true from by decide +kernel)) (r_iseq (r_v 4)) (fun _ _ _ _ _ => (r_gn 6 nd)) (fun _ _ _ _ _ => r_tyes) (fun _ _ _ _ _ => (r_cmp (o_eq hr.units) (r_v 6) (r_tup (r_acons (r_op o_mul (r_ix (r_v 5) r_int) (r_op o_fdv (r_ix (r_v 6) r_int) (r_ix (r_v 5) r_int))) (r_acons (r_op o_mul (r_op o_fdv (r_ix (r_v 6) r_int) (r_ix (r_v 5) r_int)) (r_ix (r_v 5) r_int)) r_anil)))))) r_anil)))))))))
abbrev s__law_limits : Stmt := topS 24
theorem sc__law_limits : FnScope ["_law_pool_here", "_law_modulus", "_law_room", "_law_high", "_law_low"] ["_law_pool_here", "_law_modulus"] (defScope s__law_limits) := ⟨rfl, rfl, rfl, by decide +kernel, rfl, by decide +kernel, by decide +kernel⟩
theorem d__law_limits {P : Program} {w : World} {K : PySem.W.Frag} {mg : Str → Option Value} {base : Heap} {f : Addr} {fd : FuncData} {k : Nat} (F : FunD K "_law_limits" "_law_limits" (defArgs s__law_limits) (defBody s__law_limits) (defScope s__law_limits) [] [] f fd) (B : Blt mg) (g__law_take : GDef P w K mg base k "_law_take" c_take) : FnOk P w K mg base (L2.CX P w) (k + 1) f fd ["_law_pool_here", "_law_modulus"] (SpOf K c_k80_limits) :=
  def_okD F sc__law_limits w_k80_limits (fun cdv A outer s H E hr => by
    have nd := sc__law_limits.nd
    have hp : PassesOwn (model P w) (A.deeper (envOfC "_law_limits" (defScope s__law_limits) s.heap.objs.size f cdv)) (envOfC "_law_limits" (defScope s__law_limits) s.heap.objs.size f cdv) (cxOf (L2.CX P w) P w K mg base ["_law_pool_here", "_law_modulus", "_law_room", "_law_high", "_law_low"] "_law_limits" (defScope s__law_limits) f cdv A outer s H E).xe := passes_of rfl
    have tk : Takes (cxOf (L2.CX P w) P w K mg base ["_law_pool_here", "_law_modulus", "_law_room", "_law_high", "_law_low"] "_law_limits" (defScope s__law_limits) f cdv A outer s H E) (fun c d _ H => E c d H) := takes_of rfl rfl rfl rfl
    exact (r_cons (r_set 2 nd (r_op o_fdv (r_op o_sub (r_v 1) r_int) r_int)) (r_cons (r_set 3 nd (r_call g__law_take hr tk (r_acons (r_v 0) (r_acons (r_op o_add (r_v 2) r_int) r_anil)))) (r_cons (r_set 4 nd (r_op o_add r_int (r_call g__law_take hr tk (r_acons (r_v 0) (r_acons (r_blt (c_min rfl) B.min bv_min (r_acons r_int (r_acons (r_v 1) r_anil))) r_anil))))) (r_cons (r_sif (r_tcmp o_gt (r_v 3) r_int) (r_last (r_set 4 nd (r_op o_add r_int (r_call g__law_take hr tk (r_acons (r_v 0) (r_acons (r_blt (c_max rfl) B.max bv_max (r_acons r_int (r_acons (r_blt (c_min rfl) B.min bv_min (r_acons r_int (r_acons (r_op o_fdv (r_v 2) (r_v 3)) r_anil))) r_anil))) r_anil)))))) r_nil) (r_last (r_ret (r_tup (r_acons (r_v 3) (r_acons (r_v 4) r_anil))))))))))
abbrev s_law : Stmt := topS 25
theorem sc_law : FnScope ["_law_script", "_law_k", "_law_pool_here", "_law_modulus", "_law_turn", "_law_high", "_law_low", "_law_rest", "_law_great"] ["_law_script"] (defScope s_law) := ⟨rfl, rfl, rfl, by decide +kernel, rfl, by decide +kernel, by decide +kernel⟩
theorem d_law {P : Program} {w : World} {K : PySem.W.Frag} {mg : Str → Option Value} {base : Heap} {f : Addr} {fd : FuncData} {k : Nat} (F : FunD K "law" "law" (defArgs s_law) (defBody s_law) (defScope s_law) [] [] f fd) (B : Blt mg) (g__law_take : GDef P w K mg base k "_law_take" c_take) (g__law_one_right : GDef P w K mg base k "_law_one_right" c_k80_one) (g__law_limits : GDef P w K mg base k "_law_limits" c_k80_limits) (g__law_cell : GDef P w K mg base k "_law_cell" c_cell) (g__law_pool : GDef P w K mg base k "_law_pool" c_pool) : FnOk P w K mg base (L2.CX P w) (k + 1) f fd ["_law_script"] (SpOf K c_k80_law) :=
  def_okD F sc_law w_k80_law (fun cdv A outer s H E hr => by
    have nd := sc_law.nd
    have hp : PassesOwn (model P w) (A.deeper (envOfC "law" (defScope s_law) s.heap.objs.size f cdv)) (envOfC "law" (defScope s_law) s.heap.objs.size f cdv) (cxOf (L2.CX P w) P w K mg base ["_law_script", "_law_k", "_law_pool_here", "_law_modulus", "_law_turn", "_law_high", "_law_low", "_law_rest", "_law_great"] "law" (defScope s_law) f cdv A outer s H E).xe := passes_of rfl
    have tk : Takes (cxOf (L2.CX P w) P w K mg base ["_law_script", "_law_k", "_law_pool_here", "_law_modulus", "_law_turn", "_law_high", "_law_low", "_law_rest", "_law_great"] "law" (defScope s_law) f cdv A outer s H E) (fun c d _ H => E c d H) := takes_of rfl rfl rfl rfl
    exact (r_cons (r_for (vs := [1]) hp rfl (r_irng1 B.range (r_acons (r_blt (c_max rfl) B.max bv_max (r_acons r_int (r_acons (r_blt (c_min rfl) B.min bv_min (r_acons r_int (r_acons (r_blt c_len B.len bv_len (r_acons (r_v 0) r_anil)) r_anil))) r_anil))) r_anil)) (r_gn 1 nd) (r_cons (r_set 2 nd (r_call g__law_pool hr tk (r_acons (r_call g__law_cell hr tk (r_acons (r_v 0) (r_acons (r_v 1) r_anil))) r_anil))) (r_cons (r_set 3 nd (r_op o_add r_int (r_call g__law_take hr tk (r_acons (r_v 2) (r_acons r_int r_anil))))) (r_cons (r_for (vs := [4]) hp rfl (r_irng1 B.range (r_acons r_int r_anil)) (r_gn 4 nd) (r_cons (r_sasg (vs := [5, 6]) (r_call g__law_limits hr tk (r_acons (r_v 2) (r_acons (r_v 3) r_anil))) (r_gtup rfl (r_gcons (r_gn 5 nd) (r_gcons (r_gn 6 nd) r_gnil)))) (r_last (r_sif (r_tcmp o_lt (r_op o_mul (r_op o_mul r_int (r_v 5)) (r_v 6)) (r_v 3)) (r_last (r_sif (r_tnot (r_tvl (r_blt (c_all rfl) B.all bv_all (r_acons (r_lc rfl nd [("_law_rest", 7)] (by exact (show blkC ["_law_script", "_law_k", "_law_pool_here", "_law_modulus", "_law_turn", "_law_high", "_law_low", "_law_rest", "_law_great"] (defScope s_law) _ [("_law_rest", 7)] = true from by decide +kernel)) (r_irng1 B.range (r_acons (r_v 3) r_anil)) (fun _ _ _ _ _ => (r_gn 7 nd)) (fun _ _ _ _ _ => r_tyes) (fun _ _ _ _ _ => (r_call g__law_one_right hr takes0 (r_acons (r_v 3) (r_acons (r_v 7) (r_acons (r_v 5) (r_acons (r_v 6) r_anil))))))) r_anil)))) (r_last (r_ret r_bl)) r_nil)) r_nil)))) (r_cons (r_set 8 nd (r_op o_add r_int (r_call g__law_take hr tk (r_acons (r_v 2) (r_acons r_int r_anil))))) (r_cons (r_sasg (vs := [5, 6]) (r_call g__law_limits hr tk (r_acons (r_v 2) (r_acons (r_v 8) r_anil))) (r_gtup rfl (r_gcons (r_gn 5 nd) (r_gcons (r_gn 6 nd) r_gnil)))) (r_last (r_for (vs := [4]) hp rfl (r_irng1 B.range (r_acons r_int r_anil)) (r_gn 4 nd) (r_last (r_sif (PW.pt (r_tand (r_tcmp o_lt (r_op o_mul (r_op o_mul r_int (r_v 5)) (r_v 6)) (r_v 8)) (r_and1 (r_tnot (r_tvl (r_call g__law_one_right hr tk (r_acons (r_v 8) (r_acons (r_call g__law_take hr tk (r_acons (r_v 2) (r_acons (r_v 8) r_anil))) (r_acons (r_v 5) (r_acons (r_v 6) r_anil)))))))))) (r_last (r_ret r_bl)) r_nil)))))))))) (r_last (r_ret r_bl))))

def dd_is_whole : He.DefD := ⟨("is_whole", none), "is_whole", "is_whole", defArgs s_is_whole, defBody s_is_whole, defScope s_is_whole, [], []⟩
def dd_rows_of : He.DefD := ⟨("rows_of", none), "rows_of", "rows_of", defArgs s_rows_of, defBody s_rows_of, defScope s_rows_of, [], []⟩
def dd_upright : He.DefD := ⟨("upright", none), "upright", "upright", defArgs s_upright, defBody s_upright, defScope s_upright, [], []⟩
def dd__law_cell : He.DefD := ⟨("_law_cell", none), "_law_cell", "_law_cell", defArgs s__law_cell, defBody s__law_cell, defScope s__law_cell, [], []⟩
def dd__law_pool : He.DefD := ⟨("_law_pool", none), "_law_pool", "_law_pool", defArgs s__law_pool, defBody s__law_pool, defScope s__law_pool, [], []⟩
def dd__law_take : He.DefD := ⟨("_law_take", none), "_law_take", "_law_take", defArgs s__law_take, defBody s__law_take, defScope s__law_take, [], []⟩
def dd__law_all : He.DefD := ⟨("_law_all", none), "_law_all", "_law_all", defArgs s__law_all, defBody s__law_all, defScope s__law_all, [], []⟩
def dd_check_modulus : He.DefD := ⟨("check_modulus", none), "check_modulus", "check_modulus", defArgs s_check_modulus, defBody s_check_modulus, defScope s_check_modulus, [], []⟩
def dd_rows_around : He.DefD := ⟨("rows_around", none), "rows_around", "rows_around", defArgs s_rows_around, defBody s_rows_around, defScope s_rows_around, [], []⟩
def dd__law_limits : He.DefD := ⟨("_law_limits", none), "_law_limits", "_law_limits", defArgs s__law_limits, defBody s__law_limits, defScope s__law_limits, [], []⟩
def dd_check_fit : He.DefD := ⟨("check_fit", none), "check_fit", "check_fit", defArgs s_check_fit, defBody s_check_fit, defScope s_check_fit, [], []⟩
def dd__law_is : He.DefD := ⟨("_law_is", none), "_law_is", "_law_is", defArgs s__law_is, defBody s__law_is, defScope s__law_is, [], []⟩
def dd_fit : He.DefD := ⟨("fit", none), "fit", "fit", defArgs s_fit, defBody s_fit, defScope s_fit, [], []⟩
def dd__law_one_right : He.DefD := ⟨("_law_one_right", none), "_law_one_right", "_law_one_right", defArgs s__law_one_right, defBody s__law_one_right, defScope s__law_one_right, [], []⟩
def dd_law : He.DefD := ⟨("law", none), "law", "law", defArgs s_law, defBody s_law, defScope s_law, [], []⟩
def fn_ : List He.DefD := [dd_is_whole, dd_rows_of, dd_upright, dd__law_cell, dd__law_pool, dd__law_take, dd__law_all, dd_check_modulus, dd_rows_around, dd__law_limits, dd_check_fit, dd__law_is, dd_fit, dd__law_one_right, dd_law]
def fa_ : List He.Fa := [.glo "is_whole", .glo "rows_of", .glo "upright", .glo "_law_cell", .glo "_law_pool", .glo "_law_take", .glo "_law_all", .glo "check_modulus", .glo "rows_around", .glo "_law_limits", .glo "check_fit", .glo "_law_is", .glo "fit", .glo "_law_one_right", .glo "law", .free "abs", .free "all", .free "any", .free "bool", .free "dict", .free "divmod", .free "enumerate", .free "int", .free "isinstance", .free "len", .free "list", .free "max", .free "min", .free "range", .free "repr", .free "reversed", .free "sorted", .free "str", .free "sum", .free "tuple", .free "zip", .int "MOST_MODULUS" 1000000000000000000000000000000000000000000000000000000000000]
abbrev hk_ : PySem.W.Hook := He.hookD 4 fa_ fn_
def ob_ (s : PySem.W.SharedT) : He.AlD := He.obsDG 4 fa_ fn_ (HandSHeadRun.getT s)
theorem ob_eq_ (s : PySem.W.SharedT) : ob_ s = hk_.obs s.abs := He.obsDG_eq (HandSHeadRun.getT_eq s)
def loose_ : List Str := ([("RestError" : Str), ("NoNumber" : Str), ("NoModulus" : Str), ("NoBounds" : Str), ("is_whole" : Str), ("rows_of" : Str), ("MOST_MODULUS" : Str), ("check_modulus" : Str), ("check_fit" : Str), ("rows_around" : Str), ("upright" : Str), ("fit" : Str)] : List Str) ++ ([("_law_cell" : Str), ("_law_pool" : Str), ("_law_take" : Str), ("_law_is" : Str), ("_law_all" : Str), ("_law_one_right" : Str), ("_law_limits" : Str)] : List Str)
abbrev R_ : PySem.W.OpenRow := PySem.W.OpenLaw.row PySem.Challenge.rw_restarith_k80_whole_fits_gone_through
theorem run_ (w : World) : HandSHeadRun.RunEq R_ (PySem.W.view R_.prog [25]) hk_ ob_ 3000 loose_ w := by
  intro os
  kernel_rfl
theorem facts_ {P : Program} {w : World} {K : PySem.W.Frag} {h : Heap} {mg : Str → Option Value} {f : Addr} (X : K.In h) (G : h.Ns mainGlobals mg) (hfa : mg ("law" : Str) = some (.ref f)) (c : He.SaysD fa_ fn_ K) :
    ∃ fd : FuncData, (∀ (s : Shared) (v : Value), BindsTo s fd ⟨[v], []⟩ [("_law_script", v)]) ∧ ∀ base : Heap, K.In base → base.Ns mainGlobals mg → FnOk P w K mg base (L2.CX P w) 6 f fd ["_law_script"] (SpOf K c_k80_law) := by
  obtain ⟨t_MOST_MODULUS, v_MOST_MODULUS0⟩ := He.int_ok X G (c.fact 36 (f := .int "MOST_MODULUS" 1000000000000000000000000000000000000000000000000000000000000) rfl)
  have v_MOST_MODULUS : GVal K mg "MOST_MODULUS" (.int 1000000000000000000000000000000000000000000000000000000000000) := gval_int v_MOST_MODULUS0
  obtain ⟨fd_is_whole, F_is_whole0⟩ := c.def_ 0 (d := dd_is_whole) rfl
  have F_is_whole : FunD K "is_whole" "is_whole" (defArgs s_is_whole) (defBody s_is_whole) (defScope s_is_whole) [] [] (He.ga K "is_whole") fd_is_whole := F_is_whole0
  have o_is_whole := He.glo_ok X G (c.fact 0 (f := .glo "is_whole") rfl)
  obtain ⟨fd_rows_of, F_rows_of0⟩ := c.def_ 1 (d := dd_rows_of) rfl
  have F_rows_of : FunD K "rows_of" "rows_of" (defArgs s_rows_of) (defBody s_rows_of) (defScope s_rows_of) [] [] (He.ga K "rows_of") fd_rows_of := F_rows_of0
  have o_rows_of := He.glo_ok X G (c.fact 1 (f := .glo "rows_of") rfl)
  obtain ⟨fd_upright, F_upright0⟩ := c.def_ 2 (d := dd_upright) rfl
  have F_upright : FunD K "upright" "upright" (defArgs s_upright) (defBody s_upright) (defScope s_upright) [] [] (He.ga K "upright") fd_upright := F_upright0
  have o_upright := He.glo_ok X G (c.fact 2 (f := .glo "upright") rfl)
  obtain ⟨fd__law_cell, F__law_cell0⟩ := c.def_ 3 (d := dd__law_cell) rfl
  have F__law_cell : FunD K "_law_cell" "_law_cell" (defArgs s__law_cell) (defBody s__law_cell) (defScope s__law_cell) [] [] (He.ga K "_law_cell") fd__law_cell := F__law_cell0
  have o__law_cell := He.glo_ok X G (c.fact 3 (f := .glo "_law_cell") rfl)
  obtain ⟨fd__law_pool, F__law_pool0⟩ := c.def_ 4 (d := dd__law_pool) rfl
  have F__law_pool : FunD K "_law_pool" "_law_pool" (defArgs s__law_pool) (defBody s__law_pool) (defScope s__law_pool) [] [] (He.ga K "_law_pool") fd__law_pool := F__law_pool0
  have o__law_pool := He.glo_ok X G (c.fact 4 (f := .glo "_law_pool") rfl)
  obtain ⟨fd__law_take, F__law_take0⟩ := c.def_ 5 (d := dd__law_take) rfl
  have F__law_take : FunD K "_law_take" "_law_take" (defArgs s__law_take) (defBody s__law_take) (defScope s__law_take) [] [] (He.ga K "_law_take") fd__law_take := F__law_take0
  have o__law_take := He.glo_ok X G (c.fact 5 (f := .glo "_law_take") rfl)
  obtain ⟨fd__law_all, F__law_all0⟩ := c.def_ 6 (d := dd__law_all) rfl
  have F__law_all : FunD K "_law_all" "_law_all" (defArgs s__law_all) (defBody s__law_all) (defScope s__law_all) [] [] (He.ga K "_law_all") fd__law_all := F__law_all0
  have o__law_all := He.glo_ok X G (c.fact 6 (f := .glo "_law_all") rfl)
  obtain ⟨fd_check_modulus, F_check_modulus0⟩ := c.def_ 7 (d := dd_check_modulus) rfl
  have F_check_modulus : FunD K "check_modulus" "check_modulus" (defArgs s_check_modulus) (defBody s_check_modulus) (defScope s_check_modulus) [] [] (He.ga K "check_modulus") fd_check_modulus := F_check_modulus0
  have o_check_modulus := He.glo_ok X G (c.fact 7 (f := .glo "check_modulus") rfl)
  obtain ⟨fd_rows_around, F_rows_around0⟩ := c.def_ 8 (d := dd_rows_around) rfl
  have F_rows_around : FunD K "rows_around" "rows_around" (defArgs s_rows_around) (defBody s_rows_around) (defScope s_rows_around) [] [] (He.ga K "rows_around") fd_rows_around := F_rows_around0
  have o_rows_around := He.glo_ok X G (c.fact 8 (f := .glo "rows_around") rfl)
  obtain ⟨fd__law_limits, F__law_limits0⟩ := c.def_ 9 (d := dd__law_limits) rfl
  have F__law_limits : FunD K "_law_limits" "_law_limits" (defArgs s__law_limits) (defBody s__law_limits) (defScope s__law_limits) [] [] (He.ga K "_law_limits") fd__law_limits := F__law_limits0
  have o__law_limits := He.glo_ok X G (c.fact 9 (f := .glo "_law_limits") rfl)
  obtain ⟨fd_check_fit, F_check_fit0⟩ := c.def_ 10 (d := dd_check_fit) rfl
  have F_check_fit : FunD K "check_fit" "check_fit" (defArgs s_check_fit) (defBody s_check_fit) (defScope s_check_fit) [] [] (He.ga K "check_fit") fd_check_fit := F_check_fit0
  have o_check_fit := He.glo_ok X G (c.fact 10 (f := .glo "check_fit") rfl)
  obtain ⟨fd__law_is, F__law_is0⟩ := c.def_ 11 (d := dd__law_is) rfl
  have F__law_is : FunD K "_law_is" "_law_is" (defArgs s__law_is) (defBody s__law_is) (defScope s__law_is) [] [] (He.ga K "_law_is") fd__law_is := F__law_is0
  have o__law_is := He.glo_ok X G (c.fact 11 (f := .glo "_law_is") rfl)
  obtain ⟨fd_fit, F_fit0⟩ := c.def_ 12 (d := dd_fit) rfl
  have F_fit : FunD K "fit" "fit" (defArgs s_fit) (defBody s_fit) (defScope s_fit) [] [] (He.ga K "fit") fd_fit := F_fit0
  have o_fit := He.glo_ok X G (c.fact 12 (f := .glo "fit") rfl)
  obtain ⟨fd__law_one_right, F__law_one_right0⟩ := c.def_ 13 (d := dd__law_one_right) rfl
  have F__law_one_right : FunD K "_law_one_right" "_law_one_right" (defArgs s__law_one_right) (defBody s__law_one_right) (defScope s__law_one_right) [] [] (He.ga K "_law_one_right") fd__law_one_right := F__law_one_right0
  have o__law_one_right := He.glo_ok X G (c.fact 13 (f := .glo "_law_one_right") rfl)
  obtain ⟨fd_law, F_law0⟩ := c.def_ 14 (d := dd_law) rfl
  have F_law : FunD K "law" "law" (defArgs s_law) (defBody s_law) (defScope s_law) [] [] (He.ga K "law") fd_law := F_law0
  have o_law := He.glo_ok X G (c.fact 14 (f := .glo "law") rfl)
  have B : Blt mg := ⟨He.free_ok X G (c.fact 15 (f := .free "abs") rfl), He.free_ok X G (c.fact 16 (f := .free "all") rfl), He.free_ok X G (c.fact 17 (f := .free "any") rfl), He.free_ok X G (c.fact 18 (f := .free "bool") rfl), He.free_ok X G (c.fact 19 (f := .free "dict") rfl), He.free_ok X G (c.fact 20 (f := .free "divmod") rfl), He.free_ok X G (c.fact 21 (f := .free "enumerate") rfl), He.free_ok X G (c.fact 22 (f := .free "int") rfl), He.free_ok X G (c.fact 23 (f := .free "isinstance") rfl), He.free_ok X G (c.fact 24 (f := .free "len") rfl), He.free_ok X G (c.fact 25 (f := .free "list") rfl), He.free_ok X G (c.fact 26 (f := .free "max") rfl), He.free_ok X G (c.fact 27 (f := .free "min") rfl), He.free_ok X G (c.fact 28 (f := .free "range") rfl), He.free_ok X G (c.fact 29 (f := .free "repr") rfl), He.free_ok X G (c.fact 30 (f := .free "reversed") rfl), He.free_ok X G (c.fact 31 (f := .free "sorted") rfl), He.free_ok X G (c.fact 32 (f := .free "str") rfl), He.free_ok X G (c.fact 33 (f := .free "sum") rfl), He.free_ok X G (c.fact 34 (f := .free "tuple") rfl), He.free_ok X G (c.fact 35 (f := .free "zip") rfl)⟩
  have e := hfa.symm.trans o_law
  cases e
  have hb := FunD.bindsA (ps := ["_law_script"]) F_law fun _ _ _ _ _ _ us hl => match us, hl with | [_], _ => rfl
  refine ⟨fd_law, fun s v => hb s [v] rfl, fun base _ _ => ?_⟩
  have ok_is_whole := d_is_whole (P := P) (w := w) (base := base) (k := 0) F_is_whole B 
  have g_is_whole : GDef P w K mg base 1 "is_whole" c_is_whole := g_mk F_is_whole o_is_whole ok_is_whole fun _ _ _ _ _ _ us hl => match us, hl with | [_], _ => rfl
  have ok_rows_of := d_rows_of (P := P) (w := w) (base := base) (k := 0) F_rows_of B 
  have g_rows_of : GDef P w K mg base 1 "rows_of" c_rows_ofX := g_mk F_rows_of o_rows_of ok_rows_of fun _ _ _ _ _ _ us hl => match us, hl with | [_, _], _ => rfl
  have ok_upright := d_upright (P := P) (w := w) (base := base) (k := 0) F_upright B 
  have g_upright : GDef P w K mg base 1 "upright" c_upright := g_mk F_upright o_upright ok_upright fun _ _ _ _ _ _ us hl => match us, hl with | [_, _], _ => rfl
  have ok__law_cell := d__law_cell (P := P) (w := w) (base := base) (k := 0) F__law_cell B 
  have g__law_cell : GDef P w K mg base 1 "_law_cell" c_cell := g_mk F__law_cell o__law_cell ok__law_cell fun _ _ _ _ _ _ us hl => match us, hl with | [_, _], _ => rfl
  have ok__law_pool := d__law_pool (P := P) (w := w) (base := base) (k := 0) F__law_pool B 
  have g__law_pool : GDef P w K mg base 1 "_law_pool" c_pool := g_mk F__law_pool o__law_pool ok__law_pool fun _ _ _ _ _ _ us hl => match us, hl with | [_], _ => rfl
  have ok__law_take := d__law_take (P := P) (w := w) (base := base) (k := 0) F__law_take B 
  have g__law_take : GDef P w K mg base 1 "_law_take" c_take := g_mk F__law_take o__law_take ok__law_take fun _ _ _ _ _ _ us hl => match us, hl with | [_, _], _ => rfl
  have ok__law_all := d__law_all (P := P) (w := w) (base := base) (k := 0) F__law_all B 
  have g__law_all : GDef P w K mg base 1 "_law_all" c_k80_all := g_mk F__law_all o__law_all ok__law_all fun _ _ _ _ _ _ us hl => match us, hl with | [_, _, _, _], _ => rfl
  have ok_check_modulus := d_check_modulus (P := P) (w := w) (base := base) (k := 1) F_check_modulus B (g_is_whole.mono (by decide)) v_MOST_MODULUS
  have g_check_modulus : GDef P w K mg base 2 "check_modulus" c_check_modulus := g_mk F_check_modulus o_check_modulus ok_check_modulus fun _ _ _ _ _ _ us hl => match us, hl with | [_], _ => rfl
  have ok_rows_around := d_rows_around (P := P) (w := w) (base := base) (k := 1) F_rows_around B (g_rows_of.mono (by decide))
  have g_rows_around : GDef P w K mg base 2 "rows_around" c_rows_around := g_mk F_rows_around o_rows_around ok_rows_around fun _ _ _ _ _ _ us hl => match us, hl with | [_, _, _], _ => rfl
  have ok__law_limits := d__law_limits (P := P) (w := w) (base := base) (k := 1) F__law_limits B (g__law_take.mono (by decide))
  have g__law_limits : GDef P w K mg base 2 "_law_limits" c_k80_limits := g_mk F__law_limits o__law_limits ok__law_limits fun _ _ _ _ _ _ us hl => match us, hl with | [_, _], _ => rfl
  have ok_check_fit := d_check_fit (P := P) (w := w) (base := base) (k := 2) F_check_fit B (g_is_whole.mono (by decide)) (g_check_modulus.mono (by decide))
  have g_check_fit : GDef P w K mg base 3 "check_fit" c_check_fit := g_mk F_check_fit o_check_fit ok_check_fit fun _ _ _ _ _ _ us hl => match us, hl with | [_, _, _, _], _ => rfl
  have r__law_is : ∀ n : Nat, GDef P w K mg base (0 + n) "_law_is" (c_lis n) := by
    intro n
    induction n with
    | zero => exact g_mk F__law_is o__law_is (fn_never (ps := ["_law_found", "_law_due"]) fun vs H Q E h => by
        obtain ⟨ds, F, m, Pi, Qz, Ez, hz, hr, hc, _⟩ := h
        exact lis_zero hc) fun _ _ _ _ _ _ us hl => match us, hl with | [_, _], _ => rfl
    | succ n ih => exact g_mk F__law_is o__law_is (d__law_is (P := P) (w := w) (base := base) (k := 0 + n) F__law_is B ih) fun _ _ _ _ _ _ us hl => match us, hl with | [_, _], _ => rfl
  have g__law_is : GDef P w K mg base 3 "_law_is" (c_lis 3) := r__law_is 3
  have ok_fit := d_fit (P := P) (w := w) (base := base) (k := 3) F_fit B (g_upright.mono (by decide)) (g_rows_around.mono (by decide)) (g_check_fit.mono (by decide))
  have k_fit_top_bottom : GDefK P w K mg base 4 "fit" 2 ["top", "bottom"] c_fitK := g_mkP F_fit o_fit ok_fit 2 ["top", "bottom"] (fun us ws => us ++ ws) (fun r s => r.append s) (fun r s => r.append s) fun _ _ _ _ _ _ us ws h1 h2 => match us, h1, ws, h2 with | [_, _], _, [_, _], _ => rfl
  have ok__law_one_right := d__law_one_right (P := P) (w := w) (base := base) (k := 4) F__law_one_right B (g__law_is.mono (by decide)) (k_fit_top_bottom.mono (by decide)) (g__law_all.mono (by decide))
  have g__law_one_right : GDef P w K mg base 5 "_law_one_right" c_k80_one := g_mk F__law_one_right o__law_one_right ok__law_one_right fun _ _ _ _ _ _ us hl => match us, hl with | [_, _, _, _], _ => rfl
  have ok_law := d_law (P := P) (w := w) (base := base) (k := 5) F_law B (g__law_take.mono (by decide)) (g__law_one_right.mono (by decide)) (g__law_limits.mono (by decide)) (g__law_cell.mono (by decide)) (g__law_pool.mono (by decide))
  exact ok_law
end Zed
open PySem PySem.W PySem.Calls PyProof.Rows
theorem PySem.Challenge.cw_restarith_k80_whole_fits_gone_through_holds : PySem.Challenge.rw_restarith_k80_whole_fits_gone_through.Holds := by
  w_on; o_law
  refine HandSHeadRun.head_any (r := OpenLaw.row PySem.Challenge.rw_restarith_k80_whole_fits_gone_through) (q := view (OpenLaw.row PySem.Challenge.rw_restarith_k80_whole_fits_gone_through).prog [25]) (H := Zed.hk_) (ob := Zed.ob_) (M := 3000) (loose := Zed.loose_) (d := HandSHeadRun.topDef (OpenLaw.row PySem.Challenge.rw_restarith_k80_whole_fits_gone_through).prog 25) (kwd := []) Zed.ob_eq_
    (by kernel_rfl) (fun s => by kernel_rfl) Zed.run_ (by kernel_rfl) (by kernel_rfl) (by kernel_rfl) (by rfl) (by first | assumption | decide +kernel) (by decide +kernel) ⟨rfl, rfl, rfl, rfl, rfl, by decide +kernel⟩ ?hw ?hc
  case hw => w_witness2
  case hc =>
    refine Zed.walk_z (L := PySem.Challenge.rw_restarith_k80_whole_fits_gone_through) (r := 6) (par := "_law_script") (c := Zed.c_k80_law) rfl (by kernel_rfl) ⟨rfl, by decide, by decide⟩ (fun ns m hl => ⟨ns, rfl, hl, fun _ => rfl⟩) ?F
    intro w mg fa h Y G hmg0
    obtain ⟨K, KX, c⟩ := Y
    have hmg : mg ("law" : PySem.Str) = some (.ref fa) := by
      have e : (HandSHeadRun.topDef (OpenLaw.row PySem.Challenge.rw_restarith_k80_whole_fits_gone_through).prog 25).name = ("law" : PySem.Str) := by kernel_rfl
      rw [← e]
      exact hmg0
    obtain ⟨fd, hb, hF⟩ := Zed.facts_ (P := (PySem.Challenge.rw_restarith_k80_whole_fits_gone_through).prog) (w := w) KX G hmg c
    exact ⟨K, fd, KX, hb, hF⟩
