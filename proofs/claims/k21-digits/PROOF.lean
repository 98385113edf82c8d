import PyProof.Rows.All
import Wide.All
import OpenK.AllK
import Wide.FinOn
import HandS.ForMost
import HandS.IsInst
import HandS.Codes
import HandS.FStr
import HandS.Style
import HandS.TupAny
import HandS.ClsMeth
import HandS.Star
import HandS.OwnEq
import KE.KCallOwn
import HandS.Strs
import HandS.Zip
import KE.SortData
import HandS.RaiseMore
import HandS.Defaults
import HandS.Set
import HandS.SetBool
import PyProof.Rows.SortShellK
import HandS.More
import HandS.Small
import HandS.DictComp
import KE.GoesEnum
import PyProof.RulesMatch
import HandS.ReplaceLit
import HandS.ReplaceDef
import PyProof.Rows.StrStrike
import HandS.Head0
import HandS.Head1
import HandS.Head2
import HandS.HeadEnd
import HandS.HeadHook1
import HandS.HeadHook2
import HandS.HeadHook3
import HandS.HeadNt
import PySem.Challenge.RW_menuhome_k21_whole_digits_at_once
set_option Elab.async false
set_option linter.all false
set_option maxRecDepth 100000
set_option maxHeartbeats 4000000
/-! Mh: values as trees (D), what a def owns (M), the state (Rel, Stt) -/
namespace Mh
open PySem L2

/-- data that do not change -/
inductive D where
  | non | bl (b : Bool) | int (i : Int) | str (x : Str) | raw (v : V)
  | tup (ds : List D) | lst (ds : List D) | dct (kvs : List (Key × D)) | obj (c : Nat) (fs : List (Str × D)) | fact (a : Addr) (o : HO) | cls (c : Nat)
/-- what a def owns -/
inductive M where
  | p (d : D) | l (ds : List D) | dk (kvs : List (Key × D)) | o (c : Nat) (fs : List (Str × M))

def Ex (H H' : Hp) : Prop := ∀ a o, H a = some o → H' a = some o
theorem Ex.refl (H : Hp) : Ex H H := fun _ _ h => h
theorem Ex.trans {H H1 H2 : Hp} (a : Ex H H1) (b : Ex H1 H2) : Ex H H2 := fun x o h => b x o (a x o h)
theorem Ex.new {H : Hp} {p : Addr} {o : HO} (h : H p = none) : Ex H (upd H p o) := fun a u e => by
  rw [upd_ne (ne_of_none e h)]
  exact e
theorem Ex.mut {H H' : Hp} {p : Addr} {o : HO} (e : Ex H H') (h : H p = none) : Ex H (upd H' p o) := fun a u ha => by
  rw [upd_ne (ne_of_none ha h)]
  exact e a u ha
theorem Ex.both {H H' : Hp} {p : Addr} {o : HO} (e : Ex H H') : Ex (upd H p o) (upd H' p o) := fun a u ha => by
  unfold upd at ha ⊢
  split at ha
  · rename_i h; rw [if_pos h]; exact ha
  · rename_i h; rw [if_neg h]; exact e a u ha
/-- what may be locked for good: a dict -/
def lk : HO → Bool
  | .dK _ => true
  | .dT _ => true
  | _ => false
/-- more stands; dicts may have been locked -/
def Le (B B' : Hp) : Prop := ∀ a o, B a = some o → B' a = some o ∨ (lk o = true ∧ ∃ od, B' a = some (.frz od o))
theorem Ex.le {B B' : Hp} (e : Ex B B') : Le B B' := fun a o h => .inl (e a o h)
theorem Le.refl (B : Hp) : Le B B := (Ex.refl B).le
theorem Le.trans {B B1 B2 : Hp} (a : Le B B1) (b : Le B1 B2) : Le B B2 := fun x o h => by
  rcases a x o h with h | ⟨l, od, h⟩
  · exact b x o h
  · rcases b x _ h with q | ⟨l', _⟩
    · exact .inr ⟨l, od, q⟩
    · cases l'
theorem le_not {B B' : Hp} (e : Le B B') {a : Addr} {o : HO} (h : B a = some o) (l : lk o = false) : B' a = some o := by
  rcases e a o h with h | ⟨l', _⟩
  · exact h
  · rw [l] at l'; cases l'
theorem le_rd {H H' : Hp} {a : Addr} {u : HO} (e : Le H H') (h : Rd H a u) : Rd H' a u := by
  rcases h with h | ⟨o, h⟩
  · rcases e a u h with h | ⟨_, od, h⟩
    · exact .inl h
    · exact .inr ⟨od, h⟩
  · exact .inr ⟨o, le_not e h rfl⟩
theorem le_l {K : PySem.W.Frag} {H H' : Hp} {a : Addr} {xs : List V} (e : Le H H') (h : SqL K H a xs) : SqL K H' a xs := by
  rcases h with h | h
  · exact Or.inl (le_rd e h)
  · exact Or.inr h
theorem le_t {K : PySem.W.Frag} {H H' : Hp} {a : Addr} {xs : List V} (e : Le H H') (h : SqT K H a xs) : SqT K H' a xs := by
  rcases h with h | h
  · exact Or.inl (le_rd e h)
  · exact Or.inr h
theorem ex_rd {H H' : Hp} {a : Addr} {u : HO} (e : Ex H H') (h : Rd H a u) : Rd H' a u := le_rd e.le h
theorem ex_l {K : PySem.W.Frag} {H H' : Hp} {a : Addr} {xs : List V} (e : Ex H H') (h : SqL K H a xs) : SqL K H' a xs := le_l e.le h
theorem ex_t {K : PySem.W.Frag} {H H' : Hp} {a : Addr} {xs : List V} (e : Ex H H') (h : SqT K H a xs) : SqT K H' a xs := le_t e.le h

/-- the classes' addresses and the written part -/
structure Tx where
  cl : Nat → Addr
  K : PySem.W.Frag

mutual
inductive Rep (Y : Tx) (B : Hp) : V → D → Prop where
  | non : Rep Y B .non .non
  | bl (b : Bool) : Rep Y B (.bl b) (.bl b)
  | int (i : Int) : Rep Y B (.int i) (.int i)
  | str (x : Str) : Rep Y B (.str x) (.str x)
  | raw (v : V) : Rep Y B v (.raw v)
  | tup {a : Addr} {vs : List V} {ds : List D} : SqT Y.K B a vs → RepL Y B vs ds → Rep Y B (.ref a) (.tup ds)
  | lst {a : Addr} {vs : List V} {ds : List D} : SqL Y.K B a vs → RepL Y B vs ds → Rep Y B (.ref a) (.lst ds)
  | dct {a : Addr} {vs : List (Key × V)} {ds : List (Key × D)} : Rd B a (.dK vs) → RepK Y B vs ds → Rep Y B (.ref a) (.dct ds)
  | obj {a dx : Addr} {c : Nat} {vs : List (Str × V)} {fs : List (Str × D)} : B a = some (.ins (Y.cl c) dx vs) → RepF Y B vs fs → Rep Y B (.ref a) (.obj c fs)
  | fact {v : V} {a : Addr} {o : HO} : B a = some o → lk o = false → Rep Y B v (.fact a o)
  | cls (c : Nat) : Rep Y B (.ref (Y.cl c)) (.cls c)
inductive RepL (Y : Tx) (B : Hp) : List V → List D → Prop where
  | nil : RepL Y B [] []
  | cons {v : V} {d : D} {vs : List V} {ds : List D} : Rep Y B v d → RepL Y B vs ds → RepL Y B (v :: vs) (d :: ds)
inductive RepK (Y : Tx) (B : Hp) : List (Key × V) → List (Key × D) → Prop where
  | nil : RepK Y B [] []
  | cons {k : Key} {v : V} {d : D} {vs : List (Key × V)} {ds : List (Key × D)} : Rep Y B v d → RepK Y B vs ds → RepK Y B ((k, v) :: vs) ((k, d) :: ds)
inductive RepF (Y : Tx) (B : Hp) : List (Str × V) → List (Str × D) → Prop where
  | nil : RepF Y B [] []
  | cons {k : Str} {v : V} {d : D} {vs : List (Str × V)} {ds : List (Str × D)} : Rep Y B v d → RepF Y B vs ds → RepF Y B ((k, v) :: vs) ((k, d) :: ds)
end

mutual
theorem Rep.mono {Y : Tx} {B B' : Hp} (e : Le B B') : ∀ {v : V} {d : D}, Rep Y B v d → Rep Y B' v d
  | _, _, .non => .non
  | _, _, .bl b => .bl b
  | _, _, .int b => .int b
  | _, _, .str b => .str b
  | _, _, .raw b => .raw b
  | _, _, .tup h r => .tup (le_t e h) (RepL.mono e r)
  | _, _, .lst h r => .lst (le_l e h) (RepL.mono e r)
  | _, _, .dct h r => .dct (le_rd e h) (RepK.mono e r)
  | _, _, .obj h r => .obj (le_not e h rfl) (RepF.mono e r)
  | _, _, .fact h l => .fact (le_not e h l) l
  | _, _, .cls c => .cls c
theorem RepL.mono {Y : Tx} {B B' : Hp} (e : Le B B') : ∀ {v : List V} {d : List D}, RepL Y B v d → RepL Y B' v d
  | _, _, .nil => .nil
  | _, _, .cons h r => .cons (Rep.mono e h) (RepL.mono e r)
theorem RepK.mono {Y : Tx} {B B' : Hp} (e : Le B B') : ∀ {v : List (Key × V)} {d : List (Key × D)}, RepK Y B v d → RepK Y B' v d
  | _, _, .nil => .nil
  | _, _, .cons h r => .cons (Rep.mono e h) (RepK.mono e r)
theorem RepF.mono {Y : Tx} {B B' : Hp} (e : Le B B') : ∀ {v : List (Str × V)} {d : List (Str × D)}, RepF Y B v d → RepF Y B' v d
  | _, _, .nil => .nil
  | _, _, .cons h r => .cons (Rep.mono e h) (RepF.mono e r)
end
end Mh
namespace Mh
open PySem L2

mutual
inductive RepM (Y : Tx) (B H : Hp) : V → M → List Addr → Prop where
  | p {v : V} {d : D} : Rep Y B v d → RepM Y B H v (.p d) []
  | l {a : Addr} {vs : List V} {ds : List D} : H a = some (.lst vs) → RepL Y B vs ds → RepM Y B H (.ref a) (.l ds) [a]
  | dk {a : Addr} {vs : List (Key × V)} {ds : List (Key × D)} : H a = some (.dK vs) → RepK Y B vs ds → RepM Y B H (.ref a) (.dk ds) [a]
  | o {a dx : Addr} {c : Nat} {vs : List (Str × V)} {fs : List (Str × M)} {fp : List Addr} : H a = some (.ins (Y.cl c) dx vs) → RepO Y B H vs fs fp → RepM Y B H (.ref a) (.o c fs) (a :: fp)
inductive RepO (Y : Tx) (B H : Hp) : List (Str × V) → List (Str × M) → List Addr → Prop where
  | nil : RepO Y B H [] [] []
  | cons {k : Str} {v : V} {m : M} {fp fps : List Addr} {vs : List (Str × V)} {ms : List (Str × M)} : RepM Y B H v m fp → RepO Y B H vs ms fps → RepO Y B H ((k, v) :: vs) ((k, m) :: ms) (fp ++ fps)
end
mutual
theorem RepM.mono {Y : Tx} {B B' H H' : Hp} (e : Le B B') : ∀ {v : V} {m : M} {fp : List Addr}, RepM Y B H v m fp → (∀ a ∈ fp, H' a = H a) → RepM Y B' H' v m fp
  | _, _, _, .p r, _ => .p (r.mono e)
  | _, _, _, .l h r, k => .l ((k _ (by simp)).trans h) (r.mono e)
  | _, _, _, .dk h r, k => .dk ((k _ (by simp)).trans h) (r.mono e)
  | _, _, _, .o h r, k => .o ((k _ (by simp)).trans h) (RepO.mono e r fun a ha => k a (by simp [ha]))
theorem RepO.mono {Y : Tx} {B B' H H' : Hp} (e : Le B B') : ∀ {v : List (Str × V)} {m : List (Str × M)} {fp : List Addr}, RepO Y B H v m fp → (∀ a ∈ fp, H' a = H a) → RepO Y B' H' v m fp
  | _, _, _, .nil, _ => .nil
  | _, _, _, .cons h r, k => .cons (RepM.mono e h fun a ha => k a (by simp [ha])) (RepO.mono e r fun a ha => k a (by simp [ha]))
end
mutual
def frz : M → D
  | .p d => d
  | .l ds => .lst ds
  | .dk kvs => .dct kvs
  | .o c fs => .obj c (frzF fs)
def frzF : List (Str × M) → List (Str × D)
  | [] => []
  | (k, m) :: r => (k, frz m) :: frzF r
end
/-- the base with what is owned at fp -/
def addP (B H : Hp) (fp : List Addr) : Hp := fun a => if a ∈ fp then H a else B a
theorem addP_ex {B H : Hp} {fp : List Addr} (h : ∀ a ∈ fp, B a = none) : Ex B (addP B H fp) := fun a o e => by
  unfold addP
  split
  · rename_i q; rw [h a q] at e; cases e
  · exact e
theorem addP_in {B H : Hp} {fp : List Addr} {a : Addr} (h : a ∈ fp) : addP B H fp a = H a := if_pos h
theorem addP_out {B H : Hp} {fp : List Addr} {a : Addr} (h : a ∉ fp) : addP B H fp a = B a := if_neg h
mutual
theorem RepM.frz {Y : Tx} {B B' H : Hp} (e : Le B B') : ∀ {v : V} {m : M} {fp : List Addr}, RepM Y B H v m fp → (∀ a ∈ fp, B' a = H a) → Rep Y B' v (frz m)
  | _, _, _, .p r, _ => r.mono e
  | _, _, _, .l h r, k => .lst (.inl (.inl ((k _ (by simp)).trans h))) (r.mono e)
  | _, _, _, .dk h r, k => .dct (.inl ((k _ (by simp)).trans h)) (r.mono e)
  | _, _, _, .o h r, k => .obj ((k _ (by simp)).trans h) (RepO.frz e r fun a ha => k a (by simp [ha]))
theorem RepO.frz {Y : Tx} {B B' H : Hp} (e : Le B B') : ∀ {v : List (Str × V)} {m : List (Str × M)} {fp : List Addr}, RepO Y B H v m fp → (∀ a ∈ fp, B' a = H a) → RepF Y B' v (frzF m)
  | _, _, _, .nil, _ => .nil
  | _, _, _, .cons h r, k => .cons (RepM.frz e h fun a ha => k a (by simp [ha])) (RepO.frz e r fun a ha => k a (by simp [ha]))
end
inductive Sep (Y : Tx) (B H : Hp) : List (V × M) → List Addr → Prop where
  | nil : Sep Y B H [] []
  | cons {v : V} {m : M} {L : List (V × M)} {fp fps : List Addr} : RepM Y B H v m fp → Sep Y B H L fps → Sep Y B H ((v, m) :: L) (fp ++ fps)
theorem Sep.mono {Y : Tx} {B B' H H' : Hp} (e : Le B B') {L : List (V × M)} {fp : List Addr} (h : Sep Y B H L fp) : (∀ a ∈ fp, H' a = H a) → Sep Y B' H' L fp := by
  induction h with
  | nil => exact fun _ => .nil
  | cons r s ih => exact fun k => .cons (r.mono e fun a ha => k a (by simp [ha])) (ih fun a ha => k a (by simp [ha]))
theorem Sep.perm {Y : Tx} {B H : Hp} {L L' : List (V × M)} (p : L.Perm L') : ∀ {fp : List Addr}, Sep Y B H L fp → ∃ fp', fp.Perm fp' ∧ Sep Y B H L' fp' := by
  induction p with
  | nil => intro fp h; exact ⟨fp, .refl _, h⟩
  | cons x p ih =>
    intro fp h
    cases h with
    | cons r s =>
      obtain ⟨fp', q, s'⟩ := ih s
      exact ⟨_, q.append_left _, .cons r s'⟩
  | swap x y l =>
    intro fp h
    cases h with
    | cons r s =>
      cases s with
      | cons r' s' =>
        refine ⟨_, ?_, .cons r' (.cons r s')⟩
        rw [← List.append_assoc, ← List.append_assoc]
        exact List.Perm.append_right _ List.perm_append_comm
  | trans p q ih1 ih2 =>
    intro fp h
    obtain ⟨f1, q1, s1⟩ := ih1 h
    obtain ⟨f2, q2, s2⟩ := ih2 s1
    exact ⟨f2, q1.trans q2, s2⟩
theorem Sep.app {Y : Tx} {B H : Hp} : ∀ {L L' : List (V × M)} {fp fp' : List Addr}, Sep Y B H L fp → Sep Y B H L' fp' → Sep Y B H (L ++ L') (fp ++ fp')
  | [], _, _, _, .nil, h => h
  | _ :: _, _, _, _, .cons r s, h => by
    rw [List.append_assoc]
    exact .cons r (Sep.app s h)
theorem Sep.split {Y : Tx} {B H : Hp} : ∀ {L L' : List (V × M)} {fp : List Addr}, Sep Y B H (L ++ L') fp → ∃ f1 f2, fp = f1 ++ f2 ∧ Sep Y B H L f1 ∧ Sep Y B H L' f2
  | [], _, fp, h => ⟨[], fp, rfl, .nil, h⟩
  | _ :: _, _, _, .cons r s => by
    obtain ⟨f1, f2, e, s1, s2⟩ := Sep.split s
    subst e
    exact ⟨_, f2, (List.append_assoc ..).symm, .cons r s1, s2⟩

structure Grow (fp : List Addr) (B H B' H' : Hp) : Prop where
  exB : Le B B'
  sub : Ex B' H'
  keep : ∀ a o, H a = some o → a ∉ fp → H' a = some o ∨ (lk o = true ∧ B a = some o ∧ ∃ od, H' a = some (.frz od o))
  new : ∀ a, H a ≠ none → a ∉ fp → B a = none → B' a = none
  live : ∀ a, H' a = none → H a = none
theorem Grow.refl {fp : List Addr} {B H : Hp} (e : Ex B H) : Grow fp B H B H := ⟨Le.refl _, e, fun _ _ h _ => .inl h, fun _ _ _ h => h, fun _ h => h⟩
/-- what was owned ahead: fp; in between: fp1, of these or new -/
theorem Grow.trans {fp fp1 : List Addr} {B H B1 H1 B2 H2 : Hp} (a : Grow fp B H B1 H1) (b : Grow fp1 B1 H1 B2 H2) (h : ∀ x ∈ fp1, H x = none ∨ x ∈ fp) : Grow fp B H B2 H2 := by
  have n1 : ∀ x, H x ≠ none → x ∉ fp → x ∉ fp1 := fun x e n z => by
    rcases h x z with q | q
    · exact e q
    · exact n q
  refine ⟨a.exB.trans b.exB, b.sub, fun x o e n => ?_, fun x e n q => ?_, fun x e => a.live x (b.live x e)⟩
  · have hx : H x ≠ none := by rw [e]; exact fun z => nomatch z
    rcases a.keep x o e n with q | ⟨l, q, od, r⟩
    · rcases b.keep x o q (n1 x hx n) with q2 | ⟨l, q2, od, r⟩
      · exact .inl q2
      · refine .inr ⟨l, ?_, od, r⟩
        cases z : B x with
        | none => rw [a.new x hx n z] at q2; cases q2
        | some o' =>
          rcases a.exB x o' z with y | ⟨_, od', y⟩
          · rw [q2] at y; exact y.symm
          · rw [q2] at y; cases y; cases l
    · rcases b.keep x _ r (n1 x hx n) with q2 | ⟨l2, _⟩
      · exact .inr ⟨l, q, od, q2⟩
      · cases l2
  · exact b.new x (fun z => e (a.live x z)) (n1 x e n) (a.new x e n q)

/-- a def's entry: the base, the heap, what may change, the parameters that are lent (slot, value) -/
structure Ent where
  B : Hp
  H : Hp
  fp : List Addr
  prot : List (Nat × V)
structure RelB (Y : Tx) (E : Ent) (B : Hp) (fp : List Addr) (L : List (V × M)) (H : Hp) : Prop where
  grow : Grow E.fp E.B E.H B H
  sep : Sep Y B H L fp
  nd : fp.Nodup
  own : ∀ a ∈ fp, B a = none ∧ (E.H a = none ∨ a ∈ E.fp)
def Rel (Y : Tx) (E : Ent) (L : List (V × M)) (H : Hp) : Prop := ∃ B fp, RelB Y E B fp L H
section
variable {Y : Tx} {E : Ent} {B H : Hp} {fp : List Addr} {L L' : List (V × M)} {v : V} {m : M} {d : D} {p : Addr} {o : HO}
theorem Rel.perm (h : Rel Y E L H) (q : L.Perm L') : Rel Y E L' H := by
  obtain ⟨B, fp, r⟩ := h
  obtain ⟨fp', q', s⟩ := r.sep.perm q
  exact ⟨B, fp', r.grow, s, q'.nodup_iff.mp r.nd, fun a ha => r.own a (q'.mem_iff.mpr ha)⟩
theorem RelB.tail (h : RelB Y E B fp ((v, m) :: L) H) : ∃ fp', RelB Y E B fp' L H := by
  obtain ⟨g, s, nd, ow⟩ := h
  cases s with
  | cons r s => exact ⟨_, g, s, (List.nodup_append.mp nd).2.1, fun a ha => ow a (by simp [ha])⟩
theorem Rel.tail (h : Rel Y E ((v, m) :: L) H) : Rel Y E L H := by
  obtain ⟨B, fp, r⟩ := h
  obtain ⟨fp', r'⟩ := r.tail
  exact ⟨B, fp', r'⟩
theorem RelB.push (h : RelB Y E B fp L H) (r : Rep Y B v d) : RelB Y E B fp ((v, .p d) :: L) H :=
  ⟨h.grow, by simpa using Sep.cons (.p r) h.sep, h.nd, h.own⟩
theorem RelB.rel (h : RelB Y E B fp L H) : Rel Y E L H := ⟨B, fp, h⟩
theorem RelB.ne (h : RelB Y E B fp L H) (hp : H p = none) : p ∉ fp := by
  have key : ∀ {L : List (V × M)} {fp : List Addr}, Sep Y B H L fp → p ∉ fp := by
    intro L fp s
    induction s with
    | nil => simp
    | cons r s ih =>
      rw [List.mem_append, not_or]
      refine ⟨?_, ih⟩
      have k1 : ∀ {v : V} {m : M} {fp : List Addr}, RepM Y B H v m fp → p ∉ fp := by
        intro v m fp r
        refine RepM.rec (motive_1 := fun v m fp _ => p ∉ fp) (motive_2 := fun v m fp _ => p ∉ fp) ?_ ?_ ?_ ?_ ?_ ?_ r
        · intros; simp
        · intro a vs ds e _; simp; rintro rfl; rw [hp] at e; cases e
        · intro a vs ds e _; simp; rintro rfl; rw [hp] at e; cases e
        · intro a dx c vs fs fp e _ ih; simp only [List.mem_cons, not_or]; exact ⟨(by rintro rfl; rw [hp] at e; cases e), ih⟩
        · simp
        · intro k v m fp fps vs ms _ _ i1 i2; simp only [List.mem_append, not_or]; exact ⟨i1, i2⟩
      exact k1 r
  exact key h.sep
/-- a new object that nothing asks -/
theorem RelB.alloc (h : RelB Y E B fp L H) (hp : H p = none) : RelB Y E B fp L (upd H p o) where
  grow := ⟨h.grow.exB, h.grow.sub.trans (Ex.new hp), fun a u e n => (h.grow.keep a u e n).imp (Ex.new hp a u) (fun ⟨l, b, od, r⟩ => ⟨l, b, od, Ex.new hp a _ r⟩), h.grow.new, fun a e => by
    by_cases q : a = p
    · subst q; rw [upd_same] at e; cases e
    · rw [upd_ne q] at e; exact h.grow.live a e⟩
  sep := h.sep.mono (Le.refl _) fun a ha => upd_ne fun z => h.ne hp (z ▸ ha)
  nd := h.nd
  own := h.own
/-- .. that is part of the base from now on -/
theorem RelB.allocB (h : RelB Y E B fp L H) (hp : H p = none) : RelB Y E (upd B p o) fp L (upd H p o) := by
  have hb : B p = none := by
    cases e : B p with
    | none => rfl
    | some u => rw [h.grow.sub p u e] at hp; cases hp
  refine ⟨⟨h.grow.exB.trans (Ex.new hb).le, h.grow.sub.both, fun a u e n => (h.grow.keep a u e n).imp (Ex.new hp a u) (fun ⟨l, b, od, r⟩ => ⟨l, b, od, Ex.new hp a _ r⟩), fun a e n q => ?_, fun a e => ?_⟩, h.sep.mono (Ex.new hb).le fun a ha => upd_ne fun z => h.ne hp (z ▸ ha), h.nd, fun a ha => ?_⟩
  · rw [upd_ne fun z => e (by rw [z]; exact h.grow.live p hp)]
    exact h.grow.new a e n q
  · by_cases q : a = p
    · subst q; rw [upd_same] at e; cases e
    · rw [upd_ne q] at e; exact h.grow.live a e
  · have hne : a ≠ p := fun z => h.ne hp (by rw [← z]; exact ha)
    rw [upd_ne hne]
    exact h.own a ha
theorem RelB.bnone (h : RelB Y E B fp L H) (hp : H p = none) : B p = none := by
  cases e : B p with
  | none => rfl
  | some u => rw [h.grow.sub p u e] at hp; cases hp
/-- .. that is owned -/
theorem RelB.allocO (h : RelB Y E B fp L H) (hp : H p = none) (r : ∀ H', H' p = some o → (∀ a ∈ fp, H' a = H a) → RepM Y B H' v m [p]) : RelB Y E B (p :: fp) ((v, m) :: L) (upd H p o) := by
  have a := h.alloc (o := o) hp
  refine ⟨a.grow, Sep.cons (fp := [p]) (r _ upd_same fun b hb => upd_ne fun z => h.ne hp (z ▸ hb)) a.sep, List.nodup_cons.mpr ⟨h.ne hp, h.nd⟩, fun b hb => ?_⟩
  rcases List.mem_cons.mp hb with e | e
  · subst e; exact ⟨h.bnone hp, .inl (h.grow.live _ hp)⟩
  · exact h.own b e
/-- an owned object is written (its footprint stays) -/
theorem RelB.write {f1 f2 : List Addr} {a : Addr} {m' : M} (g : Grow E.fp E.B E.H B H) (s : Sep Y B H L f2) (nd : (f1 ++ f2).Nodup) (ow : ∀ b ∈ f1 ++ f2, B b = none ∧ (E.H b = none ∨ b ∈ E.fp)) (ha : a ∈ f1)
    (r : RepM Y B (upd H a o) v m' f1) : RelB Y E B (f1 ++ f2) ((v, m') :: L) (upd H a o) := by
  obtain ⟨hB, hE⟩ := ow a (by simp [ha])
  have nd2 := List.nodup_append.mp nd
  refine ⟨⟨g.exB, g.sub.mut hB, fun b u e n => ?_, g.new, fun b e => ?_⟩, .cons r (s.mono (Le.refl _) fun b hb => upd_ne fun z => ?_), nd, ow⟩
  · rw [upd_ne fun z => ?_]
    · exact g.keep b u e n
    · subst z
      rcases hE with q | q
      · rw [q] at e; cases e
      · exact n q
  · by_cases q : b = a
    · subst q; rw [upd_same] at e; cases e
    · rw [upd_ne q] at e; exact g.live b e
  · subst z
    exact nd2.2.2 b ha b hb rfl
/-- what was owned is frozen -/
theorem Rel.freeze (h : Rel Y E ((v, m) :: L) H) : Rel Y E ((v, .p (Mh.frz m)) :: L) H := by
  obtain ⟨B, fp, g, s, nd, ow⟩ := h
  cases s with
  | @cons _ _ _ f1 f2 r s =>
    have nd2 := List.nodup_append.mp nd
    have hB : ∀ a ∈ f1, B a = none := fun a ha => (ow a (by simp [ha])).1
    have e := (addP_ex (H := H) hB).le
    refine ⟨addP B H f1, f2, ⟨g.exB.trans e, fun a u q => ?_, g.keep, fun a q n b0 => ?_, g.live⟩, ?_, nd2.2.1, fun a ha => ?_⟩
    · unfold addP at q
      split at q
      · exact q
      · exact g.sub a u q
    · rw [addP_out fun z => ?_]
      · exact g.new a q n b0
      · rcases (ow a (by simp [z])).2 with y | y
        · exact q y
        · exact n y
    · have s' : Sep Y (addP B H f1) H L f2 := s.mono e fun _ _ => rfl
      have r' : RepM Y (addP B H f1) H v (.p (Mh.frz m)) [] := .p (r.frz e fun a ha => addP_in ha)
      simpa using Sep.cons r' s'
    · rw [addP_out fun z => nd2.2.2 a z a ha rfl]
      exact ow a (by simp [ha])
/-- a dict of the base is locked for good -/
theorem RelB.lock {d : Addr} {u : HO} {od : Obj} (h : RelB Y E B fp L H) (hd : B d = some u) (l : lk u = true) : RelB Y E (upd B d (.frz od u)) fp L (upd H d (.frz od u)) := by
  have hH := h.grow.sub d u hd
  have le : Le B (upd B d (.frz od u)) := fun a o e => by
    by_cases q : a = d
    · subst q; rw [hd] at e; cases e; exact .inr ⟨l, od, upd_same⟩
    · rw [upd_ne q]; exact .inl e
  have nd : ∀ a ∈ fp, a ≠ d := fun a ha z => by rw [z] at ha; have := (h.own d ha).1; rw [hd] at this; cases this
  refine ⟨⟨h.grow.exB.trans le, h.grow.sub.both, fun a o e n => ?_, fun a e n b0 => ?_, fun a e => ?_⟩, h.sep.mono le fun a ha => upd_ne (nd a ha), h.nd, fun a ha => ?_⟩
  · by_cases q : a = d
    · subst q
      have hE : E.H a ≠ none := by rw [e]; exact fun z => nomatch z
      rcases h.grow.keep a o e n with k | ⟨l', b, od', r⟩
      · rw [hH] at k; cases k
        refine .inr ⟨l, ?_, od, upd_same⟩
        cases z : E.B a with
        | none => rw [h.grow.new a hE n z] at hd; cases hd
        | some o' =>
          rcases h.grow.exB a o' z with y | ⟨_, od', y⟩
          · rw [hd] at y; exact y.symm
          · rw [hd] at y; cases y; cases l
      · rw [hH] at r; cases r; cases l
    · rw [upd_ne q]; exact h.grow.keep a o e n
  · have b1 := h.grow.new a e n b0
    rw [upd_ne fun z => by subst z; rw [hd] at b1; cases b1]
    exact b1
  · by_cases q : a = d
    · subst q; rw [upd_same] at e; cases e
    · rw [upd_ne q] at e; exact h.grow.live a e
  · rw [upd_ne (nd a ha)]; exact h.own a ha
/-- the base, for what is pure -/
theorem Rel.pure (h : Rel Y E L H) : ∃ B, Ex B H ∧ (∀ v d, (v, M.p d) ∈ L → Rep Y B v d) ∧ ∀ v d, Rep Y B v d → Rel Y E ((v, .p d) :: L) H := by
  obtain ⟨B, fp, r⟩ := h
  refine ⟨B, r.grow.sub, fun v d hm => ?_, fun v d q => (r.push q).rel⟩
  have key : ∀ {L : List (V × M)} {fp : List Addr}, Sep Y B H L fp → (v, M.p d) ∈ L → Rep Y B v d := by
    intro L fp s
    induction s with
    | nil => intro h; cases h
    | cons r s ih =>
      intro h
      rcases List.mem_cons.mp h with e | h
      · cases e
        cases r with
        | p r => exact r
      · exact ih h
  exact key r.sep hm
theorem Rel.rep (h : Rel Y E ((v, .p d) :: L) H) : Rep Y H v d := by
  obtain ⟨B, e, q, _⟩ := h.pure
  exact (q v d (by simp)).mono e.le
theorem Rel.dup (h : Rel Y E ((v, .p d) :: L) H) : Rel Y E ((v, .p d) :: (v, .p d) :: L) H := by
  obtain ⟨B, e, q, k⟩ := h.pure
  exact k v d (q v d (by simp))
theorem Rel.scal (h : Rel Y E L H) (r : ∀ B, Rep Y B v d) : Rel Y E ((v, .p d) :: L) H := by
  obtain ⟨B, _, _, k⟩ := h.pure
  exact k v d (r B)
end
end Mh
namespace Mh
open PySem L2

abbrev En := List (Option M)
/-- the slots that are known -/
def prs : St → En → List (V × M)
  | some v :: σ, some m :: ms => (v, m) :: prs σ ms
  | _ :: σ, _ :: ms => prs σ ms
  | _, _ => []
theorem prs_cc (v : V) (m : M) (σ : St) (ms : En) : prs (some v :: σ) (some m :: ms) = (v, m) :: prs σ ms := rfl
theorem prs_no (x : Option V) (σ : St) (ms : En) : prs (x :: σ) (none :: ms) = prs σ ms := by cases x <;> rfl
theorem prs_on (m : Option M) (σ : St) (ms : En) : prs (none :: σ) (m :: ms) = prs σ ms := by cases m <;> rfl
theorem prs_take : ∀ {σ : St} {ms : En} {i : Nat} {v : V} {m : M}, σ[i]? = some (some v) → ms[i]? = some (some m) → (prs σ ms).Perm ((v, m) :: prs σ (ms.set i none))
  | [], _, _, _, _, h, _ => by simp at h
  | _ :: _, [], _, _, _, _, h => by simp at h
  | x :: σ, y :: ms, 0, v, m, h1, h2 => by
    simp at h1 h2
    subst h1; subst h2
    rw [List.set_cons_zero, prs_no]
    exact .refl _
  | x :: σ, y :: ms, i + 1, v, m, h1, h2 => by
    have h1' : σ[i]? = some (some v) := by simpa using h1
    have h2' : ms[i]? = some (some m) := by simpa using h2
    have ih := prs_take h1' h2'
    rw [List.set_cons_succ]
    cases x with
    | none => rw [prs_on, prs_on]; exact ih
    | some u =>
      cases y with
      | none => rw [prs_no, prs_no]; exact ih
      | some n =>
        rw [prs_cc, prs_cc]
        exact (List.Perm.cons _ ih).trans (List.Perm.swap _ _ _)
theorem prs_set : ∀ {σ : St} {ms : En} {i : Nat} {v : V} {m : M}, i < σ.length → i < ms.length → (prs (σ.set i (some v)) (ms.set i (some m))).Perm ((v, m) :: prs σ (ms.set i none))
  | [], _, _, _, _, h, _ => by simp at h
  | _ :: _, [], _, _, _, _, h => by simp at h
  | x :: σ, y :: ms, 0, v, m, h1, h2 => by
    rw [List.set_cons_zero, List.set_cons_zero, List.set_cons_zero, prs_no, prs_cc]
  | x :: σ, y :: ms, i + 1, v, m, h1, h2 => by
    have h1' : i < σ.length := by simpa using h1
    have h2' : i < ms.length := by simpa using h2
    have ih := prs_set (v := v) (m := m) h1' h2'
    rw [List.set_cons_succ, List.set_cons_succ, List.set_cons_succ]
    cases x with
    | none => rw [prs_on, prs_on]; exact ih
    | some u =>
      cases y with
      | none => rw [prs_no, prs_no]; exact ih
      | some n =>
        rw [prs_cc, prs_cc]
        exact (List.Perm.cons _ ih).trans (List.Perm.swap _ _ _)
/-- a slot forgotten -/
theorem prs_drop (σ : St) : ∀ (ms : En) (i : Nat), ms[i]? = some none → prs σ (ms.set i none) = prs σ ms := by
  induction σ with
  | nil => intro ms i _; cases ms <;> rfl
  | cons x σ ih =>
    intro ms i h
    cases ms with
    | nil => rfl
    | cons y ms =>
      cases i with
      | zero => simp at h; subst h; rfl
      | succ i =>
        have h' : ms[i]? = some none := by simpa using h
        rw [List.set_cons_succ]
        cases x with
        | none => rw [prs_on, prs_on]; exact ih ms i h'
        | some u =>
          cases y with
          | none => rw [prs_no, prs_no]; exact ih ms i h'
          | some n => rw [prs_cc, prs_cc, ih ms i h']

/-- the state of a def's body: what stands ready (T), the slots -/
structure Stt (Y : Tx) (E : Ent) (T : List (V × M)) (σ : St) (ms : En) (H : Hp) : Prop where
  len : ms.length = σ.length
  cov : ∀ (i : Nat) (m : M), ms[i]? = some (some m) → ∃ v, σ[i]? = some (some v)
  rel : Rel Y E (T ++ prs σ ms) H
  prot : ∀ iv ∈ E.prot, σ[iv.1]? = some (some iv.2)
section
variable {Y : Tx} {E : Ent} {H H' : Hp} {T T' : List (V × M)} {σ : St} {ms : En} {v : V} {m : M} {d : D} {i : Nat}
theorem Stt.of (s : Stt Y E T σ ms H) (r : Rel Y E (T' ++ prs σ ms) H') : Stt Y E T' σ ms H' := ⟨s.len, s.cov, r, s.prot⟩
theorem Stt.pop (s : Stt Y E ((v, m) :: T) σ ms H) : Stt Y E T σ ms H := s.of s.rel.tail
theorem Stt.pops : ∀ {vs : List V} {ds : List M}, Stt Y E ((vs.zip ds) ++ T) σ ms H → Stt Y E T σ ms H
  | [], _, s => s
  | _ :: _, [], s => s
  | _ :: _, _ :: _, s => Stt.pops (Stt.pop s)
theorem Stt.frz (s : Stt Y E ((v, m) :: T) σ ms H) : Stt Y E ((v, .p (Mh.frz m)) :: T) σ ms H := s.of s.rel.freeze
theorem Stt.scal (s : Stt Y E T σ ms H) (r : ∀ B, Rep Y B v d) : Stt Y E ((v, .p d) :: T) σ ms H := s.of (s.rel.scal r)
theorem Stt.swap {x y : V × M} (s : Stt Y E (x :: y :: T) σ ms H) : Stt Y E (y :: x :: T) σ ms H := s.of (s.rel.perm (List.Perm.swap _ _ _))
theorem Stt.rep (s : Stt Y E ((v, .p d) :: T) σ ms H) : Rep Y H v d := s.rel.rep
theorem Stt.take (s : Stt Y E T σ ms H) (h1 : σ[i]? = some (some v)) (h2 : ms[i]? = some (some m)) : Stt Y E ((v, m) :: T) σ (ms.set i none) H := by
  refine ⟨by rw [List.length_set]; exact s.len, fun j n e => ?_, ?_, s.prot⟩
  · by_cases h : i = j
    · subst h
      by_cases q : i < ms.length
      · rw [List.getElem?_set_self q] at e; cases e
      · rw [List.getElem?_eq_none (by rw [List.length_set]; omega)] at e; cases e
    · rw [List.getElem?_set_ne h] at e; exact s.cov j n e
  · refine s.rel.perm (((prs_take h1 h2).append_left T).trans ?_)
    exact List.perm_middle
theorem Stt.put (s : Stt Y E ((v, m) :: T) σ ms H) (h1 : σ[i]? = some (some v)) (h2 : ms[i]? = some none) : Stt Y E T σ (ms.set i (some m)) H := by
  have hi : i < ms.length := (List.getElem?_eq_some_iff.mp h2).1
  refine ⟨by rw [List.length_set]; exact s.len, fun j n e => ?_, ?_, s.prot⟩
  · by_cases h : i = j
    · subst h; exact ⟨v, h1⟩
    · rw [List.getElem?_set_ne h] at e; exact s.cov j n e
  · have e : prs σ ms = prs σ ((ms.set i (some m)).set i none) := by rw [List.set_set, prs_drop σ ms i h2]
    have h3 : (ms.set i (some m))[i]? = some (some m) := List.getElem?_set_self hi
    have q := prs_take h1 h3
    rw [← e] at q
    refine s.rel.perm ?_
    exact (List.perm_middle.symm).trans ((q.symm).append_left T)
/-- a slot bound -/
theorem Stt.set (s : Stt Y E ((v, m) :: T) σ ms H) (hi : i < σ.length) (hp : i ∉ E.prot.map (·.1)) : Stt Y E T (σ.set i (some v)) (ms.set i (some m)) H := by
  have hm : i < ms.length := by rw [s.len]; exact hi
  refine ⟨by rw [List.length_set, List.length_set]; exact s.len, fun j n e => ?_, ?_, fun iv h => ?_⟩
  · by_cases h : i = j
    · subst h; exact ⟨v, List.getElem?_set_self hi⟩
    · rw [List.getElem?_set_ne h] at e ⊢; exact s.cov j n e
  · refine Rel.perm (L := (v, m) :: (T ++ prs σ (ms.set i none))) ?_ ((List.perm_middle.symm).trans ((prs_set hi hm).symm.append_left T))
    have r : Rel Y E ((v, m) :: (T ++ prs σ ms)) H := s.rel
    cases e : ms[i]? with
    | none => rw [List.getElem?_eq_none_iff] at e; omega
    | some o =>
      cases o with
      | none => rw [prs_drop σ ms i e]; exact r
      | some n =>
        obtain ⟨u, hu⟩ := s.cov i n e
        have q := ((prs_take hu e).append_left ((v, m) :: T)).trans List.perm_middle
        exact (r.perm q).tail
  · rw [List.getElem?_set_ne fun z => hp (by rw [z]; exact List.mem_map_of_mem h)]
    exact s.prot iv h
/-- a slot forgotten -/
theorem Stt.forget (s : Stt Y E T σ ms H) (i : Nat) : Stt Y E T σ (ms.set i none) H := by
  cases e : ms[i]? with
  | none => rw [List.set_eq_of_length_le (by simpa using e)]; exact s
  | some o =>
    cases o with
    | none =>
      refine ⟨by rw [List.length_set]; exact s.len, fun j n q => ?_, by rw [prs_drop σ ms i e]; exact s.rel, s.prot⟩
      by_cases h : i = j
      · subst h; rw [List.getElem?_set_self (List.getElem?_eq_some_iff.mp e).1] at q; cases q
      · rw [List.getElem?_set_ne h] at q; exact s.cov j n q
    | some n =>
      obtain ⟨u, hu⟩ := s.cov i n e
      exact (s.take hu e).pop
/-- a slot read: frozen from then on -/
theorem Stt.var (s : Stt Y E T σ ms H) (h2 : ms[i]? = some (some m)) : ∃ v, σ[i]? = some (some v) ∧ Stt Y E ((v, .p (Mh.frz m)) :: T) σ (ms.set i (some (.p (Mh.frz m)))) H := by
  obtain ⟨v, h1⟩ := s.cov i m h2
  have a := (s.take h1 h2).frz
  have b : Stt Y E ((v, .p (Mh.frz m)) :: (v, .p (Mh.frz m)) :: T) σ (ms.set i none) H := a.of a.rel.dup
  have hi : i < ms.length := (List.getElem?_eq_some_iff.mp h2).1
  have c := b.put (i := i) h1 (List.getElem?_set_self hi)
  rw [List.set_set] at c
  exact ⟨v, h1, c⟩
end

/-! ### judgements -/
abbrev EF := En → Option (M × En)
abbrev TF := En → Option (Bool × En)
abbrev AF := En → Option (List M × En)
def tE (Y : Tx) (E : Ent) (f : EF) : TE := fun σ H Q => ∃ T ms m ms', Stt Y E T σ ms H ∧ f ms = some (m, ms') ∧ ∀ v H', Stt Y E ((v, m) :: T) σ ms' H' → Q v H'
def tT (Y : Tx) (E : Ent) (f : TF) : TT := fun σ H Q => ∃ T ms b ms', Stt Y E T σ ms H ∧ f ms = some (b, ms') ∧ ∀ H', Stt Y E T σ ms' H' → Q b H'
/-- the temporaries of an argument list: the last one ahead -/
def tmps : List V → List M → List (V × M) → List (V × M)
  | v :: vs, m :: ms, T => tmps vs ms ((v, m) :: T)
  | _, _, T => T
def tA (Y : Tx) (E : Ent) (f : AF) : TA := fun σ H Q => ∃ T ms m ms', Stt Y E T σ ms H ∧ f ms = some (m, ms') ∧ ∀ vs H', vs.length = m.length → Stt Y E (tmps vs m T) σ ms' H' → Q vs H'
abbrev Cx.tx (X : Cx) (cl : Nat → Addr) : Tx := ⟨cl, X.K⟩
def XE (X : Cx) (cl : Nat → Addr) (P : List Nat) (e : Expr) (f : EF) : Prop := ∀ E : Ent, E.prot.map (·.1) = P → PE X e (tE ⟨cl, X.K⟩ E f)
def XT (X : Cx) (cl : Nat → Addr) (P : List Nat) (e : Expr) (f : TF) : Prop := ∀ E : Ent, E.prot.map (·.1) = P → PT X e (tT ⟨cl, X.K⟩ E f)
def XA (X : Cx) (cl : Nat → Addr) (P : List Nat) (es : List Expr) (f : AF) : Prop := ∀ E : Ent, E.prot.map (·.1) = P → PA X es (tA ⟨cl, X.K⟩ E f)
theorem PE.weak {X : Cx} {e : Expr} {t t' : TE} (h : PE X e t) (w : ∀ σ H Q, t' σ H Q → t σ H Q) : PE X e t' := ⟨fun pins s σ H Q I q => h.run pins s σ H Q I (w σ H Q q)⟩
theorem PT.weak {X : Cx} {e : Expr} {t t' : TT} (h : PT X e t) (w : ∀ σ H Q, t' σ H Q → t σ H Q) : PT X e t' := ⟨fun pins s σ H Q I q => h.run pins s σ H Q I (w σ H Q q)⟩
theorem PA.weak {X : Cx} {e : List Expr} {t t' : TA} (h : PA X e t) (w : ∀ σ H Q, t' σ H Q → t σ H Q) : PA X e t' := ⟨fun pos pins s σ H Q I q => h.run pos pins s σ H Q I (w σ H Q q)⟩
theorem PS.weak {X : Cx} {e : Stmt} {t t' : TS} (h : PS X e t) (w : ∀ D σ H, t' D σ H → t D σ H) : PS X e t' := ⟨fun pins s σ H D I q => h.run pins s σ H D I (w D σ H q)⟩
theorem PSs.weak {X : Cx} {e : List Stmt} {t t' : TS} (h : PSs X e t) (w : ∀ D σ H, t' D σ H → t D σ H) : PSs X e t' := ⟨fun pins s σ H D I q => h.run pins s σ H D I (w D σ H q)⟩
/-! ### statements -/
inductive Fl where
  | nx | rt (m : M) | bk | ct
abbrev SF := En → Option (Fl × En)
def outT (Y : Tx) (E : Ent) (T : List (V × M)) (D : Ends) : Fl → En → Prop
  | .nx, ms => ∀ σ H, Stt Y E T σ ms H → D.nx σ H
  | .bk, ms => ∀ σ H, Stt Y E T σ ms H → D.bk σ H
  | .ct, ms => ∀ σ H, Stt Y E T σ ms H → D.ct σ H
  | .rt m, ms => ∀ v σ H, Stt Y E ((v, m) :: T) σ ms H → D.rt v H
def tS (Y : Tx) (E : Ent) (f : SF) : TS := fun D σ H => ∃ T ms o ms', Stt Y E T σ ms H ∧ f ms = some (o, ms') ∧ outT Y E T D o ms'
def XS (X : Cx) (cl : Nat → Addr) (P : List Nat) (st : Stmt) (f : SF) : Prop := ∀ E : Ent, E.prot.map (·.1) = P → PS X st (tS ⟨cl, X.K⟩ E f)
def XB (X : Cx) (cl : Nat → Addr) (P : List Nat) (st : List Stmt) (f : SF) : Prop := ∀ E : Ent, E.prot.map (·.1) = P → PSs X st (tS ⟨cl, X.K⟩ E f)
end Mh
namespace Mh
open PySem L2

/-! ### names, constants -/
def xV (i : Nat) : EF := fun ms => match ms[i]? with
  | some (some m) => some (.p (frz m), ms.set i (some (.p (frz m))))
  | _ => none
def xC (d : D) : EF := fun ms => some (.p d, ms)
/-- a slot lent: it stands as it is -/
def xTk (i : Nat) : EF := fun ms => match ms[i]? with
  | some (some m) => some (m, ms.set i none)
  | _ => none
section
variable {X : Cx} {cl : Nat → Addr} {P : List Nat}
theorem xe_var (i : Nat) {x : Str} {pos : Pos} (hN : X.N[i]? = some x := by rfl) (hv : Vis X.env.scope x := by first | exact Or.inl rfl | exact Or.inr (Or.inl rfl) | exact Or.inr (Or.inr rfl))
    (hd : (x == ("__debug__" : Str)) = false := by decide) (hcd : (x == ("__classdict__" : Str)) = false := by decide) : XE X cl P (.Name x pos) (xV i) := fun E _ =>
  PE.weak (pe_var hN hv hd hcd) fun σ H Q ⟨T, ms, m, ms', s, e, k⟩ => by
    unfold xV at e
    split at e
    · rename_i n hn
      cases e
      obtain ⟨v, h1, s'⟩ := s.var hn
      exact ⟨v, h1, k v H s'⟩
    · cases e
theorem xe_take (i : Nat) {x : Str} {pos : Pos} (hN : X.N[i]? = some x := by rfl) (hv : Vis X.env.scope x := by first | exact Or.inl rfl | exact Or.inr (Or.inl rfl) | exact Or.inr (Or.inr rfl))
    (hd : (x == ("__debug__" : Str)) = false := by decide) (hcd : (x == ("__classdict__" : Str)) = false := by decide) : XE X cl P (.Name x pos) (xTk i) := fun E _ =>
  PE.weak (pe_var hN hv hd hcd) fun σ H Q ⟨T, ms, m, ms', s, e, k⟩ => by
    unfold xTk at e
    split at e
    · rename_i n hn
      cases e
      obtain ⟨v, h1⟩ := s.cov _ _ hn
      exact ⟨v, h1, k v H (s.take h1 hn)⟩
    · cases e
theorem xe_c {e : Expr} {v : V} {d : D} (h : PE X e (tC v)) (r : ∀ B, Rep ⟨cl, X.K⟩ B v d) : XE X cl P e (xC d) := fun E _ =>
  PE.weak h fun σ H Q ⟨T, ms, m, ms', s, e, k⟩ => by cases e; exact k v H (s.scal r)
theorem xe_int {i j pos} : XE X cl P (.Constant (.int i) j pos) (xC (.int i)) := xe_c pe_int fun _ => .int i
theorem xe_bl {b j pos} : XE X cl P (.Constant (.bool b) j pos) (xC (.bl b)) := xe_c pe_bl fun _ => .bl b
theorem xe_non {j pos} : XE X cl P (.Constant .none j pos) (xC .non) := xe_c pe_non fun _ => .non
theorem xe_str {x j pos} : XE X cl P (.Constant (.str x) j pos) (xC (.str x)) := xe_c pe_str fun _ => .str x
/-- a name of the module -/
theorem xe_glob {x : Str} {v : V} {u : Value} {d : D} {pos : Pos} (hm : X.mg x = some u) (r : RelV v u) (rp : ∀ B, Rep ⟨cl, X.K⟩ B v d) (hg : Gl X x := by rfl) (hd : (x == ("__debug__" : Str)) = false := by decide) : XE X cl P (.Name x pos) (xC d) :=
  xe_c (pe_glob hg hm r hd) rp

/-! ### two operands -/
def f2 (op : D → D → Option D) (f g : EF) : EF := fun ms => (f ms).bind fun a => (g a.2).bind fun b => (op (frz a.1) (frz b.1)).bind fun d => some (.p d, b.2)
def OpS (Y : Tx) (r : R2) (op : D → D → Option D) : Prop := ∀ (E : Ent) (T : List (V × M)) (σ : St) (ms : En) (H : Hp) (x y : V) (dx dy d : D) (Q : VK),
  Stt Y E ((y, .p dy) :: (x, .p dx) :: T) σ ms H → op dx dy = some d → (∀ z H', Stt Y E ((z, .p d) :: T) σ ms H' → Q z H') → r x y H Q
theorem Stt.frz2 {Y : Tx} {E : Ent} {T : List (V × M)} {σ : St} {ms : En} {H : Hp} {x y : V} {mx my : M} (s : Stt Y E ((y, my) :: (x, mx) :: T) σ ms H) : Stt Y E ((y, .p (Mh.frz my)) :: (x, .p (Mh.frz mx)) :: T) σ ms H :=
  (s.frz.swap.frz).swap
theorem f2_in {r : R2} {op : D → D → Option D} {f g : EF} {E : Ent} (hs : OpS ⟨cl, X.K⟩ r op) : ∀ σ H Q, tE ⟨cl, X.K⟩ E (f2 op f g) σ H Q → tOp r (tE ⟨cl, X.K⟩ E f) (tE ⟨cl, X.K⟩ E g) σ H Q := fun σ H Q ⟨T, ms, m, ms', s, e, k⟩ => by
  unfold f2 at e
  obtain ⟨a, e1, e⟩ := Option.bind_eq_some_iff.mp e
  obtain ⟨b, e2, e⟩ := Option.bind_eq_some_iff.mp e
  obtain ⟨d, e3, e⟩ := Option.bind_eq_some_iff.mp e
  cases e
  exact ⟨T, ms, a.1, a.2, s, e1, fun x H1 s1 => ⟨(x, a.1) :: T, a.2, b.1, b.2, s1, e2, fun y H2 s2 => hs E T σ b.2 H2 x y _ _ d Q s2.frz2 e3 k⟩⟩
theorem xe_bin {a b : Expr} {o : Operator} {pos : Pos} {r : R2} {op : D → D → Option D} {f g : EF} (ho : OpR X (binaryOp o) r) (hs : OpS ⟨cl, X.K⟩ r op) (ha : XE X cl P a f) (hb : XE X cl P b g) : XE X cl P (.BinOp a o b pos) (f2 op f g) := fun E hE =>
  PE.weak (pe_op ho (ha E hE) (hb E hE)) (f2_in hs)
theorem xe_cmp {a b : Expr} {o : CmpOp} {pos : Pos} {r : R2} {op : D → D → Option D} {f g : EF} (ho : OpR X (compareOp o) r) (hs : OpS ⟨cl, X.K⟩ r op) (ha : XE X cl P a f) (hb : XE X cl P b g)
    (hm : behindInMarks o b = false := by first | exact nomark _ | rfl) : XE X cl P (.Compare a [o] [b] pos) (f2 op f g) := fun E hE =>
  PE.weak (pe_cmpR ho (ha E hE) (hb E hE) hm) (f2_in hs)
/-- a value that is a bool, as a test -/
def fB (f : EF) : TF := fun ms => (f ms).bind fun a => match a.1 with | .p (.bl b) => some (b, a.2) | _ => none
theorem fB_some {f : EF} {ms ms' : En} {b : Bool} (h : fB f ms = some (b, ms')) : f ms = some (.p (.bl b), ms') := by
  unfold fB at h
  obtain ⟨a, e, h⟩ := Option.bind_eq_some_iff.mp h
  obtain ⟨m, n⟩ := a
  dsimp only at h
  split at h
  · cases h; exact e
  · cases h
theorem fB_in {f : EF} {E : Ent} {t : TE} (w : ∀ σ H Q, tE ⟨cl, X.K⟩ E f σ H Q → t σ H Q) : ∀ σ H Q, tT ⟨cl, X.K⟩ E (fB f) σ H Q → tTest t σ H Q := fun σ H Q ⟨T, ms, b, ms', s, e, k⟩ =>
  w σ H _ ⟨T, ms, _, _, s, fB_some e, fun v H' s' => ⟨b, by
    have q := s'.rep
    cases q; rfl, k H' s'.pop⟩⟩
theorem xt_cmp {a b : Expr} {o : CmpOp} {pos : Pos} {r : R2} {op : D → D → Option D} {f g : EF} (ho : OpR X (compareOp o) r) (hs : OpS ⟨cl, X.K⟩ r op) (ha : XE X cl P a f) (hb : XE X cl P b g)
    (hm : behindInMarks o b = false := by first | exact nomark _ | rfl) : XT X cl P (.Compare a [o] [b] pos) (fB (f2 op f g)) := fun E hE =>
  PT.weak (pt_cmpR ho (ha E hE) (hb E hE) hm) (fB_in (f2_in hs))
theorem xt_val {e : Expr} {f : EF} (h : XE X cl P e f) (he : ∀ whole, isTrue e X.env whole = (do let v ← whole; standAt e.pos; holding [v] (truthy v)) := by intro _; rfl) : XT X cl P e (fB f) := fun E hE =>
  PT.weak (pt_val (h E hE) he) fun σ H Q ⟨T, ms, b, ms', s, e, k⟩ => ⟨T, ms, _, _, s, fB_some e, fun v H' s' => ⟨b, by
    have q := s'.rep
    cases q; rfl, k H' s'.pop⟩⟩
/-- a op b op c -/
def f3 (op op' : D → D → Option D) (f g h : EF) : EF := fun ms => (f ms).bind fun a => (g a.2).bind fun b => (op (frz a.1) (frz b.1)).bind fun d => match d with
  | .bl true => (h b.2).bind fun c => (op' (frz b.1) (frz c.1)).bind fun d' => some (.p d', c.2)
  | .bl false => some (.p (.bl false), b.2)
  | _ => none
theorem f3_in {r r' : R2} {op op' : D → D → Option D} {f g h : EF} {E : Ent} (hs : OpS ⟨cl, X.K⟩ r op) (hs' : OpS ⟨cl, X.K⟩ r' op') :
    ∀ σ H Q, tE ⟨cl, X.K⟩ E (f3 op op' f g h) σ H Q → tChain r r' (tE ⟨cl, X.K⟩ E f) (tE ⟨cl, X.K⟩ E g) (tE ⟨cl, X.K⟩ E h) σ H Q := fun σ H Q ⟨T, ms, m, ms', s, e, k⟩ => by
  unfold f3 at e
  obtain ⟨a, e1, e⟩ := Option.bind_eq_some_iff.mp e
  obtain ⟨b, e2, e⟩ := Option.bind_eq_some_iff.mp e
  obtain ⟨d, e3, e⟩ := Option.bind_eq_some_iff.mp e
  refine ⟨T, ms, a.1, a.2, s, e1, fun x H1 s1 => ⟨(x, a.1) :: T, a.2, b.1, b.2, s1, e2, fun y H2 s2 => ?_⟩⟩
  have s3 : Stt ⟨cl, X.K⟩ E ((y, .p (frz b.1)) :: (y, .p (frz b.1)) :: (x, .p (frz a.1)) :: T) σ b.2 H2 := s2.frz2.of s2.frz2.rel.dup
  have s4 : Stt ⟨cl, X.K⟩ E ((y, .p (frz b.1)) :: (x, .p (frz a.1)) :: (y, .p (frz b.1)) :: T) σ b.2 H2 := s3.of (s3.rel.perm (List.Perm.cons _ (List.Perm.swap _ _ _)))
  refine hs E _ σ b.2 H2 x y _ _ d _ s4 e3 fun z H3 s5 => ?_
  cases d with
  | bl q =>
    have rz := s5.rep
    cases rz
    cases q with
    | false =>
      cases e
      refine ⟨false, rfl, ?_⟩
      rw [if_neg Bool.false_ne_true]
      exact k _ _ (s5.of (s5.rel.perm (List.Perm.swap _ _ _)).tail)
    | true =>
      obtain ⟨c, e4, e⟩ := Option.bind_eq_some_iff.mp e
      obtain ⟨d', e5, e⟩ := Option.bind_eq_some_iff.mp e
      cases e
      refine ⟨true, rfl, ?_⟩
      rw [if_pos rfl]
      exact ⟨_, b.2, c.1, c.2, s5.pop, e4, fun w H4 s6 => hs' E T σ c.2 H4 y w _ _ d' Q s6.frz e5 k⟩
  | _ => cases e
theorem xe_chain {a b c : Expr} {o o' : CmpOp} {pos : Pos} {r r' : R2} {op op' : D → D → Option D} {f g h : EF} (ho : OpR X (compareOp o) r) (ho' : OpR X (compareOp o') r') (hs : OpS ⟨cl, X.K⟩ r op) (hs' : OpS ⟨cl, X.K⟩ r' op')
    (ha : XE X cl P a f) (hb : XE X cl P b g) (hc : XE X cl P c h) (hm : lastMarks [o, o'] [b, c] = false := by with_unfolding_all rfl) : XE X cl P (.Compare a [o, o'] [b, c] pos) (f3 op op' f g h) := fun E hE =>
  PE.weak (pe_chain ho ho' (ha E hE) (hb E hE) (hc E hE) hm) (f3_in hs hs')
theorem xt_chain {a b c : Expr} {o o' : CmpOp} {pos : Pos} {r r' : R2} {op op' : D → D → Option D} {f g h : EF} (ho : OpR X (compareOp o) r) (ho' : OpR X (compareOp o') r') (hs : OpS ⟨cl, X.K⟩ r op) (hs' : OpS ⟨cl, X.K⟩ r' op')
    (ha : XE X cl P a f) (hb : XE X cl P b g) (hc : XE X cl P c h) (hm : lastMarks [o, o'] [b, c] = false := by with_unfolding_all rfl) : XT X cl P (.Compare a [o, o'] [b, c] pos) (fB (f3 op op' f g h)) := fun E hE =>
  PT.weak (pt_chain ho ho' (ha E hE) (hb E hE) (hc E hE) hm) (fB_in (f3_in hs hs'))

/-! ### and, or, not, if -/
def tfAnd (f g : TF) : TF := fun ms => (f ms).bind fun a => if a.1 = true then g a.2 else some (false, a.2)
def tfOr (f g : TF) : TF := fun ms => (f ms).bind fun a => if a.1 = true then some (true, a.2) else g a.2
def tfNot (f : TF) : TF := fun ms => (f ms).bind fun a => some (!a.1, a.2)
def XW (X : Cx) (cl : Nat → Addr) (P : List Nat) (e : Expr) (f : TF) : Prop := ∀ E : Ent, E.prot.map (·.1) = P → PW X e (tT ⟨cl, X.K⟩ E f)
theorem PW.weak {X : Cx} {e : Expr} {t t' : TT} (h : PW X e t) (w : ∀ σ H Q, t' σ H Q → t σ H Q) : PW X e t' := ⟨fun wh pins s σ H Q I q => h.run wh pins s σ H Q I (w σ H Q q)⟩
theorem xw_and1 {a : Expr} {pos : Pos} {f : TF} (ha : XT X cl P a f) : XW X cl P (.BoolOp .And [a] pos) f := fun E hE => pw_and1 (ha E hE)
theorem xw_or1 {a : Expr} {pos : Pos} {f : TF} (ha : XT X cl P a f) : XW X cl P (.BoolOp .Or [a] pos) f := fun E hE => pw_or1 (ha E hE)
theorem xw_and {a b : Expr} {rest : List Expr} {pos : Pos} {f g : TF} (ha : XT X cl P a f) (hb : XW X cl P (.BoolOp .And (b :: rest) pos) g) : XW X cl P (.BoolOp .And (a :: b :: rest) pos) (tfAnd f g) := fun E hE =>
  PW.weak (pw_and (ha E hE) (hb E hE)) fun σ H Q ⟨T, ms, c, ms', s, e, k⟩ => by
    unfold tfAnd at e
    obtain ⟨a, e1, e⟩ := Option.bind_eq_some_iff.mp e
    refine ⟨T, ms, a.1, a.2, s, e1, fun H1 s1 => ?_⟩
    by_cases h : a.1 = true
    · rw [if_pos h] at e ⊢; exact ⟨T, a.2, c, ms', s1, e, k⟩
    · rw [if_neg h] at e ⊢; cases e; exact k H1 s1
theorem xw_or {a b : Expr} {rest : List Expr} {pos : Pos} {f g : TF} (ha : XT X cl P a f) (hb : XW X cl P (.BoolOp .Or (b :: rest) pos) g) : XW X cl P (.BoolOp .Or (a :: b :: rest) pos) (tfOr f g) := fun E hE =>
  PW.weak (pw_or (ha E hE) (hb E hE)) fun σ H Q ⟨T, ms, c, ms', s, e, k⟩ => by
    unfold tfOr at e
    obtain ⟨a, e1, e⟩ := Option.bind_eq_some_iff.mp e
    refine ⟨T, ms, a.1, a.2, s, e1, fun H1 s1 => ?_⟩
    by_cases h : a.1 = true
    · rw [if_pos h] at e ⊢; cases e; exact k H1 s1
    · rw [if_neg h] at e ⊢; exact ⟨T, a.2, c, ms', s1, e, k⟩
theorem XW.xt {e : Expr} {f : TF} (h : XW X cl P e f) : XT X cl P e f := fun E hE => (h E hE).pt
theorem xt_not {a : Expr} {pos : Pos} {f : TF} (ha : XT X cl P a f) : XT X cl P (.UnaryOp .Not a pos) (tfNot f) := fun E hE =>
  PT.weak (pt_not (ha E hE)) fun σ H Q ⟨T, ms, c, ms', s, e, k⟩ => by
    unfold tfNot at e
    obtain ⟨a, e1, e⟩ := Option.bind_eq_some_iff.mp e
    cases e
    exact ⟨T, ms, a.1, a.2, s, e1, k⟩
/-- .. as values: all but the last one a bool -/
def xAnd (f g : EF) : EF := fun ms => (fB f ms).bind fun a => if a.1 = true then g a.2 else some (.p (.bl false), a.2)
def xOr (f g : EF) : EF := fun ms => (fB f ms).bind fun a => if a.1 = true then some (.p (.bl true), a.2) else g a.2
def xNot (f : EF) : EF := fun ms => (fB f ms).bind fun a => some (.p (.bl (!a.1)), a.2)
theorem xe_one {op} {a : Expr} {pos : Pos} {f : EF} (h : XE X cl P a f) : XE X cl P (.BoolOp op [a] pos) f := fun E hE => pe_one (h E hE)
theorem xe_and {a b : Expr} {rest : List Expr} {pos : Pos} {f g : EF} (ha : XE X cl P a f) (hb : XE X cl P (.BoolOp .And (b :: rest) pos) g) : XE X cl P (.BoolOp .And (a :: b :: rest) pos) (xAnd f g) := fun E hE =>
  PE.weak (pe_and (ha E hE) (hb E hE)) fun σ H Q ⟨T, ms, c, ms', s, e, k⟩ => by
    unfold xAnd at e
    obtain ⟨a, e1, e⟩ := Option.bind_eq_some_iff.mp e
    refine ⟨T, ms, _, a.2, s, fB_some (b := a.1) e1, fun v H1 s1 => ?_⟩
    have r := s1.rep
    generalize a.1 = q at *
    cases r
    refine ⟨q, rfl, ?_⟩
    by_cases h : q = true
    · rw [if_pos h] at e ⊢; exact ⟨T, a.2, c, ms', s1.pop, e, k⟩
    · rw [if_neg h] at e ⊢
      cases e
      have h' : q = false := by simpa using h
      subst h'
      exact k _ H1 s1
theorem xe_or {a b : Expr} {rest : List Expr} {pos : Pos} {f g : EF} (ha : XE X cl P a f) (hb : XE X cl P (.BoolOp .Or (b :: rest) pos) g) : XE X cl P (.BoolOp .Or (a :: b :: rest) pos) (xOr f g) := fun E hE =>
  PE.weak (pe_or (ha E hE) (hb E hE)) fun σ H Q ⟨T, ms, c, ms', s, e, k⟩ => by
    unfold xOr at e
    obtain ⟨a, e1, e⟩ := Option.bind_eq_some_iff.mp e
    refine ⟨T, ms, _, a.2, s, fB_some (b := a.1) e1, fun v H1 s1 => ?_⟩
    have r := s1.rep
    generalize a.1 = q at *
    cases r
    refine ⟨q, rfl, ?_⟩
    by_cases h : q = true
    · rw [if_pos h] at e ⊢; subst h; cases e; exact k _ H1 s1
    · rw [if_neg h] at e ⊢; exact ⟨T, a.2, c, ms', s1.pop, e, k⟩
theorem xe_not {a : Expr} {pos : Pos} {f : EF} (ha : XE X cl P a f) : XE X cl P (.UnaryOp .Not a pos) (xNot f) := fun E hE =>
  PE.weak (pe_not (ha E hE)) fun σ H Q ⟨T, ms, c, ms', s, e, k⟩ => by
    unfold xNot at e
    obtain ⟨a, e1, e⟩ := Option.bind_eq_some_iff.mp e
    cases e
    refine ⟨T, ms, _, a.2, s, fB_some (b := a.1) e1, fun v H1 s1 => ?_⟩
    have r := s1.rep
    generalize a.1 = q at *
    cases r
    exact ⟨q, rfl, k _ _ (s1.pop.scal fun _ => .bl _)⟩
def xIf (c : TF) (f g : EF) : EF := fun ms => (c ms).bind fun a => if a.1 = true then f a.2 else g a.2
theorem xe_if {c a b : Expr} {pos : Pos} {t : TF} {f g : EF} (hc : XT X cl P c t) (ha : XE X cl P a f) (hb : XE X cl P b g) : XE X cl P (.IfExp c a b pos) (xIf t f g) := fun E hE =>
  PE.weak (pe_ifExp (hc E hE) (ha E hE) (hb E hE)) fun σ H Q ⟨T, ms, m, ms', s, e, k⟩ => by
    unfold xIf at e
    obtain ⟨a, e1, e⟩ := Option.bind_eq_some_iff.mp e
    refine ⟨T, ms, a.1, a.2, s, e1, fun H1 s1 => ?_⟩
    by_cases h : a.1 = true
    · rw [if_pos h] at e ⊢; exact ⟨T, a.2, m, ms', s1, e, k⟩
    · rw [if_neg h] at e ⊢; exact ⟨T, a.2, m, ms', s1, e, k⟩
end
end Mh
namespace Mh
open PySem L2
section
variable {Y : Tx} {B H : Hp} {v : V} {d : D}
theorem Rep.int_of {i : Int} (r : Rep Y B v (.int i)) : v = .int i := by cases r; rfl
theorem Rep.str_of {i : Str} (r : Rep Y B v (.str i)) : v = .str i := by cases r; rfl
theorem Rep.bl_of {i : Bool} (r : Rep Y B v (.bl i)) : v = .bl i := by cases r; rfl
theorem Rep.cls_of {c : Nat} (r : Rep Y B v (.cls c)) : v = .ref (Y.cl c) := by cases r; rfl
theorem Rep.non_of (r : Rep Y B v .non) : v = .non := by cases r; rfl
theorem Rep.tup_of {ds : List D} (r : Rep Y B v (.tup ds)) : ∃ a vs, v = .ref a ∧ SqT Y.K B a vs ∧ RepL Y B vs ds := by cases r with | tup h q => exact ⟨_, _, rfl, h, q⟩
theorem Rep.lst_of {ds : List D} (r : Rep Y B v (.lst ds)) : ∃ a vs, v = .ref a ∧ SqL Y.K B a vs ∧ RepL Y B vs ds := by cases r with | lst h q => exact ⟨_, _, rfl, h, q⟩
theorem Rep.dct_of {ds : List (Key × D)} (r : Rep Y B v (.dct ds)) : ∃ a vs, v = .ref a ∧ Rd B a (.dK vs) ∧ RepK Y B vs ds := by cases r with | dct h q => exact ⟨_, _, rfl, h, q⟩
theorem Rep.obj_of {c : Nat} {fs : List (Str × D)} (r : Rep Y B v (.obj c fs)) : ∃ a dx vs, v = .ref a ∧ B a = some (.ins (Y.cl c) dx vs) ∧ RepF Y B vs fs := by cases r with | obj h q => exact ⟨_, _, _, rfl, h, q⟩
theorem RepL.len {vs : List V} {ds : List D} (r : RepL Y B vs ds) : vs.length = ds.length := by
  induction ds generalizing vs with
  | nil => cases r; rfl
  | cons d ds ih => cases r with | cons _ q => simp [ih q]
theorem RepL.get {vs : List V} {ds : List D} (r : RepL Y B vs ds) : ∀ (i : Nat) (d : D), ds[i]? = some d → ∃ v, vs[i]? = some v ∧ Rep Y B v d := by
  induction ds generalizing vs with
  | nil => intro i d h; simp at h
  | cons e ds ih =>
    intro i d h
    cases r with
    | cons q1 q2 =>
      cases i with
      | zero => simp at h; subst h; exact ⟨_, rfl, q1⟩
      | succ i => exact ih q2 i d (by simpa using h)
theorem RepL.getv {vs : List V} {ds : List D} (r : RepL Y B vs ds) : ∀ (i : Nat) (v : V), vs[i]? = some v → ∃ d, ds[i]? = some d ∧ Rep Y B v d := by
  induction ds generalizing vs with
  | nil => cases r; intro i v h; simp at h
  | cons e ds ih =>
    intro i v h
    cases r with
    | cons q1 q2 =>
      cases i with
      | zero => simp at h; subst h; exact ⟨_, rfl, q1⟩
      | succ i => exact ih q2 i v (by simpa using h)
theorem RepL.app : ∀ {vs ws : List V} {ds es : List D}, RepL Y B vs ds → RepL Y B ws es → RepL Y B (vs ++ ws) (ds ++ es)
  | _, _, _, _, .nil, h => h
  | _, _, _, _, .cons a r, h => .cons a (RepL.app r h)
theorem RepL.one (r : Rep Y B v d) : RepL Y B [v] [d] := .cons r .nil
theorem RepL.strs : ∀ {vs : List V} {xs : List Str}, RepL Y B vs (xs.map D.str) → vs = xs.map V.str
  | _, [], .nil => rfl
  | _, x :: xs, .cons a r => by rw [Rep.str_of a, RepL.strs r]; rfl
theorem RepL.of_strs : ∀ (xs : List Str), RepL Y B (xs.map V.str) (xs.map D.str)
  | [] => .nil
  | x :: xs => .cons (.str x) (RepL.of_strs xs)
theorem RepL.of_ints : ∀ (xs : List Int), RepL Y B (xs.map V.int) (xs.map D.int)
  | [] => .nil
  | x :: xs => .cons (.int x) (RepL.of_ints xs)
theorem RepL.take : ∀ {vs : List V} {ds : List D} (n : Nat), RepL Y B vs ds → RepL Y B (vs.take n) (ds.take n)
  | _, _, 0, _ => .nil
  | _, _, _ + 1, .nil => .nil
  | _, _, n + 1, .cons a r => .cons a (RepL.take n r)
theorem RepL.drop : ∀ {vs : List V} {ds : List D} (n : Nat), RepL Y B vs ds → RepL Y B (vs.drop n) (ds.drop n)
  | _, _, 0, r => r
  | _, _, _ + 1, .nil => .nil
  | _, _, n + 1, .cons a r => RepL.drop n r
theorem RepL.set : ∀ {vs : List V} {ds : List D} (n : Nat) {v : V} {d : D}, RepL Y B vs ds → Rep Y B v d → RepL Y B (vs.set n v) (ds.set n d)
  | _, _, _, _, _, .nil, _ => .nil
  | _, _, 0, _, _, .cons _ r, h => .cons h r
  | _, _, n + 1, _, _, .cons a r, h => .cons a (RepL.set n r h)
theorem RepL.erase : ∀ {vs : List V} {ds : List D} (n : Nat), RepL Y B vs ds → RepL Y B (vs.eraseIdx n) (ds.eraseIdx n)
  | _, _, _, .nil => .nil
  | _, _, 0, .cons _ r => r
  | _, _, n + 1, .cons a r => .cons a (RepL.erase n r)
end

/-! ### operators -/
def dII (g : Int → Int → Option D) : D → D → Option D
  | .int i, .int j => g i j
  | _, _ => none
theorem ops_II {Y : Tx} {r : R2} {g : Int → Int → Option D} {C : Int → Int → Prop} {gv : Int → Int → V} (hg : ∀ i j d, g i j = some d → C i j ∧ ∀ B, Rep Y B (gv i j) d)
    (hr : ∀ i j H (Q : VK), C i j → Q (gv i j) H → r (.int i) (.int j) H Q) : OpS Y r (dII g) := by
  intro E T σ ms H x y dx dy d Q s e k
  unfold dII at e
  split at e
  · have ry := s.rep.int_of
    have rx := s.pop.rep.int_of
    subst ry rx
    obtain ⟨c, rp⟩ := hg _ _ _ e
    exact hr _ _ H Q c (k _ _ (s.pop.pop.scal rp))
  · cases e
def gI (f : Int → Int → Int) : Int → Int → Option D := fun i j => some (.int (f i j))
def gIc (C : Int → Int → Prop) [∀ i j, Decidable (C i j)] (f : Int → Int → Int) : Int → Int → Option D := fun i j => if C i j then some (.int (f i j)) else none
def gB (f : Int → Int → Bool) : Int → Int → Option D := fun i j => some (.bl (f i j))
instance (i j : Int) : Decidable (CMul i j) := inferInstanceAs (Decidable (_ ∨ _))
instance (i j : Int) : Decidable (CDiv i j) := inferInstanceAs (Decidable (_ ∧ _))
instance (i j : Int) : Decidable (CPow i j) := inferInstanceAs (Decidable (_ ∧ _))
theorem ops_I {Y : Tx} {f : Int → Int → Int} : OpS Y (rI0 fun i j => .int (f i j)) (dII (gI f)) :=
  ops_II (C := fun _ _ => True) (gv := fun i j => .int (f i j)) (fun i j d h => by cases h; exact ⟨trivial, fun _ => .int _⟩) fun i j H Q _ q => ⟨i, j, rfl, rfl, q⟩
theorem ops_Ic {Y : Tx} {C : Int → Int → Prop} [∀ i j, Decidable (C i j)] {f : Int → Int → Int} : OpS Y (rI C fun i j => .int (f i j)) (dII (gIc C f)) :=
  ops_II (C := C) (gv := fun i j => .int (f i j)) (fun i j d h => by
    unfold gIc at h
    split at h
    · rename_i c; cases h; exact ⟨c, fun _ => .int _⟩
    · cases h) fun i j H Q c q => ⟨i, j, rfl, rfl, c, q⟩
theorem ops_B {Y : Tx} {f : Int → Int → Bool} : OpS Y (rI0 fun i j => .bl (f i j)) (dII (gB f)) :=
  ops_II (C := fun _ _ => True) (gv := fun i j => .bl (f i j)) (fun i j d h => by cases h; exact ⟨trivial, fun _ => .bl _⟩) fun i j H Q _ q => ⟨i, j, rfl, rfl, q⟩
abbrev dAdd := dII (gI fun i j => i + j)
abbrev dSub := dII (gI fun i j => i - j)
abbrev dMul := dII (gIc CMul fun i j => i * j)
abbrev dDiv := dII (gIc CDiv fun i j => i / j)
abbrev dMod := dII (gIc (fun _ j => 0 < j) fun i j => i % j)
abbrev dPow := dII (gIc CPow fun i j => i ^ j.toNat)
abbrev dLt := dII (gB fun i j => decide (i < j))
abbrev dLe := dII (gB fun i j => decide (i ≤ j))
abbrev dGt := dII (gB fun i j => decide (j < i))
abbrev dGe := dII (gB fun i j => decide (j ≤ i))
def dAddS : D → D → Option D
  | .str i, .str j => if i.length + j.length ≤ sizeLine then some (.str (i ++ j)) else none
  | _, _ => none
def rAddS2 : R2 := fun x y H Q => ∃ i j, x = .str i ∧ y = .str j ∧ i.length + j.length ≤ sizeLine ∧ Q (.str (i ++ j)) H
theorem ops_AddS {Y : Tx} : OpS Y rAddS2 dAddS := by
  intro E T σ ms H x y dx dy d Q s e k
  unfold dAddS at e
  split at e
  · have ry := s.rep.str_of
    have rx := s.pop.rep.str_of
    subst ry rx
    split at e
    · rename_i h; cases e
      exact ⟨_, _, rfl, rfl, h, k _ _ (s.pop.pop.scal fun _ => .str _)⟩
    · cases e
  · cases e
/-- one sign (or a text) within a text -/
def inS (i j : Str) : Bool := !(Builtin.Str.occurrences j i 0 j.length 1).isEmpty
def dInS (neg : Bool) : D → D → Option D
  | .str i, .str j => some (.bl (if neg then !inS i j else inS i j))
  | _, _ => none
def rInS2 : R2 := fun x y H Q => ∃ i j, x = .str i ∧ y = .str j ∧ Q (.bl (!(Builtin.Str.occurrences j i 0 j.length 1).isEmpty)) H
def rNotInS2 : R2 := fun x y H Q => ∃ i j, x = .str i ∧ y = .str j ∧ Q (.bl (!(!(Builtin.Str.occurrences j i 0 j.length 1).isEmpty))) H
theorem ops_inS {Y : Tx} : OpS Y rInS2 (dInS false) := by
  intro E T σ ms H x y dx dy d Q s e k
  unfold dInS at e
  split at e
  · have ry := s.rep.str_of
    have rx := s.pop.rep.str_of
    subst ry rx
    cases e
    exact ⟨_, _, rfl, rfl, k _ _ (s.pop.pop.scal fun _ => .bl _)⟩
  · cases e
theorem ops_notInS {Y : Tx} : OpS Y rNotInS2 (dInS true) := by
  intro E T σ ms H x y dx dy d Q s e k
  unfold dInS at e
  split at e
  · have ry := s.rep.str_of
    have rx := s.pop.rep.str_of
    subst ry rx
    cases e
    exact ⟨_, _, rfl, rfl, k _ _ (s.pop.pop.scal fun _ => .bl _)⟩
  · cases e
/-- is None -/
def dIsN (neg : Bool) : D → D → Option D
  | .raw _, _ => none
  | .fact _ _, _ => none
  | .non, .non => some (.bl (!neg))
  | _, .non => some (.bl neg)
  | _, _ => none
def rIsN2 : R2 := fun x y H Q => y = .non ∧ Q (.bl (decide (x = .non))) H
def rNotN2 : R2 := fun x y H Q => y = .non ∧ Q (.bl (!decide (x = .non))) H
theorem isN_rep {Y : Tx} {B : Hp} {v : V} {d b : D} {neg : Bool} (r : Rep Y B v d) (h : dIsN neg d .non = some b) : b = .bl (if neg then !decide (v = .non) else decide (v = .non)) := by
  cases r <;> cases neg <;> simp_all [dIsN]
theorem isN_snd {d e b : D} {neg : Bool} (h : dIsN neg d e = some b) : e = .non := by
  unfold dIsN at h
  split at h <;> first | rfl | cases h
theorem ops_isN {Y : Tx} : OpS Y rIsN2 (dIsN false) := by
  intro E T σ ms H x y dx dy d Q s e k
  have e1 := isN_snd e
  subst e1
  have r := s.pop.rep
  have e2 := isN_rep r e
  rw [if_neg Bool.false_ne_true] at e2
  subst e2
  exact ⟨s.rep.non_of, k _ _ (s.pop.pop.scal fun _ => .bl _)⟩
theorem ops_notN {Y : Tx} : OpS Y rNotN2 (dIsN true) := by
  intro E T σ ms H x y dx dy d Q s e k
  have e1 := isN_snd e
  subst e1
  have r := s.pop.rep
  have e2 := isN_rep r e
  rw [if_pos rfl] at e2
  subst e2
  exact ⟨s.rep.non_of, k _ _ (s.pop.pop.scal fun _ => .bl _)⟩
/-! ### == -/
mutual
def toPD : D → Option PyData
  | .non => some .none
  | .bl b => some (.bool b)
  | .int i => some (.int i)
  | .str x => some (.str x)
  | .tup ds => (toPDs ds).map .tuple
  | .lst ds => (toPDs ds).map .list
  | .raw _ => none
  | .dct _ => none
  | .obj _ _ => none
  | .fact _ _ => none
  | .cls _ => none
def toPDs : List D → Option (List PyData)
  | [] => some []
  | d :: ds => (toPD d).bind fun x => (toPDs ds).map fun xs => x :: xs
end
mutual
theorem Rep.dp {Y : Tx} {B : Hp} : ∀ {d : D} {v : V} {x : PyData}, Rep Y B v d → toPD d = some x → Dp Y.K B v x
  | .non, _, _, r, e => by cases r; simp [toPD] at e; subst e; exact .non
  | .bl b, _, _, r, e => by cases r; simp [toPD] at e; subst e; exact .bl b
  | .int b, _, _, r, e => by cases r; simp [toPD] at e; subst e; exact .int b
  | .str b, _, _, r, e => by cases r; simp [toPD] at e; subst e; exact .str b
  | .tup ds, _, _, r, e => by
    cases r with
    | tup h q =>
      simp only [toPD, Option.map_eq_some_iff] at e
      obtain ⟨xs, e1, rfl⟩ := e
      exact .tup h (RepL.dp q e1)
  | .lst ds, _, _, r, e => by
    cases r with
    | lst h q =>
      simp only [toPD, Option.map_eq_some_iff] at e
      obtain ⟨xs, e1, rfl⟩ := e
      exact .lst h (RepL.dp q e1)
  | .raw _, _, _, _, e => by simp [toPD] at e
  | .dct _, _, _, _, e => by simp [toPD] at e
  | .obj _ _, _, _, _, e => by simp [toPD] at e
  | .fact _ _, _, _, _, e => by simp [toPD] at e
  | .cls _, _, _, _, e => by simp [toPD] at e
theorem RepL.dp {Y : Tx} {B : Hp} : ∀ {ds : List D} {vs : List V} {xs : List PyData}, RepL Y B vs ds → toPDs ds = some xs → DpAll Y.K B vs xs
  | [], _, _, r, e => by cases r; simp [toPDs] at e; subst e; exact .nil
  | d :: ds, _, _, r, e => by
    cases r with
    | cons h q =>
      simp only [toPDs, Option.bind_eq_some_iff, Option.map_eq_some_iff] at e
      obtain ⟨x, e1, xs, e2, rfl⟩ := e
      exact .cons (Rep.dp h e1) (RepL.dp q e2)
end
def flatD : D → Option V
  | .non => some .non
  | .bl b => some (.bl b)
  | .int i => some (.int i)
  | .str x => some (.str x)
  | _ => none
theorem Rep.flat {Y : Tx} {B : Hp} {v w : V} {d : D} (r : Rep Y B v d) (h : flatD d = some w) : v = w ∧ flatV w = true := by
  cases r <;> simp [flatD] at h <;> subst h <;> exact ⟨rfl, rfl⟩
/-- ==: none where the rules do not reach -/
def eqS (x y : D) : Option Bool := (flatD x).bind fun v => (flatD y).bind fun w => if scal v w = true then some (decide (v = w)) else none
def eqO (x y : D) : Option Bool := (toPD x).bind fun a => (toPD y).bind fun b => if SeqAt.shaped a = true ∧ SeqAt.shaped b = true then some (PyData.eqv a b) else none
def eqB (x y : D) : Option Bool := match eqS x y with
  | some b => some b
  | none => eqO x y
def dEq (neg : Bool) (x y : D) : Option D := (eqB x y).map fun b => .bl (if neg then !b else b)
def rEqA (K : PySem.W.Frag) : R2 := fun x y H Q => rEq x y H Q ∨ rEqD K x y H Q
def rNeA (K : PySem.W.Frag) : R2 := fun x y H Q => rNe x y H Q ∨ rNeD K x y H Q
theorem op_eqA {X : Cx} (hu : X.A.units + 64 < cLine) : OpR X (compareOp .Eq) (rEqA X.K) := op_eq.or (op_eqD hu)
theorem op_neA {X : Cx} (hu : X.A.units + 64 < cLine) : OpR X (compareOp .NotEq) (rNeA X.K) := op_ne.or (op_neD hu)
theorem eqS_ok {Y : Tx} {B : Hp} {x y : V} {dx dy : D} {b : Bool} (rx : Rep Y B x dx) (ry : Rep Y B y dy) (h : eqS dx dy = some b) : scal x y = true ∧ b = decide (x = y) := by
  unfold eqS at h
  obtain ⟨v, e1, h⟩ := Option.bind_eq_some_iff.mp h
  obtain ⟨w, e2, h⟩ := Option.bind_eq_some_iff.mp h
  obtain ⟨rfl, _⟩ := rx.flat e1
  obtain ⟨rfl, _⟩ := ry.flat e2
  split at h
  · rename_i hs; cases h; exact ⟨hs, rfl⟩
  · cases h
theorem ops_eq {Y : Tx} : OpS Y (rEqA Y.K) (dEq false) := by
  intro E T σ ms H x y dx dy d Q s e k
  simp only [dEq, Option.map_eq_some_iff] at e
  obtain ⟨b, e, rfl⟩ := e
  unfold eqB at e
  split at e
  · rename_i b' hb
    cases e
    obtain ⟨hs, rfl⟩ := eqS_ok s.pop.rep s.rep hb
    exact .inl ⟨hs, k _ _ (s.pop.pop.scal fun _ => .bl _)⟩
  · simp only [eqO, Option.bind_eq_some_iff] at e
    obtain ⟨a, e1, c, e2, e3⟩ := e
    split at e3
    · rename_i h
      cases e3
      exact .inr ⟨a, c, s.pop.rep.dp e1, s.rep.dp e2, h.1, h.2, k _ _ (s.pop.pop.scal fun _ => .bl _)⟩
    · cases e3
theorem ops_ne {Y : Tx} : OpS Y (rNeA Y.K) (dEq true) := by
  intro E T σ ms H x y dx dy d Q s e k
  simp only [dEq, Option.map_eq_some_iff] at e
  obtain ⟨b, e, rfl⟩ := e
  unfold eqB at e
  split at e
  · rename_i b' hb
    cases e
    obtain ⟨hs, rfl⟩ := eqS_ok s.pop.rep s.rep hb
    exact .inl ⟨hs, k _ _ (s.pop.pop.scal fun _ => .bl _)⟩
  · simp only [eqO, Option.bind_eq_some_iff] at e
    obtain ⟨a, e1, c, e2, e3⟩ := e
    split at e3
    · rename_i h
      cases e3
      exact .inr ⟨a, c, s.pop.rep.dp e1, s.rep.dp e2, h.1, h.2, k _ _ (s.pop.pop.scal fun _ => .bl _)⟩
    · cases e3
/-! ### x in a list or tuple of flat things -/
theorem RepL.flat {Y : Tx} {B : Hp} : ∀ {ds : List D} {vs ws : List V}, RepL Y B vs ds → ds.mapM flatD = some ws → vs = ws ∧ ws.all flatV = true
  | [], _, _, .nil, e => by simp at e; subst e; exact ⟨rfl, rfl⟩
  | d :: ds, _, _, .cons r q, e => by
    simp only [List.mapM_cons, Option.bind_eq_bind, Option.bind_eq_some_iff, Option.pure_def, Option.some.injEq] at e
    obtain ⟨x, e1, xs, e2, rfl⟩ := e
    obtain ⟨h1, h2⟩ := r.flat e1
    obtain ⟨h3, h4⟩ := RepL.flat q e2
    exact ⟨by rw [h1, h3], by simp [h2, h4]⟩
def seqD : D → Option (List D)
  | .tup ds => some ds
  | .lst ds => some ds
  | _ => none
def dIn (neg : Bool) (x y : D) : Option D := (flatD x).bind fun v => (seqD y).bind fun ds => (ds.mapM flatD).map fun vs => .bl (if neg then !inV v vs else inV v vs)
theorem ops_in {Y : Tx} {neg : Bool} : OpS Y (rIn Y.K neg) (dIn neg) := by
  intro E T σ ms H x y dx dy d Q s e k
  simp only [dIn, Option.map_eq_some_iff, Option.bind_eq_some_iff] at e
  obtain ⟨v, e1, ds, e2, vs, e3, rfl⟩ := e
  obtain ⟨h1, h2⟩ := s.pop.rep.flat e1
  subst h1
  have ry := s.rep
  unfold seqD at e2
  split at e2
  · cases e2
    obtain ⟨a, us, rfl, hs, q⟩ := ry.tup_of
    obtain ⟨h3, h4⟩ := q.flat e3
    subst h3
    exact ⟨a, us, rfl, .inr hs, h2, h4, k _ _ (s.pop.pop.scal fun _ => .bl _)⟩
  · cases e2
    obtain ⟨a, us, rfl, hs, q⟩ := ry.lst_of
    obtain ⟨h3, h4⟩ := q.flat e3
    subst h3
    exact ⟨a, us, rfl, .inl hs, h2, h4, k _ _ (s.pop.pop.scal fun _ => .bl _)⟩
  · cases e2
end Mh
namespace Mh
open PySem L2

/-! ### argument lists -/
def aN : AF := fun ms => some ([], ms)
def aC (f : EF) (g : AF) : AF := fun ms => (f ms).bind fun a => (g a.2).bind fun b => some (a.1 :: b.1, b.2)
theorem tmps_perm : ∀ (vs : List V) (ms : List M) (T : List (V × M)), (tmps vs ms T).Perm (vs.zip ms ++ T)
  | [], _, T => by simp [tmps]
  | _ :: _, [], T => by simp [tmps]
  | v :: vs, m :: ms, T => by
    show (tmps vs ms ((v, m) :: T)).Perm _
    refine (tmps_perm vs ms ((v, m) :: T)).trans ?_
    rw [List.zip_cons_cons, List.cons_append]
    exact List.perm_middle
section
variable {Y : Tx} {E : Ent} {H : Hp} {T : List (V × M)} {σ : St} {ms : En} {L : List (V × M)}
theorem Rel.frzAll : ∀ {vs : List V} {ks : List M} {L : List (V × M)}, Rel Y E (vs.zip ks ++ L) H → Rel Y E (vs.zip (ks.map fun m => .p (Mh.frz m)) ++ L) H
  | [], _, L, h => by simpa using h
  | _ :: _, [], L, h => by simpa using h
  | v :: vs, m :: ks, L, h => by
    rw [List.zip_cons_cons, List.cons_append] at h
    have h1 : Rel Y E (vs.zip ks ++ ((v, .p (Mh.frz m)) :: L)) H := h.freeze.perm List.perm_middle.symm
    have h2 := Rel.frzAll h1
    rw [List.map_cons, List.zip_cons_cons, List.cons_append]
    exact h2.perm List.perm_middle
theorem Stt.args {vs : List V} {ks : List M} (s : Stt Y E (tmps vs ks T) σ ms H) : Stt Y E (vs.zip ks ++ T) σ ms H := s.of (s.rel.perm ((tmps_perm vs ks T).append_right _))
theorem Stt.argsF {vs : List V} {ks : List M} (s : Stt Y E (tmps vs ks T) σ ms H) : Stt Y E (vs.zip ((ks.map Mh.frz).map .p) ++ T) σ ms H := by
  have a := s.args
  refine a.of ?_
  rw [List.map_map, List.append_assoc]
  have r := a.rel
  rw [List.append_assoc] at r
  exact Rel.frzAll r
/-- what is pure of the temporaries, with one base -/
theorem Stt.pure (s : Stt Y E T σ ms H) : ∃ B, Ex B H ∧ (∀ v d, (v, M.p d) ∈ T → Rep Y B v d) ∧ (∀ v d, Rep Y B v d → Stt Y E ((v, .p d) :: T) σ ms H) ∧
    (∀ p vs ds, H p = none → RepL Y B vs ds → Stt Y E ((.ref p, .p (.tup ds)) :: T) σ ms (upd H p (.tup vs))) ∧
    (∀ p vs ds, H p = none → RepL Y B vs ds → Stt Y E ((.ref p, .l ds) :: T) σ ms (upd H p (.lst vs))) ∧
    (∀ p vs ds, H p = none → RepK Y B vs ds → Stt Y E ((.ref p, .dk ds) :: T) σ ms (upd H p (.dK vs))) ∧
    (∀ p o, H p = none → Stt Y E T σ ms (upd H p o)) := by
  obtain ⟨B, fp, r⟩ := s.rel
  obtain ⟨_, e, q, _⟩ := (s.rel).pure
  refine ⟨B, r.grow.sub, fun v d hm => ?_, fun v d q => s.of (r.push q).rel, fun p vs ds hp q => s.of ((r.allocB hp).push (.tup (.inl (.inl upd_same)) (q.mono (Ex.new (r.bnone hp)).le))).rel,
    fun p vs ds hp q => s.of (r.allocO hp fun H' e' _ => .l e' q).rel, fun p vs ds hp q => s.of (r.allocO hp fun H' e' _ => .dk e' q).rel, fun p o hp => s.of (r.alloc hp).rel⟩
  have key : ∀ {L : List (V × M)} {fp : List Addr}, Sep Y B H L fp → (v, M.p d) ∈ L → Rep Y B v d := by
    intro L fp s
    induction s with
    | nil => intro h; cases h
    | cons r s ih =>
      intro h
      rcases List.mem_cons.mp h with e | h
      · cases e
        cases r with
        | p r => exact r
      · exact ih h
  exact key r.sep (List.mem_append_left _ hm)
theorem repL_zip {B : Hp} : ∀ {vs : List V} {ds : List D}, vs.length = ds.length → (∀ v d, (v, M.p d) ∈ vs.zip (ds.map .p) → Rep Y B v d) → RepL Y B vs ds
  | [], [], _, _ => .nil
  | [], _ :: _, h, _ => by cases h
  | _ :: _, [], h, _ => by cases h
  | v :: vs, d :: ds, h, k => .cons (k v d (by simp)) (repL_zip (by simpa using h) fun u e hm => k u e (by
    rw [List.map_cons, List.zip_cons_cons]
    exact List.mem_cons_of_mem _ hm))
theorem Stt.popsZ {vs : List V} {ks : List M} (s : Stt Y E (vs.zip ks ++ T) σ ms H) : Stt Y E T σ ms H := s.pops
/-- drop the second block -/
theorem Stt.under {x : V × M} {A : List (V × M)} (s : Stt Y E (x :: (A ++ T)) σ ms H) : Stt Y E (x :: T) σ ms H := by
  induction A with
  | nil => exact s
  | cons a A ih =>
    refine ih ?_
    exact (s.swap).pop
end
/-- a call's reading, with frozen arguments -/
def CaS (Y : Tx) (r : List V → Hp → VK → Prop) (op : List D → Option M) : Prop := ∀ (E : Ent) (T : List (V × M)) (σ : St) (ms : En) (H : Hp) (vs : List V) (ds : List D) (m : M) (Q : VK),
  vs.length = ds.length → Stt Y E (vs.zip (ds.map .p) ++ T) σ ms H → op ds = some m → (∀ z H', Stt Y E ((z, m) :: T) σ ms H' → Q z H') → r vs H Q
def xCall (op : List D → Option M) (a : AF) : EF := fun ms => (a ms).bind fun l => (op (l.1.map frz)).bind fun m => some (m, l.2)
section
variable {X : Cx} {cl : Nat → Addr} {P : List Nat}
theorem xa_nil : XA X cl P [] aN := fun E _ => PA.weak pa_nil fun σ H Q ⟨T, ms, m, ms', s, e, k⟩ => by cases e; exact k [] H rfl s
theorem xa_cons {e : Expr} {es : List Expr} {f : EF} {g : AF} (ha : XE X cl P e f) (hr : XA X cl P es g) (hs : starEach (e :: es) X.env = (false, eval e X.env) :: starEach es X.env := by rfl) : XA X cl P (e :: es) (aC f g) := fun E hE =>
  PA.weak (pa_cons (ha E hE) (hr E hE) hs) fun σ H Q ⟨T, ms, m, ms', s, e, k⟩ => by
    unfold aC at e
    obtain ⟨a, e1, e⟩ := Option.bind_eq_some_iff.mp e
    obtain ⟨b, e2, e⟩ := Option.bind_eq_some_iff.mp e
    cases e
    exact ⟨T, ms, a.1, a.2, s, e1, fun x H1 s1 => ⟨(x, a.1) :: T, a.2, b.1, b.2, s1, e2, fun vs H2 hl s2 => k (x :: vs) H2 (by simp [hl]) s2⟩⟩
theorem xCall_in {E : Ent} {r : List V → Hp → VK → Prop} {op : List D → Option M} {a : AF} (hs : CaS ⟨cl, X.K⟩ r op) : ∀ σ H Q, tE ⟨cl, X.K⟩ E (xCall op a) σ H Q → tCB r (tA ⟨cl, X.K⟩ E a) σ H Q := fun σ H Q ⟨T, ms, m, ms', s, e, k⟩ => by
  unfold xCall at e
  obtain ⟨l, e1, e⟩ := Option.bind_eq_some_iff.mp e
  obtain ⟨n, e2, e⟩ := Option.bind_eq_some_iff.mp e
  cases e
  exact ⟨T, ms, l.1, l.2, s, e1, fun vs H1 hl s1 => hs E T σ l.2 H1 vs (l.1.map frz) _ Q (by simpa using hl) s1.argsF e2 k⟩
theorem xe_callB {x : Str} {p pos : Pos} {id : String} {e : Expr} {es : List Expr} {r : List V → Hp → VK → Prop} {op : List D → Option M} {a : AF} (hc : CallR X (.builtin id) r) (hs : CaS ⟨cl, X.K⟩ r op) (hm : X.mg x = none) (ha : XA X cl P (e :: es) a)
    (hg : Gl X x := by rfl) (hv : bootBuiltins x = some (.builtin id) := by decide +kernel) (hn : x ≠ "__name__" := by decide) (hdb : (x == ("__debug__" : Str)) = false := by decide)
    (he : starEach (e :: es) X.env = (false, eval e X.env) :: starEach es X.env := by rfl) (hpl : (backTo pos (starEach es X.env)).any (·.1) = false := by rfl) : XE X cl P (.Call (.Name x p) (e :: es) [] pos) (xCall op a) := fun E hE =>
  PE.weak (pe_callB hc hg hm hv (ha E hE) hn hdb he hpl) (xCall_in hs)
theorem xe_callTy {x : Str} {p pos : Pos} {N : String} {e : Expr} {es : List Expr} {r : List V → Hp → VK → Prop} {op : List D → Option M} {a : AF} (hc : CallR X (.type N) r) (hs : CaS ⟨cl, X.K⟩ r op) (hm : X.mg x = none) (ha : XA X cl P (e :: es) a)
    (hg : Gl X x := by rfl) (hv : bootBuiltins x = some (.type N) := by decide +kernel) (hn : x ≠ "__name__" := by decide) (hdb : (x == ("__debug__" : Str)) = false := by decide)
    (he : starEach (e :: es) X.env = (false, eval e X.env) :: starEach es X.env := by rfl) (hpl : (backTo pos (starEach es X.env)).any (·.1) = false := by rfl) : XE X cl P (.Call (.Name x p) (e :: es) [] pos) (xCall op a) := fun E hE =>
  PE.weak (pe_callTy hc hg hm hv (ha E hE) hn hdb he hpl) (xCall_in hs)
/-! ### displays -/
def dTup : List D → Option M := fun ds => if ds.length ≤ sizeLine then some (.p (.tup ds)) else none
def dLst : List D → Option M := fun ds => if ds.length ≤ sizeLine then some (.l ds) else none
theorem cas_tup {Y : Tx} : CaS Y (fun xs H1 Q => xs.length ≤ sizeLine ∧ ∀ p, H1 p = none → Q (.ref p) (upd H1 p (.tup xs))) dTup := fun E T σ ms H vs ds m Q hl s e k => by
  unfold dTup at e
  split at e
  · rename_i h
    cases e
    refine ⟨by rw [hl]; exact h, fun p hp => k _ _ ?_⟩
    obtain ⟨B, _, q, _, kt, _⟩ := s.pure
    exact (kt p vs ds hp (repL_zip hl fun v d hm => q v d (List.mem_append_left _ hm))).under
  · cases e
theorem cas_lst {Y : Tx} : CaS Y (fun xs H1 Q => xs.length ≤ sizeLine ∧ ∀ p, H1 p = none → Q (.ref p) (upd H1 p (.lst xs))) dLst := fun E T σ ms H vs ds m Q hl s e k => by
  unfold dLst at e
  split at e
  · rename_i h
    cases e
    refine ⟨by rw [hl]; exact h, fun p hp => k _ _ ?_⟩
    obtain ⟨B, _, q, _, _, kt, _⟩ := s.pure
    exact (kt p vs ds hp (repL_zip hl fun v d hm => q v d (List.mem_append_left _ hm))).under
  · cases e
theorem xe_tup {es : List Expr} {x1} {pos : Pos} {a : AF} (ha : XA X cl P es a) : XE X cl P (.Tuple es x1 pos) (xCall dTup a) := fun E hE =>
  PE.weak (pe_tup (ha E hE)) (xCall_in (r := fun xs H1 Q => xs.length ≤ sizeLine ∧ ∀ p, H1 p = none → Q (.ref p) (upd H1 p (.tup xs))) cas_tup)
theorem xe_lst {es : List Expr} {pos : Pos} {a : AF} (ha : XA X cl P es a) : XE X cl P (.List es pos) (xCall dLst a) := fun E hE =>
  PE.weak (pe_lst (ha E hE)) (xCall_in (r := fun xs H1 Q => xs.length ≤ sizeLine ∧ ∀ p, H1 p = none → Q (.ref p) (upd H1 p (.lst xs))) cas_lst)
/-! ### builtins -/
theorem CaS.one {Y : Tx} {r : List V → Hp → VK → Prop} {op : D → Option M} (h : ∀ (E : Ent) (T : List (V × M)) (σ : St) (ms : En) (H : Hp) (v : V) (d : D) (m : M) (Q : VK), Stt Y E ((v, .p d) :: T) σ ms H → op d = some m →
    (∀ z H', Stt Y E ((z, m) :: T) σ ms H' → Q z H') → r [v] H Q) : CaS Y r (fun ds => match ds with | [d] => op d | _ => none) := fun E T σ ms H vs ds m Q hl s e k => by
  match vs, ds, hl, s, e with
  | [v], [d], _, s, e => exact h E T σ ms H v d m Q s e k
  | [], [_], hl, _, _ => cases hl
  | _ :: _ :: _, [_], hl, _, _ => cases hl
  | _, [], _, _, e => cases e
  | _, _ :: _ :: _, _, _, e => cases e
theorem CaS.two {Y : Tx} {r : List V → Hp → VK → Prop} {op : D → D → Option M} (h : ∀ (E : Ent) (T : List (V × M)) (σ : St) (ms : En) (H : Hp) (v u : V) (d e : D) (m : M) (Q : VK), Stt Y E ((v, .p d) :: (u, .p e) :: T) σ ms H → op d e = some m →
    (∀ z H', Stt Y E ((z, m) :: T) σ ms H' → Q z H') → r [v, u] H Q) : CaS Y r (fun ds => match ds with | [d, e] => op d e | _ => none) := fun E T σ ms H vs ds m Q hl s e k => by
  match vs, ds, hl, s, e with
  | [v, u], [d, d'], _, s, e => exact h E T σ ms H v u d d' m Q s e k
  | [], [_, _], hl, _, _ => cases hl
  | [_], [_, _], hl, _, _ => cases hl
  | _ :: _ :: _ :: _, [_, _], hl, _, _ => cases hl
  | _, [], _, _, e => cases e
  | _, [_], _, _, e => cases e
  | _, _ :: _ :: _ :: _, _, _, e => cases e
def o1 (op : D → Option M) : List D → Option M := fun ds => match ds with | [d] => op d | _ => none
def o2 (op : D → D → Option M) : List D → Option M := fun ds => match ds with | [d, e] => op d e | _ => none
def dLen : D → Option M
  | .str x => if x.length ≤ sizeLine then some (.p (.int x.length)) else none
  | .tup ds => some (.p (.int ds.length))
  | .lst ds => some (.p (.int ds.length))
  | _ => none
def rLen2 (K : PySem.W.Frag) : List V → Hp → VK → Prop := fun xs H Q => ∃ x n, xs = [x] ∧ LenV K x H n ∧ Q (.int n) H
theorem cas_len {Y : Tx} : CaS Y (rLen2 Y.K) (o1 dLen) := CaS.one fun E T σ ms H v d m Q s e k => by
  have r := s.rep
  unfold dLen at e
  split at e
  · obtain rfl := r.str_of
    split at e
    · rename_i h; cases e; exact ⟨_, _, rfl, ⟨h, rfl⟩, k _ _ (s.pop.scal fun _ => .int _)⟩
    · cases e
  · cases e
    obtain ⟨a, vs, rfl, hs, q⟩ := r.tup_of
    refine ⟨_, _, rfl, .inr ⟨_, hs, rfl⟩, ?_⟩
    rw [q.len]
    exact k _ _ (s.pop.scal fun _ => .int _)
  · cases e
    obtain ⟨a, vs, rfl, hs, q⟩ := r.lst_of
    refine ⟨_, _, rfl, .inl ⟨_, hs, rfl⟩, ?_⟩
    rw [q.len]
    exact k _ _ (s.pop.scal fun _ => .int _)
  · cases e
theorem xe_len {p pos : Pos} {e : Expr} {f : EF} (hm : X.mg "len" = none) (ha : XE X cl P e f) (hg : Gl X "len" := by rfl) (he : starEach [e] X.env = [(false, eval e X.env)] := by rfl) : XE X cl P (.Call (.Name "len" p) [e] [] pos) (xCall (o1 dLen) (aC f aN)) :=
  xe_callB (r := rLen2 X.K) call_len cas_len hm (xa_cons ha xa_nil he) hg boot_len (he := he)
def dInt : D → Option M
  | .int i => some (.p (.int i))
  | .str x => if x.length ≤ 640 then (intText? x).map fun n => .p (.int n) else none
  | _ => none
def rInt2 : List V → Hp → VK → Prop := fun xs H Q => ((∃ i, xs = [.int i] ∧ Q (.int i) H) ∨ ∃ k, xs = [.bl k] ∧ Q (.int (if k then 1 else 0)) H) ∨ ∃ a n, xs = [.str a] ∧ PySem.intText? a = some n ∧ a.length ≤ 640 ∧ Q (.int n) H
theorem call_int2 : CallR X (.type "int") rInt2 := CallR.or call_int1 call_int_str
theorem cas_int {Y : Tx} : CaS Y rInt2 (o1 dInt) := CaS.one fun E T σ ms H v d m Q s e k => by
  have r := s.rep
  unfold dInt at e
  split at e
  · obtain rfl := r.int_of
    cases e
    exact .inl (.inl ⟨_, rfl, k _ _ (s.pop.scal fun _ => .int _)⟩)
  · obtain rfl := r.str_of
    split at e
    · rename_i h
      obtain ⟨n, e1, e⟩ := Option.map_eq_some_iff.mp e
      subst e
      exact .inr ⟨_, n, rfl, e1, h, k _ _ (s.pop.scal fun _ => .int _)⟩
    · cases e
  · cases e
def dAbs : D → Option M
  | .int i => some (.p (.int (if i < 0 then -i else i)))
  | _ => none
def rAbs2 : List V → Hp → VK → Prop := fun xs H Q => ∃ i, xs = [.int i] ∧ Q (.int (if i < 0 then -i else i)) H
theorem cas_abs {Y : Tx} : CaS Y rAbs2 (o1 dAbs) := CaS.one fun E T σ ms H v d m Q s e k => by
  have r := s.rep
  unfold dAbs at e
  split at e
  · obtain rfl := r.int_of
    cases e
    exact ⟨_, rfl, k _ _ (s.pop.scal fun _ => .int _)⟩
  · cases e
def dMax : D → D → Option M
  | .int i, .int j => some (.p (.int (if j > i then j else i)))
  | _, _ => none
def dMin : D → D → Option M
  | .int i, .int j => some (.p (.int (if j < i then j else i)))
  | _, _ => none
def rMax3 : List V → Hp → VK → Prop := fun xs H Q => ∃ i j, xs = [.int i, .int j] ∧ Q (.int (if j > i then j else i)) H
def rMin3 : List V → Hp → VK → Prop := fun xs H Q => ∃ i j, xs = [.int i, .int j] ∧ Q (.int (if j < i then j else i)) H
theorem cas_max {Y : Tx} : CaS Y rMax3 (o2 dMax) := CaS.two fun E T σ ms H v u d d' m Q s e k => by
  have r := s.rep
  have r' := s.pop.rep
  unfold dMax at e
  split at e
  · obtain rfl := r.int_of
    obtain rfl := r'.int_of
    cases e
    exact ⟨_, _, rfl, k _ _ (s.pop.pop.scal fun _ => .int _)⟩
  · cases e
theorem cas_min {Y : Tx} : CaS Y rMin3 (o2 dMin) := CaS.two fun E T σ ms H v u d d' m Q s e k => by
  have r := s.rep
  have r' := s.pop.rep
  unfold dMin at e
  split at e
  · obtain rfl := r.int_of
    obtain rfl := r'.int_of
    cases e
    exact ⟨_, _, rfl, k _ _ (s.pop.pop.scal fun _ => .int _)⟩
  · cases e
/-- tuple(xs), list(xs) -/
def dTuple : D → Option M
  | .tup ds => some (.p (.tup ds))
  | .lst ds => some (.p (.tup ds))
  | _ => none
def rTuple2 (K : PySem.W.Frag) : List V → Hp → VK → Prop := fun xs H Q => ∃ p ys, xs = [.ref p] ∧ ((SqL K H p ys ∧ ∀ l, H l = none → Q (.ref l) (upd H l (.tup ys))) ∨ (SqT K H p ys ∧ Q (.ref p) H))
theorem cas_tuple {Y : Tx} : CaS Y (rTuple2 Y.K) (o1 dTuple) := CaS.one fun E T σ ms H v d m Q s e k => by
  obtain ⟨B, hB, q, kp, kt, _⟩ := s.pure
  have r := q v d (by simp)
  unfold dTuple at e
  split at e
  · cases e
    obtain ⟨a, vs, rfl, hs, q⟩ := r.tup_of
    exact ⟨_, _, rfl, .inr ⟨ex_t hB hs, k _ _ s⟩⟩
  · cases e
    obtain ⟨a, vs, rfl, hs, q⟩ := r.lst_of
    exact ⟨_, _, rfl, .inl ⟨ex_l hB hs, fun l hl => k _ _ (kt l _ _ hl q).swap.pop⟩⟩
  · cases e
def dList : D → Option M
  | .tup ds => some (.l ds)
  | .lst ds => some (.l ds)
  | _ => none
def rList2 (K : PySem.W.Frag) : List V → Hp → VK → Prop := fun xs H Q => ∃ p ys, xs = [.ref p] ∧ (SqL K H p ys ∨ SqT K H p ys) ∧ ∀ l, H l = none → Q (.ref l) (upd H l (.lst ys))
theorem cas_list {Y : Tx} : CaS Y (rList2 Y.K) (o1 dList) := CaS.one fun E T σ ms H v d m Q s e k => by
  obtain ⟨B, hB, q, kp, kt, kl, _⟩ := s.pure
  have r := q v d (by simp)
  unfold dList at e
  split at e
  · cases e
    obtain ⟨a, vs, rfl, hs, q⟩ := r.tup_of
    exact ⟨_, _, rfl, .inr (ex_t hB hs), fun l hl => k _ _ (kl l _ _ hl q).swap.pop⟩
  · cases e
    obtain ⟨a, vs, rfl, hs, q⟩ := r.lst_of
    exact ⟨_, _, rfl, .inl (ex_l hB hs), fun l hl => k _ _ (kl l _ _ hl q).swap.pop⟩
  · cases e
def dStr : D → Option M
  | .int i => if i.natAbs.log2 < 1920 then some (.p (.str (toString i))) else none
  | _ => none
def rStr2 : List V → Hp → VK → Prop := fun xs H Q => ∃ i, xs = [.int i] ∧ i.natAbs.log2 < 1920 ∧ Q (.str (toString i)) H
theorem cas_str {Y : Tx} : CaS Y rStr2 (o1 dStr) := CaS.one fun E T σ ms H v d m Q s e k => by
  have r := s.rep
  unfold dStr at e
  split at e
  · obtain rfl := r.int_of
    split at e
    · rename_i h
      cases e
      exact ⟨_, rfl, h, k _ _ (s.pop.scal fun _ => .str _)⟩
    · cases e
  · cases e
/-! ### subscripts -/
def dIx : D → D → Option D
  | .tup ds, .int i => atI ds i
  | .lst ds, .int i => atI ds i
  | .str z, .int i => if z.length ≤ sizeLine then (atI z.cps.toList i).map fun c => .str ⟨#[c]⟩ else none
  | _, _ => none
theorem atI_rep {Y : Tx} {B : Hp} {vs : List V} {ds : List D} {i : Int} {d : D} (r : RepL Y B vs ds) (h : atI ds i = some d) : ∃ v, atI vs i = some v ∧ Rep Y B v d := by
  unfold atI at h ⊢
  rw [r.len]
  obtain ⟨j, h1, h2⟩ := Option.bind_eq_some_iff.mp h
  obtain ⟨v, h3, h4⟩ := r.get j d h2
  exact ⟨v, Option.bind_eq_some_iff.mpr ⟨j, h1, h3⟩, h4⟩
theorem ops_ix {Y : Tx} : OpS Y (rIx Y.K) dIx := by
  intro E T σ ms H x y dx dy d Q s e k
  obtain ⟨B, hB, q, kp, _⟩ := s.pure
  have ry := q y dy (by simp)
  have rx := q x dx (by simp)
  unfold dIx at e
  split at e
  · obtain rfl := ry.int_of
    obtain ⟨a, vs, rfl, hs, q⟩ := rx.tup_of
    obtain ⟨v, h1, h2⟩ := atI_rep q e
    exact .inr (.inl ⟨_, _, _, v, rfl, rfl, ex_t hB hs, h1, k _ _ (kp v d h2).swap.pop.swap.pop⟩)
  · obtain rfl := ry.int_of
    obtain ⟨a, vs, rfl, hs, q⟩ := rx.lst_of
    obtain ⟨v, h1, h2⟩ := atI_rep q e
    exact .inl ⟨_, _, _, v, rfl, rfl, ex_l hB hs, h1, k _ _ (kp v d h2).swap.pop.swap.pop⟩
  · obtain rfl := ry.int_of
    obtain rfl := rx.str_of
    split at e
    · rename_i h
      obtain ⟨c, h1, h2⟩ := Option.map_eq_some_iff.mp e
      subst h2
      exact .inr (.inr ⟨_, _, c, rfl, rfl, h, h1, k _ _ (s.pop.pop.scal fun _ => .str _)⟩)
    · cases e
  · cases e
theorem xe_ix {a b : Expr} {pos : Pos} {f g : EF} (ha : XE X cl P a f) (hb : XE X cl P b g) (hs : PlainIx b := by exact fun _ _ => rfl) : XE X cl P (.Subscript a b pos) (f2 dIx f g) := fun E hE =>
  PE.weak (pe_ix ix_seq (ha E hE) (hb E hE) hs) (f2_in ops_ix)
/-! ### attributes of data -/
def dFld (c : Nat) (f : Str) : D → Option D
  | .obj c' fs => if c' = c then fs.lookup f else none
  | _ => none
theorem dFld_some {c : Nat} {f : Str} {x d : D} (h : dFld c f x = some d) : ∃ fs, x = .obj c fs ∧ fs.lookup f = some d := by
  unfold dFld at h
  split at h
  · split at h
    · rename_i q; subst q; exact ⟨_, rfl, h⟩
    · cases h
  · cases h
def xFld (c : Nat) (f : Str) (g : EF) : EF := fun ms => (g ms).bind fun a => (dFld c f (frz a.1)).bind fun d => some (.p d, a.2)
theorem RepF.look {Y : Tx} {B : Hp} {f : Str} : ∀ {vs : List (Str × V)} {fs : List (Str × D)} {d : D}, RepF Y B vs fs → fs.lookup f = some d → ∃ v, vs.lookup f = some v ∧ Rep Y B v d
  | _, [], _, _, h => by simp at h
  | _, (k, e) :: fs, d, .cons a r, h => by
    rw [List.lookup_cons] at h ⊢
    cases hb : f == k with
    | true => rw [hb] at h; cases h; exact ⟨_, rfl, a⟩
    | false => rw [hb] at h; exact RepF.look r h
theorem xe_fld {e : Expr} {f : Str} {pos : Pos} {g : EF} {c : Nat} (hc : Cls X.K (cl c)) (hn : NoAttr X.K (cl c) f) (he : XE X cl P e g) (hb : attributeBase e f X.env (eval e X.env) = eval e X.env := by rfl) : XE X cl P (.Attribute e f pos) (xFld c f g) := fun E hE =>
  PE.weak (pe_fld (he E hE) hb) fun σ H Q ⟨T, ms, m, ms', s, z, k⟩ => by
    unfold xFld at z
    obtain ⟨a, e1, z⟩ := Option.bind_eq_some_iff.mp z
    obtain ⟨d, e2, z⟩ := Option.bind_eq_some_iff.mp z
    cases z
    refine ⟨T, ms, a.1, a.2, s, e1, fun x H1 s1 => ?_⟩
    have s2 := s1.frz
    obtain ⟨fs, e3, e4⟩ := dFld_some e2
    rw [e3] at s2
    obtain ⟨B, hB, q, kp, _⟩ := s2.pure
    have r := q x _ (List.mem_cons_self)
    obtain ⟨ad, dx, vs, rfl, ho, rf⟩ := r.obj_of
    obtain ⟨v, hv, rv⟩ := rf.look e4
    exact ⟨ad, _, dx, vs, v, rfl, hB _ _ ho, hc, hn, hv, k _ _ (kp v d rv).swap.pop⟩
end
end Mh
namespace Mh
open PySem L2

/-! ### owned lists and dicts -/
section
variable {Y : Tx} {E : Ent} {H : Hp} {T : List (V × M)} {σ : St} {ms : En} {L : List (V × M)} {a : Addr}
def pures (pv : List (V × D)) : List (V × M) := pv.map fun q => (q.1, .p q.2)
theorem RelB.pushes {B : Hp} {fp : List Addr} : ∀ {pv : List (V × D)} {L : List (V × M)}, RelB Y E B fp L H → (∀ q ∈ pv, Rep Y B q.1 q.2) → RelB Y E B fp (pures pv ++ L) H
  | [], _, h, _ => h
  | q :: pv, _, h, k => (RelB.pushes h fun z hz => k z (List.mem_cons_of_mem _ hz)).push (k q List.mem_cons_self)
theorem RelB.mem {B : Hp} {fp : List Addr} (h : RelB Y E B fp L H) {v : V} {d : D} (hm : (v, M.p d) ∈ L) : Rep Y B v d := by
  have key : ∀ {L : List (V × M)} {fp : List Addr}, Sep Y B H L fp → (v, M.p d) ∈ L → Rep Y B v d := by
    intro L fp s
    induction s with
    | nil => intro h; cases h
    | cons r s ih =>
      intro h
      rcases List.mem_cons.mp h with e | h
      · cases e
        cases r with
        | p r => exact r
      · exact ih h
  exact key h.sep hm
theorem Stt.ownL {v : V} {ds : List D} (s : Stt Y E ((v, .l ds) :: T) σ ms H) : ∃ a B vs, v = .ref a ∧ Ex B H ∧ H a = some (.lst vs) ∧ RepL Y B vs ds ∧ (∀ u d, (u, M.p d) ∈ T → Rep Y B u d) ∧
    (∀ vs' ds' (pv : List (V × D)), RepL Y B vs' ds' → (∀ q ∈ pv, Rep Y B q.1 q.2) → Stt Y E (pures pv ++ (.ref a, .l ds') :: T) σ ms (upd H a (.lst vs'))) ∧
    (∀ (pv : List (V × D)), (∀ q ∈ pv, Rep Y B q.1 q.2) → Stt Y E (pures pv ++ (.ref a, .l ds) :: T) σ ms H) := by
  obtain ⟨B, fp, r⟩ := s.rel
  obtain ⟨g, sp, nd, ow⟩ := id r
  cases sp with
  | @cons _ _ _ f1 f2 r1 sp =>
    cases r1 with
    | l h q =>
      refine ⟨_, B, _, rfl, g.sub, h, q, fun u d hm => r.mem (List.mem_cons_of_mem _ (List.mem_append_left _ hm)), fun vs' ds' pv hr hp => ?_, fun pv hp => ?_⟩
      · have w := RelB.write (v := .ref _) (m' := .l ds') (o := .lst vs') g sp nd ow (by simp) (.l upd_same hr)
        refine s.of ?_
        rw [List.append_assoc]
        exact (w.pushes hp).rel
      · refine s.of ?_
        rw [List.append_assoc]
        exact (r.pushes hp).rel
theorem Stt.ownK {v : V} {ds : List (Key × D)} (s : Stt Y E ((v, .dk ds) :: T) σ ms H) : ∃ a B vs, v = .ref a ∧ Ex B H ∧ H a = some (.dK vs) ∧ RepK Y B vs ds ∧ (∀ u d, (u, M.p d) ∈ T → Rep Y B u d) ∧
    (∀ vs' ds' (pv : List (V × D)), RepK Y B vs' ds' → (∀ q ∈ pv, Rep Y B q.1 q.2) → Stt Y E (pures pv ++ (.ref a, .dk ds') :: T) σ ms (upd H a (.dK vs'))) ∧
    (∀ (pv : List (V × D)), (∀ q ∈ pv, Rep Y B q.1 q.2) → Stt Y E (pures pv ++ (.ref a, .dk ds) :: T) σ ms H) := by
  obtain ⟨B, fp, r⟩ := s.rel
  obtain ⟨g, sp, nd, ow⟩ := id r
  cases sp with
  | @cons _ _ _ f1 f2 r1 sp =>
    cases r1 with
    | dk h q =>
      refine ⟨_, B, _, rfl, g.sub, h, q, fun u d hm => r.mem (List.mem_cons_of_mem _ (List.mem_append_left _ hm)), fun vs' ds' pv hr hp => ?_, fun pv hp => ?_⟩
      · have w := RelB.write (v := .ref _) (m' := .dk ds') (o := .dK vs') g sp nd ow (by simp) (.dk upd_same hr)
        refine s.of ?_
        rw [List.append_assoc]
        exact (w.pushes hp).rel
      · refine s.of ?_
        rw [List.append_assoc]
        exact (r.pushes hp).rel
end

/-! ### blocks and plain statements -/
def sSeq (f g : SF) : SF := fun ms => (f ms).bind fun o => match o.1 with
  | .nx => g o.2
  | _ => some o
def sNx : SF := fun ms => some (.nx, ms)
def sBk : SF := fun ms => some (.bk, ms)
def sCt : SF := fun ms => some (.ct, ms)
def sEx (f : EF) : SF := fun ms => (f ms).bind fun a => some (.nx, a.2)
def sRet (f : EF) : SF := fun ms => (f ms).bind fun a => some (.rt a.1, a.2)
def sRetN : SF := fun ms => some (.rt (.p .non), ms)
def sIf (c : TF) (f g : SF) : SF := fun ms => (c ms).bind fun a => if a.1 = true then f a.2 else g a.2
def sSet (i : Nat) (f : EF) : SF := fun ms => (f ms).bind fun a => if i < a.2.length then some (.nx, a.2.set i (some a.1)) else none
section
variable {X : Cx} {cl : Nat → Addr} {P : List Nat}
theorem xb_nil : XB X cl P [] sNx := fun E _ => PSs.weak pss_nil fun D σ H ⟨T, ms, o, ms', s, e, k⟩ => by cases e; exact k σ H s
theorem xb_cons {st : Stmt} {rest : List Stmt} {f g : SF} (h1 : XS X cl P st f) (h2 : XB X cl P rest g) : XB X cl P (st :: rest) (sSeq f g) := fun E hE =>
  PSs.weak (pss_cons (h1 E hE) (h2 E hE)) fun D σ H ⟨T, ms, o, ms', s, z, k⟩ => by
    unfold sSeq at z
    obtain ⟨a, e1, z⟩ := Option.bind_eq_some_iff.mp z
    obtain ⟨o1, m1⟩ := a
    refine ⟨T, ms, o1, m1, s, e1, ?_⟩
    cases o1 with
    | nx => exact fun σ' H' s' => ⟨T, m1, o, ms', s', z, k⟩
    | rt m => cases z; exact k
    | bk => cases z; exact k
    | ct => cases z; exact k
theorem xb_one {st : Stmt} {f : SF} (h1 : XS X cl P st f) : XB X cl P [st] f := fun E hE => pss_one (h1 E hE)
theorem xs_pass {pos : Pos} : XS X cl P (.Pass pos) sNx := fun E _ => PS.weak ps_pass fun D σ H ⟨T, ms, o, ms', s, e, k⟩ => by cases e; exact k σ H s
theorem xs_break {pos : Pos} : XS X cl P (.Break pos) sBk := fun E _ => PS.weak ps_break fun D σ H ⟨T, ms, o, ms', s, e, k⟩ => by cases e; exact k σ H s
theorem xs_continue {pos : Pos} : XS X cl P (.Continue pos) sCt := fun E _ => PS.weak ps_continue fun D σ H ⟨T, ms, o, ms', s, e, k⟩ => by cases e; exact k σ H s
theorem xs_doc {x j pos pos'} : XS X cl P (.Expr (.Constant (.str x) j pos) pos') sNx := fun E _ => PS.weak ps_doc fun D σ H ⟨T, ms, o, ms', s, e, k⟩ => by cases e; exact k σ H s
theorem xs_expr {e : Expr} {pos : Pos} {f : EF} (he : XE X cl P e f) (hs : swapsWith e none pos.line X.env = pure false := by rfl) : XS X cl P (.Expr e pos) (sEx f) := fun E hE =>
  PS.weak (ps_expr (he E hE) hs) fun D σ H ⟨T, ms, o, ms', s, z, k⟩ => by
    unfold sEx at z
    obtain ⟨a, e1, z⟩ := Option.bind_eq_some_iff.mp z
    cases z
    exact ⟨T, ms, a.1, a.2, s, e1, fun v H' s' => k σ H' s'.pop⟩
theorem xs_ret {e : Expr} {pos : Pos} {f : EF} (he : XE X cl P e f) : XS X cl P (.Return (some e) pos) (sRet f) := fun E hE =>
  PS.weak (ps_ret (he E hE)) fun D σ H ⟨T, ms, o, ms', s, z, k⟩ => by
    unfold sRet at z
    obtain ⟨a, e1, z⟩ := Option.bind_eq_some_iff.mp z
    cases z
    exact ⟨T, ms, a.1, a.2, s, e1, fun v H' s' => k v σ H' s'⟩
theorem xs_retN {pos : Pos} : XS X cl P (.Return none pos) sRetN := fun E hE =>
  PS.weak ps_retN fun D σ H ⟨T, ms, o, ms', s, z, k⟩ => by
    cases z
    exact k .non σ H (s.scal fun _ => .non)
theorem xs_if {c : Expr} {a b : List Stmt} {pos : Pos} {t : TF} {f g : SF} (hc : XT X cl P c t) (ha : XB X cl P a f) (hb : XB X cl P b g) : XS X cl P (.If c a b pos) (sIf t f g) := fun E hE =>
  PS.weak (ps_if (hc E hE) (ha E hE) (hb E hE)) fun D σ H ⟨T, ms, o, ms', s, z, k⟩ => by
    unfold sIf at z
    obtain ⟨a, e1, z⟩ := Option.bind_eq_some_iff.mp z
    refine ⟨T, ms, a.1, a.2, s, e1, fun H1 s1 => ?_⟩
    by_cases h : a.1 = true
    · rw [if_pos h] at z ⊢; exact ⟨T, a.2, o, ms', s1, z, k⟩
    · rw [if_neg h] at z ⊢; exact ⟨T, a.2, o, ms', s1, z, k⟩
/-- what is not come to -/
def sNo : SF := fun _ => none
theorem xs_never {st : Stmt} : XS X cl P st sNo := fun E hE => ⟨fun _ _ _ _ _ _ ⟨_, _, _, _, _, z, _⟩ => by cases z⟩
theorem xb_never {st : List Stmt} : XB X cl P st sNo := fun E hE => ⟨fun _ _ _ _ _ _ ⟨_, _, _, _, _, z, _⟩ => by cases z⟩
def xNo : EF := fun _ => none
theorem xe_never {e : Expr} : XE X cl P e xNo := fun E hE => ⟨fun _ _ _ _ _ _ ⟨_, _, _, _, _, z, _⟩ => by cases z⟩
/-! ### targets -/
abbrev GF := M → En → Option En
def tG (Y : Tx) (E : Ent) (W : List Nat) (t : GF) : TG := fun v σ H Q => ∃ T ms m ms', Stt Y E ((v, m) :: T) σ ms H ∧ t m ms = some ms' ∧ ∀ σ' H', (∀ j, j ∉ W → σ'[j]? = σ[j]?) → σ'.length = σ.length → Stt Y E T σ' ms' H' → Q σ' H'
def XG (X : Cx) (cl : Nat → Addr) (P : List Nat) (tg : Expr) (W : List Nat) (t : GF) : Prop := ∀ E : Ent, E.prot.map (·.1) = P → PG X tg (tG ⟨cl, X.K⟩ E W t)
theorem PG.weak {X : Cx} {e : Expr} {t t' : TG} (h : PG X e t) (w : ∀ v σ H Q, t' v σ H Q → t v σ H Q) : PG X e t' := ⟨fun pins s σ H v u Q I r q => h.run pins s σ H v u Q I r (w v σ H Q q)⟩
def gSet (i : Nat) : GF := fun m ms => if i < ms.length then some (ms.set i (some m)) else none
theorem xg_name (i : Nat) {x : Str} {pos : Pos} (hN : X.N.Nodup) (hp : i ∉ P := by decide) (hi : X.N[i]? = some x := by rfl) (hx : Loc X.env.scope x := by first | exact Or.inl rfl | exact Or.inr rfl)
    (hf : X.fn x = true ∨ X.env.scope.names.lookup x = some .local := by first | exact .inl rfl | exact .inr rfl | assumption) : XG X cl P (.Name x pos) [i] (gSet i) := fun E hE =>
  PG.weak (pg_name hN hi hx hf) fun v σ H Q ⟨T, ms, m, ms', s, z, k⟩ => by
    unfold gSet at z
    split at z
    · rename_i h
      cases z
      have hi : i < σ.length := by rw [← s.len]; exact h
      exact k _ _ (fun j hj => List.getElem?_set_ne fun q => hj (by simp [q])) (by simp) (s.set hi (by rw [hE]; exact hp))
    · cases z
theorem xs_set (i : Nat) {x : Str} {e : Expr} {pos pos' : Pos} {f : EF} (hN : X.N.Nodup) (he : XE X cl P e f) (hp : i ∉ P := by decide) (hi : X.N[i]? = some x := by rfl) (hx : Loc X.env.scope x := by first | exact Or.inl rfl | exact Or.inr rfl)
    (hs : swapsWith e (some (.Name x pos')) pos.line X.env = pure false := by rfl) (hf : X.fn x = true ∨ X.env.scope.names.lookup x = some .local := by first | exact .inl rfl | exact .inr rfl | assumption) :
    XS X cl P (.Assign [.Name x pos'] e pos) (sSet i f) := fun E hE =>
  PS.weak (ps_set hN hi hx (he E hE) hs hf) fun D σ H ⟨T, ms, o, ms', s, z, k⟩ => by
    unfold sSet at z
    obtain ⟨a, e1, z⟩ := Option.bind_eq_some_iff.mp z
    split at z
    · rename_i h
      cases z
      refine ⟨T, ms, a.1, a.2, s, e1, fun v H' s' => k _ _ (s'.set ?_ ?_)⟩
      · rw [← s'.len]; exact h
      · rw [hE]; exact hp
    · cases z
/-- target = value, any target -/
def sAsg (f : EF) (t : GF) : SF := fun ms => (f ms).bind fun a => (t a.1 a.2).bind fun ms' => some (.nx, ms')
theorem xs_asg {tg e : Expr} {pos : Pos} {f : EF} {W : List Nat} {t : GF} (he : XE X cl P e f) (hg : XG X cl P tg W t) (hs : swapsWithSole [tg] e pos.line X.env = pure false := by rfl) (hw : swappedStores [tg] e X.env = pure none := by rfl)
    (h1 : (assignEach [tg] X.env).map (·.2) = [assign tg X.env] := by rfl) : XS X cl P (.Assign [tg] e pos) (sAsg f t) := fun E hE =>
  PS.weak (ps_asg (he E hE) (hg E hE) hs hw h1) fun D σ H ⟨T, ms, o, ms', s, z, k⟩ => by
    unfold sAsg at z
    obtain ⟨a, e1, z⟩ := Option.bind_eq_some_iff.mp z
    obtain ⟨m2, e2, z⟩ := Option.bind_eq_some_iff.mp z
    cases z
    exact ⟨T, ms, a.1, a.2, s, e1, fun v H' s' => ⟨T, a.2, a.1, _, s', e2, fun σ' H2 _ _ s2 => k σ' H2 s2⟩⟩
/-- several targets -/
abbrev GsF := List D → En → Option En
def tGs (Y : Tx) (E : Ent) (W : List Nat) (t : GsF) : TGs := fun vs σ H Q => ∃ T ms ds ms', vs.length = ds.length ∧ Stt Y E (vs.zip (ds.map .p) ++ T) σ ms H ∧ t ds ms = some ms' ∧ ∀ σ' H', (∀ j, j ∉ W → σ'[j]? = σ[j]?) → σ'.length = σ.length → Stt Y E T σ' ms' H' → Q σ' H'
def XGs (X : Cx) (cl : Nat → Addr) (P : List Nat) (ts : List Expr) (W : List Nat) (t : GsF) : Prop := ∀ E : Ent, E.prot.map (·.1) = P → PGs X ts (tGs ⟨cl, X.K⟩ E W t)
theorem PGs.weak {X : Cx} {e : List Expr} {t t' : TGs} (h : PGs X e t) (w : ∀ v σ H Q, t' v σ H Q → t v σ H Q) : PGs X e t' := ⟨fun pins s σ H v u Q I r q => h.run pins s σ H v u Q I r (w v σ H Q q)⟩
def gsN : GsF := fun ds ms => match ds with | [] => some ms | _ => none
def gsC (t : GF) (u : GsF) : GsF := fun ds ms => match ds with | d :: ds => (t (.p d) ms).bind fun m1 => u ds m1 | [] => none
theorem xgs_nil : XGs X cl P [] [] gsN := fun E hE => PGs.weak pgs_nil fun vs σ H Q ⟨T, ms, ds, ms', hl, s, z, k⟩ => by
  unfold gsN at z
  split at z
  · cases z
    have : vs = [] := List.length_eq_zero_iff.mp hl
    subst this
    exact ⟨rfl, k σ H (fun _ _ => rfl) rfl s⟩
  · cases z
theorem xgs_cons {e : Expr} {es : List Expr} {W W' : List Nat} {t : GF} {u : GsF} (h1 : XG X cl P e W t) (h2 : XGs X cl P es W' u)
    (hs : (assignEach (e :: es) X.env).map (·.2) = assign e X.env :: (assignEach es X.env).map (·.2) := by rfl) : XGs X cl P (e :: es) (W ++ W') (gsC t u) := fun E hE =>
  PGs.weak (pgs_cons (h1 E hE) (h2 E hE) hs) fun vs σ H Q ⟨T, ms, ds, ms', hl, s, z, k⟩ => by
    unfold gsC at z
    split at z
    · rename_i d ds
      obtain ⟨m1, e1, z⟩ := Option.bind_eq_some_iff.mp z
      match vs, hl, s with
      | v :: vs, hl, s =>
        have s0 : Stt ⟨cl, X.K⟩ E ((v, .p d) :: (vs.zip (ds.map .p) ++ T)) σ ms H := s
        refine ⟨v, vs, rfl, vs.zip (ds.map .p) ++ T, ms, .p d, m1, s0, e1, fun σ1 H1 q1 l1 s1 => ⟨T, m1, ds, ms', by simpa using hl, s1, z, fun σ2 H2 q2 l2 s2 => k σ2 H2 (fun j hj => ?_) (l2.trans l1) s2⟩⟩
        rw [List.mem_append, not_or] at hj
        exact (q2 j hj.2).trans (q1 j hj.1)
      | [], hl, _ => cases hl
    · cases z
def gTupF (n : Nat) (u : GsF) : GF := fun m ms => match frz m with | .tup ds => if ds.length = n then u ds ms else none | _ => none
theorem xg_tup {es : List Expr} {k : Nat} {pos : Pos} {W : List Nat} {u : GsF} {n : Nat} (hc : X.calm = true) (h : XGs X cl P es W u)
    (hn : (assignEach es X.env).length = n := by rfl) (hst : (assignEach es X.env).findIdx? (·.1) = none := by rfl) : XG X cl P (.Tuple es k pos) W (gTupF n u) := fun E hE =>
  PG.weak (pg_tup hc (h E hE) hn hst) fun v σ H Q ⟨T, ms, m, ms', s, z, k⟩ => by
    have s1 := s.frz
    unfold gTupF at z
    generalize frz m = fm at z s1
    split at z
    · rename_i ds
      split at z
      · rename_i hl
        obtain ⟨B, fp, r⟩ := s1.rel
        have rv := r.mem (v := v) (d := .tup ds) (by simp)
        obtain ⟨a, vs, rfl, ht, rl⟩ := rv.tup_of
        refine ⟨a, vs, rfl, ex_t r.grow.sub ht, rl.len.trans hl, T, ms, ds, ms', rl.len, ?_, z, k⟩
        have key : ∀ {vs : List V} {ds : List D}, RepL ⟨cl, X.K⟩ B vs ds → pures (vs.zip ds) = vs.zip (ds.map .p) ∧ ∀ q ∈ vs.zip ds, Rep ⟨cl, X.K⟩ B q.1 q.2 := by
          intro vs ds rl
          induction ds generalizing vs with
          | nil => cases rl; exact ⟨rfl, fun q h => by simp at h⟩
          | cons d ds ih =>
            cases rl with
            | cons a b =>
              obtain ⟨h1, h2⟩ := ih b
              refine ⟨by simp [pures, List.map_cons] at h1 ⊢; exact h1, fun q hq => ?_⟩
              rw [List.zip_cons_cons] at hq
              rcases List.mem_cons.mp hq with e | hq
              · subst e; exact a
              · exact h2 q hq
        obtain ⟨h1, h2⟩ := key rl
        have r2 := (r.pushes h2).rel
        rw [h1] at r2
        have s2 : Stt ⟨cl, X.K⟩ E (vs.zip (ds.map .p) ++ (.ref a, .p (.tup ds)) :: T) σ ms H := s1.of (by rw [List.append_assoc]; exact r2)
        have s3 : Stt ⟨cl, X.K⟩ E ((.ref a, .p (.tup ds)) :: (vs.zip (ds.map .p) ++ T)) σ ms H := s2.of (s2.rel.perm (List.Perm.append_right _ List.perm_middle))
        exact s3.pop
      · cases z
    · cases z
end
end Mh
namespace Mh
open PySem L2

/-! ### what is walked -/
/-- J yields just ds, as long as U stands -/
def IterOk (Y : Tx) (J : It) (U : List (V × M)) (ds : List D) : Prop := ∀ (i : Nat) (E : Ent) (T : List (V × M)) (σ : St) (ms : En) (H : Hp), Stt Y E (U ++ T) σ ms H →
  (ds.length ≤ i → J.stop i H) ∧ ∀ d, ds[i]? = some d → J.go i H ∧ ∀ x H', J.yld i H x H' → Stt Y E ((x, .p d) :: (U ++ T)) σ ms H'
abbrev IF := En → Option (List D × En)
def tI (Y : Tx) (E : Ent) (it : IF) : TI := fun σ H R => ∃ T ms ds ms', Stt Y E T σ ms H ∧ it ms = some (ds, ms') ∧ ∀ J U H', IterOk Y J U ds → Stt Y E (U ++ T) σ ms' H' → R J H'
def XI (X : Cx) (cl : Nat → Addr) (P : List Nat) (tg iter : Expr) (it : IF) : Prop := ∀ E : Ent, E.prot.map (·.1) = P → PI X tg iter (tI ⟨cl, X.K⟩ E it)
theorem PI.weak {X : Cx} {tg e : Expr} {t t' : TI} (h : PI X tg e t) (w : ∀ σ H R, t' σ H R → t σ H R) : PI X tg e t' := ⟨fun pins s σ H R I q => h.run pins s σ H R I (w σ H R q)⟩
def iL (f : EF) : IF := fun ms => (f ms).bind fun a => match frz a.1 with | .lst ds => some (ds, a.2) | _ => none
def iT (f : EF) : IF := fun ms => (f ms).bind fun a => match frz a.1 with | .tup ds => some (ds, a.2) | _ => none
def chars (x : Str) : List D := x.cps.toList.map fun c => .str ⟨#[c]⟩
def iS (f : EF) : IF := fun ms => (f ms).bind fun a => match frz a.1 with | .str x => some (chars x, a.2) | _ => none
def rngD (lo : Int) (n : Nat) : List D := (List.range n).map fun (k : Nat) => .int (lo + (k : Int))
/-- small: the kernel gets stuck at once where the number is not known -/
def sml : Int → Bool
  | .ofNat n => decide (n < 1000000)
  | .negSucc n => decide (n < 1000000)
theorem two62 : (2 : Int) ^ 62 = 4611686018427387904 := by decide +kernel
theorem sml_ok {j : Int} (h : sml j = true) : -(2 ^ 62) ≤ j ∧ j < 2 ^ 62 := by
  rw [two62]
  cases j with
  | ofNat n =>
    have h' : n < 1000000 := of_decide_eq_true h
    have e : Int.ofNat n = (n : Int) := rfl
    rw [e]
    exact ⟨by omega, by omega⟩
  | negSucc n =>
    have h' : n < 1000000 := of_decide_eq_true h
    have e : Int.negSucc n = -((n : Int) + 1) := by omega
    rw [e]
    exact ⟨by omega, by omega⟩
theorem sml_nat {n : Nat} (h : n < 1000000) : sml (n : Int) = true := decide_eq_true h
def iR1 (a : AF) : IF := fun ms => (a ms).bind fun l => match l.1.map frz with
  | [.int j] => if sml j = true then some (rngD 0 j.toNat, l.2) else none
  | _ => none
def iR2 (a : AF) : IF := fun ms => (a ms).bind fun l => match l.1.map frz with
  | [.int i, .int j] => if sml i = true ∧ sml j = true then some (rngD i (j - i).toNat, l.2) else none
  | _ => none
theorem rngD_get {lo : Int} {n i : Nat} {d : D} (h : (rngD lo n)[i]? = some d) : i < n ∧ d = .int (lo + (i : Int)) := by
  unfold rngD at h
  rw [List.getElem?_map] at h
  obtain ⟨k, h1, h2⟩ := Option.map_eq_some_iff.mp h
  by_cases hi : i < n
  · rw [List.getElem?_range hi] at h1
    cases h1
    exact ⟨hi, h2.symm⟩
  · rw [List.getElem?_eq_none (by simpa using hi)] at h1; cases h1
theorem rngD_len (lo : Int) (n : Nat) : (rngD lo n).length = n := by simp [rngD]
theorem itr_ok {Y : Tx} {lo : Int} {n : Nat} : IterOk Y (Itr lo n) [] (rngD lo n) := fun i E T σ ms H s => ⟨fun h => by rw [rngD_len] at h; exact h, fun d h => by
  obtain ⟨h1, h2⟩ := rngD_get h
  subst h2
  refine ⟨h1, fun x H' ⟨e1, e2⟩ => ?_⟩
  subst e1 e2
  exact s.scal fun _ => .int _⟩
section
variable {X : Cx} {cl : Nat → Addr} {P : List Nat}
theorem itl_ok {K : PySem.W.Frag} {a : Addr} {ds : List D} {cl : Nat → Addr} : IterOk ⟨cl, K⟩ (Itl K a) [(.ref a, .p (.lst ds))] ds := fun i E T σ ms H s => by
  obtain ⟨B, hB, q, kp, _⟩ := s.pure
  have r := q (.ref a) (.lst ds) (by simp)
  obtain ⟨b, vs, e, hs, rl⟩ := r.lst_of
  cases e
  have hs' := ex_l hB hs
  refine ⟨fun h => ⟨vs, hs', by rw [rl.len]; exact h⟩, fun d h => ?_⟩
  obtain ⟨v, h1, h2⟩ := rl.get i d h
  refine ⟨⟨vs, v, hs', h1⟩, fun x H' ⟨e1, e2⟩ => ?_⟩
  subst e1
  have := e2 vs hs'
  rw [h1] at this
  cases this
  exact kp _ d h2
theorem itt_ok {K : PySem.W.Frag} {a : Addr} {ds : List D} {cl : Nat → Addr} : IterOk ⟨cl, K⟩ (Itt K a) [(.ref a, .p (.tup ds))] ds := fun i E T σ ms H s => by
  obtain ⟨B, hB, q, kp, _⟩ := s.pure
  have r := q (.ref a) (.tup ds) (by simp)
  obtain ⟨b, vs, e, hs, rl⟩ := r.tup_of
  cases e
  have hs' := ex_t hB hs
  refine ⟨fun h => ⟨vs, hs', by rw [rl.len]; exact h⟩, fun d h => ?_⟩
  obtain ⟨v, h1, h2⟩ := rl.get i d h
  refine ⟨⟨vs, v, hs', h1⟩, fun x H' ⟨e1, e2⟩ => ?_⟩
  subst e1
  have := e2 vs hs'
  rw [h1] at this
  cases this
  exact kp _ d h2
theorem xi_list {tg e : Expr} {f : EF} (he : XE X cl P e f) : XI X cl P tg e (iL f) := fun E hE =>
  PI.weak (pi_list (he E hE)) fun σ H R ⟨T, ms, ds, ms', s, z, k⟩ => by
    unfold iL at z
    obtain ⟨a, e1, z⟩ := Option.bind_eq_some_iff.mp z
    refine ⟨T, ms, a.1, a.2, s, e1, fun x H1 s1 => ?_⟩
    have s2 := s1.frz
    generalize frz a.1 = fm at z s2
    cases fm with
    | lst es =>
      cases z
      obtain ⟨b, vs, e, hs, rl⟩ := s2.rep.lst_of
      cases e
      exact ⟨b, rfl, ⟨vs, hs⟩, k _ _ H1 itl_ok s2⟩
    | _ => cases z
theorem xi_tup {tg e : Expr} {f : EF} (he : XE X cl P e f) : XI X cl P tg e (iT f) := fun E hE =>
  PI.weak (pi_tup (he E hE)) fun σ H R ⟨T, ms, ds, ms', s, z, k⟩ => by
    unfold iT at z
    obtain ⟨a, e1, z⟩ := Option.bind_eq_some_iff.mp z
    refine ⟨T, ms, a.1, a.2, s, e1, fun x H1 s1 => ?_⟩
    have s2 := s1.frz
    generalize frz a.1 = fm at z s2
    cases fm with
    | tup es =>
      cases z
      obtain ⟨b, vs, e, hs, rl⟩ := s2.rep.tup_of
      cases e
      exact ⟨b, rfl, ⟨vs, hs⟩, k _ _ H1 itt_ok s2⟩
    | _ => cases z
theorem its_ok {Y : Tx} {x : Str} : IterOk Y (Its x) [] (chars x) := fun i E T σ ms H s => by
  have hl : (chars x).length = x.cps.size := by simp [chars]
  refine ⟨fun h => by rw [hl] at h; exact h, fun d h => ?_⟩
  unfold chars at h
  rw [List.getElem?_map] at h
  obtain ⟨c, h1, h2⟩ := Option.map_eq_some_iff.mp h
  subst h2
  have h3 : x.cps[i]? = some c := by rw [← Array.getElem?_toList]; exact h1
  refine ⟨(Array.getElem?_eq_some_iff.mp h3).1, fun v H' ⟨e1, c', e2, e3⟩ => ?_⟩
  rw [h3] at e2
  cases e2
  subst e1 e3
  exact s.scal fun _ => .str _
theorem xi_str {tg e : Expr} {f : EF} (he : XE X cl P e f) : XI X cl P tg e (iS f) := fun E hE =>
  PI.weak (pi_str (he E hE)) fun σ H R ⟨T, ms, ds, ms', s, z, k⟩ => by
    unfold iS at z
    obtain ⟨a, e1, z⟩ := Option.bind_eq_some_iff.mp z
    refine ⟨T, ms, a.1, a.2, s, e1, fun x H1 s1 => ?_⟩
    have s2 := s1.frz
    generalize frz a.1 = fm at z s2
    cases fm with
    | str x =>
      cases z
      obtain rfl := s2.rep.str_of
      exact ⟨_, rfl, k _ _ H1 its_ok s2.pop⟩
    | _ => cases z
theorem xi_range1 {tg a : Expr} {f : EF} {p pos : Pos} (hm : X.mg "range" = none) (ha : XE X cl P a f) (hg : Gl X "range" := by rfl) (hs : starEach [a] X.env = [(false, eval a X.env)] := by rfl) :
    XI X cl P tg (.Call (.Name "range" p) [a] [] pos) (iR1 (aC f aN)) := fun E hE =>
  PI.weak (pi_range1 hg hm (xa_cons ha xa_nil hs E hE) hs) fun σ H R ⟨T, ms, ds, ms', s, z, k⟩ => by
    unfold iR1 at z
    obtain ⟨l, e1, z⟩ := Option.bind_eq_some_iff.mp z
    refine ⟨T, ms, l.1, l.2, s, e1, fun vs H1 hl s1 => ?_⟩
    have s2 := s1.argsF
    have hl2 : vs.length = (l.1.map frz).length := by simpa using hl
    generalize l.1.map frz = fl at z s2 hl2
    match fl, vs, hl2, z, s2 with
    | [.int j], [v], _, z, s2 =>
      have s3 : Stt ⟨cl, X.K⟩ E ((v, .p (.int j)) :: T) σ l.2 H1 := s2
      dsimp only at z
      split at z
      · rename_i hb
        cases z
        obtain rfl := s3.rep.int_of
        exact ⟨j, rfl, (sml_ok hb).1, (sml_ok hb).2, k _ _ H1 itr_ok s3.pop⟩
      · cases z
theorem xi_range2 {tg a b : Expr} {f g : EF} {p pos : Pos} (hm : X.mg "range" = none) (ha : XE X cl P a f) (hb : XE X cl P b g) (hg : Gl X "range" := by rfl)
    (hs : starEach [a, b] X.env = [(false, eval a X.env), (false, eval b X.env)] := by rfl) (hs2 : starEach [b] X.env = [(false, eval b X.env)] := by rfl) :
    XI X cl P tg (.Call (.Name "range" p) [a, b] [] pos) (iR2 (aC f (aC g aN))) := fun E hE =>
  PI.weak (pi_range2 hg hm (xa_cons ha (xa_cons hb xa_nil hs2) (by rw [hs, hs2]) E hE) hs hs2) fun σ H R ⟨T, ms, ds, ms', s, z, k⟩ => by
    unfold iR2 at z
    obtain ⟨l, e1, z⟩ := Option.bind_eq_some_iff.mp z
    refine ⟨T, ms, l.1, l.2, s, e1, fun vs H1 hl s1 => ?_⟩
    have s2 := s1.argsF
    have hl2 : vs.length = (l.1.map frz).length := by simpa using hl
    generalize l.1.map frz = fl at z s2 hl2
    match fl, vs, hl2, z, s2 with
    | [.int i, .int j], [u, v], _, z, s2 =>
      have s3 : Stt ⟨cl, X.K⟩ E ((u, .p (.int i)) :: (v, .p (.int j)) :: T) σ l.2 H1 := s2
      dsimp only at z
      split at z
      · rename_i hb
        cases z
        obtain rfl := s3.rep.int_of
        obtain rfl := s3.pop.rep.int_of
        exact ⟨i, j, rfl, ⟨(sml_ok hb.1).1, (sml_ok hb.1).2, (sml_ok hb.2).1, (sml_ok hb.2).2⟩, k _ _ H1 itr_ok s3.pop.pop⟩
      · cases z
/-! ### for -/
def forF (tg : GF) (body : SF) : List D → En → Option (Fl × En)
  | [], ms => some (.nx, ms)
  | d :: ds, ms => (tg (.p d) ms).bind fun m1 => (body m1).bind fun o => match o.1 with
    | .nx => forF tg body ds o.2
    | .ct => forF tg body ds o.2
    | .bk => some (.nx, o.2)
    | .rt m => some (.rt m, o.2)
def sFor (it : IF) (tg : GF) (body : SF) : SF := fun ms => (it ms).bind fun l => forF tg body l.1 l.2
theorem Stt.unders {Y : Tx} {E : Ent} {T A : List (V × M)} {σ : St} {ms : En} {H : Hp} (s : Stt Y E (A ++ T) σ ms H) : Stt Y E T σ ms H := by
  induction A with
  | nil => exact s
  | cons a A ih => exact ih s.pop
theorem xs_for {tg iter : Expr} {body : List Stmt} {pos : Pos} {it : IF} {W : List Nat} {t : GF} {b : SF} (hp : PassesOwn (model X.prog X.w) X.A X.env X.xe) (hc : X.calm = true) (hi : XI X cl P tg iter it) (hg : XG X cl P tg W t) (hb : XB X cl P body b)
    (hs : ∀ x, foldedSetIterable iter X.env x = pure x := by intro _; rfl) : XS X cl P (.For tg iter body [] pos) (sFor it t b) := fun E hE =>
  PS.weak (ps_for hp hc (hi E hE) (hg E hE) (hb E hE) hs) fun D σ H ⟨T, ms, o, ms', s, z, k⟩ => by
    unfold sFor at z
    obtain ⟨l, e1, z⟩ := Option.bind_eq_some_iff.mp z
    refine ⟨T, ms, l.1, l.2, s, e1, fun J U H1 hJ s1 => ?_⟩
    refine ⟨fun i m σ2 H2 => m = l.1.length - i ∧ i ≤ l.1.length ∧ ∃ ms2, Stt ⟨cl, X.K⟩ E (U ++ T) σ2 ms2 H2 ∧ forF t b (l.1.drop i) ms2 = some (o, ms'), ⟨_, rfl, Nat.zero_le _, l.2, s1, z⟩, ?_⟩
    rintro i m σ2 H2 ⟨rfl, hi', ms2, s2, z2⟩
    by_cases hlt : i < l.1.length
    · have hd : l.1.drop i = l.1[i] :: l.1.drop (i + 1) := List.drop_eq_getElem_cons hlt
      rw [hd] at z2
      obtain ⟨go, yl⟩ := (hJ i E T σ2 ms2 H2 s2).2 l.1[i] (List.getElem?_eq_getElem hlt)
      refine .inr ⟨go, fun σ' H' => i + 1 ≤ l.1.length ∧ ∃ ms3, Stt ⟨cl, X.K⟩ E (U ++ T) σ' ms3 H' ∧ forF t b (l.1.drop (i + 1)) ms3 = some (o, ms'), fun σ' H' ⟨h1, h2⟩ => ⟨_, by omega, rfl, h1, h2⟩, fun x H3 y => ?_⟩
      unfold forF at z2
      obtain ⟨m1, e2, z2⟩ := Option.bind_eq_some_iff.mp z2
      obtain ⟨q, e3, z2⟩ := Option.bind_eq_some_iff.mp z2
      refine ⟨U ++ T, ms2, .p l.1[i], m1, yl x H3 y, e2, fun σ3 H4 _ _ s3 => ⟨U ++ T, m1, q.1, q.2, s3, e3, ?_⟩⟩
      obtain ⟨qo, qm⟩ := q
      cases qo with
      | nx => exact fun σ4 H5 s4 => ⟨hlt, qm, s4, z2⟩
      | ct => exact fun σ4 H5 s4 => ⟨hlt, qm, s4, z2⟩
      | bk => cases z2; exact fun σ4 H5 s4 => k σ4 H5 s4.unders
      | rt m => cases z2; exact fun v σ4 H5 s4 => k v σ4 H5 s4.under
    · have e : i = l.1.length := by omega
      subst e
      rw [List.drop_length] at z2
      cases z2
      exact .inl ⟨(hJ _ E T σ2 _ H2 s2).1 (Nat.le_refl _), k σ2 H2 s2.unders⟩
/-! ### while -/
def whF (c : TF) (body : SF) : Nat → En → Option (Fl × En)
  | 0, _ => none
  | n + 1, ms => (c ms).bind fun a => if a.1 = true then (body a.2).bind fun o => match o.1 with
      | .nx => whF c body n o.2
      | .ct => whF c body n o.2
      | .bk => some (.nx, o.2)
      | .rt m => some (.rt m, o.2)
    else some (.nx, a.2)
def sWh (n : Nat) (c : TF) (body : SF) : SF := fun ms => whF c body n ms
theorem xs_while (n : Nat) {c : Expr} {body : List Stmt} {pos : Pos} {t : TF} {b : SF} (hp : PassesOwn (model X.prog X.w) X.A X.env X.xe) (hc : XT X cl P c t) (hb : XB X cl P body b) : XS X cl P (.While c body [] pos) (sWh n t b) := fun E hE =>
  PS.weak (ps_while hp (hc E hE) (hb E hE)) fun D σ H ⟨T, ms, o, ms', s, z, k⟩ => by
    refine ⟨fun m σ2 H2 => ∃ ms2, Stt ⟨cl, X.K⟩ E T σ2 ms2 H2 ∧ whF t b m ms2 = some (o, ms'), ⟨n, ms, s, z⟩, ?_⟩
    rintro m σ2 H2 ⟨ms2, s2, z2⟩
    cases m with
    | zero => cases z2
    | succ m =>
      unfold whF at z2
      obtain ⟨a, e1, z2⟩ := Option.bind_eq_some_iff.mp z2
      refine ⟨T, ms2, a.1, a.2, s2, e1, fun H3 s3 => ?_⟩
      by_cases h : a.1 = true
      · rw [if_pos h] at z2 ⊢
        obtain ⟨q, e3, z2⟩ := Option.bind_eq_some_iff.mp z2
        refine ⟨fun σ' H' => ∃ ms3, Stt ⟨cl, X.K⟩ E T σ' ms3 H' ∧ whF t b m ms3 = some (o, ms'), fun σ' H' h2 => ⟨m, Nat.lt_succ_self _, h2⟩, T, a.2, q.1, q.2, s3, e3, ?_⟩
        obtain ⟨qo, qm⟩ := q
        cases qo with
        | nx => exact fun σ4 H5 s4 => ⟨qm, s4, z2⟩
        | ct => exact fun σ4 H5 s4 => ⟨qm, s4, z2⟩
        | bk => cases z2; exact fun σ4 H5 s4 => k σ4 H5 s4
        | rt m => cases z2; exact fun v σ4 H5 s4 => k v σ4 H5 s4
      · rw [if_neg h] at z2 ⊢
        cases z2
        exact k σ2 H3 s3
end
end Mh
namespace Mh
open PySem L2

theorem prs_congr : ∀ {σ σ' : St} {ms : En}, σ'.length = σ.length → (∀ (i : Nat) (m : M), ms[i]? = some (some m) → σ'[i]? = σ[i]?) → prs σ' ms = prs σ ms
  | [], [], _, _, _ => rfl
  | [], _ :: _, _, h, _ => by cases h
  | _ :: _, [], _, h, _ => by cases h
  | x :: σ, y :: σ', [], _, _ => by cases x <;> cases y <;> rfl
  | x :: σ, y :: σ', m :: ms, hl, h => by
    have ih := prs_congr (σ := σ) (σ' := σ') (ms := ms) (by simpa using hl) fun i n q => by
      have := h (i + 1) n (by simpa using q)
      simpa using this
    cases m with
    | none => rw [prs_no, prs_no, ih]
    | some n =>
      have e : y = x := by simpa using h 0 n rfl
      subst e
      cases y with
      | none => rw [prs_on, prs_on, ih]
      | some v => rw [prs_cc, prs_cc, ih]
def wpM (ms : En) : List Nat → En
  | [] => ms
  | v :: vs => (wpM ms vs).set v none
def NoneAt (vs : List Nat) (ms : En) : Prop := ∀ v ∈ vs, ∀ m, ms[v]? ≠ some (some m)
theorem wpM_get (ms : En) : ∀ (vs : List Nat) (i : Nat) (m : M), (wpM ms vs)[i]? = some (some m) → ms[i]? = some (some m) ∧ i ∉ vs
  | [], i, m, h => ⟨h, by simp⟩
  | v :: vs, i, m, h => by
    unfold wpM at h
    by_cases hi : v = i
    · subst hi
      by_cases hv : v < (wpM ms vs).length
      · rw [List.getElem?_set_self hv] at h; cases h
      · rw [List.getElem?_eq_none (by simpa using hv)] at h; cases h
    · rw [List.getElem?_set_ne hi] at h
      obtain ⟨h1, h2⟩ := wpM_get ms vs i m h
      exact ⟨h1, by simp only [List.mem_cons, not_or]; exact ⟨fun e => hi e.symm, h2⟩⟩
theorem wpM_none (ms : En) (vs : List Nat) : NoneAt vs (wpM ms vs) := fun v hv m h => (wpM_get ms vs v m h).2 hv
theorem wpM_len (ms : En) : ∀ vs : List Nat, (wpM ms vs).length = ms.length
  | [] => rfl
  | v :: vs => by unfold wpM; rw [List.length_set, wpM_len ms vs]
theorem wipe_at {σ : St} : ∀ {vs : List Nat} {i : Nat}, i ∈ vs → i < σ.length → (wipe σ vs)[i]? = some none
  | v :: vs, i, h, hl => by
    unfold wipe
    by_cases hi : v = i
    · subst hi
      exact List.getElem?_set_self (by rw [wipe_length]; exact hl)
    · rw [List.getElem?_set_ne hi]
      rcases List.mem_cons.mp h with e | e
      · exact absurd e.symm hi
      · exact wipe_at e hl
theorem wipe_eq {σ σ' : St} {vs : List Nat} (hl : σ'.length = σ.length) (h : ∀ j, j ∉ vs → σ'[j]? = σ[j]?) : wipe σ' vs = wipe σ vs := by
  refine List.ext_getElem? fun i => ?_
  by_cases hi : i ∈ vs
  · by_cases hlt : i < σ.length
    · rw [wipe_at hi hlt, wipe_at hi (by rw [hl]; exact hlt)]
    · rw [List.getElem?_eq_none (by rw [wipe_length]; omega), List.getElem?_eq_none (by rw [wipe_length]; omega)]
  · rw [wipe_out hi, wipe_out hi, h i hi]
section
variable {Y : Tx} {E : Ent} {H : Hp} {T : List (V × M)} {σ σ' : St} {ms : En} {vs : List Nat}
theorem Stt.resig (s : Stt Y E T σ ms H) (hl : σ'.length = σ.length) (h : ∀ (i : Nat) (m : M), ms[i]? = some (some m) → σ'[i]? = σ[i]?) (hp : ∀ iv ∈ E.prot, σ'[iv.1]? = some (some iv.2)) : Stt Y E T σ' ms H :=
  ⟨s.len.trans hl.symm, fun i m q => by rw [h i m q]; exact s.cov i m q, by rw [prs_congr hl h]; exact s.rel, hp⟩
theorem Stt.forgets (s : Stt Y E T σ ms H) : ∀ vs : List Nat, Stt Y E T σ (wpM ms vs) H
  | [] => s
  | v :: vs => (Stt.forgets s vs).forget v
theorem Stt.toWipe (s : Stt Y E T σ ms H) (hv : ∀ v ∈ vs, v ∉ E.prot.map (·.1)) : Stt Y E T (wipe σ vs) (wpM ms vs) H :=
  (s.forgets vs).resig (wipe_length σ vs) (fun i m h => wipe_out (wpM_get ms vs i m h).2) fun iv h => by
    rw [wipe_out fun z => hv _ z (List.mem_map_of_mem h)]
    exact s.prot iv h
theorem Stt.ofWipe (s : Stt Y E T (wipe σ vs) ms H) (hn : NoneAt vs ms) (hp : ∀ iv ∈ E.prot, σ[iv.1]? = some (some iv.2)) : Stt Y E T σ ms H :=
  s.resig (wipe_length σ vs).symm (fun i m h => by
    by_cases hi : i ∈ vs
    · exact absurd h (hn i hi m)
    · exact (wipe_out hi).symm) hp
/-- an item put at an owned list's end -/
theorem Stt.snoc {D : Addr} {ds : List Mh.D} {v : V} {d : Mh.D} (s : Stt Y E ((v, .p d) :: (.ref D, .l ds) :: T) σ ms H) : ∃ vs, H D = some (.lst vs) ∧ vs.length = ds.length ∧ Stt Y E ((.ref D, .l (ds ++ [d])) :: T) σ ms (upd H D (.lst (vs ++ [v]))) := by
  obtain ⟨a, B, vs, e, hB, h, r, q, w, _⟩ := s.swap.ownL
  cases e
  refine ⟨vs, h, r.len, ?_⟩
  have := w (vs ++ [v]) (ds ++ [d]) [] (r.app (.one (q v d (by simp)))) (by simp)
  exact (show Stt Y E ((.ref D, .l (ds ++ [d])) :: (v, .p d) :: T) σ ms (upd H D (.lst (vs ++ [v]))) from this).swap.pop
end
/-! ### list comprehensions -/
def lcF (tg : GF) (tt : TF) (te : EF) (vs : List Nat) : List D → En → List D → Option (List D × En)
  | [], ms, acc => some (acc, ms)
  | d :: ds, ms, acc => (tg (.p d) ms).bind fun m1 => (tt m1).bind fun b => if b.1 = true then (te b.2).bind fun y => if acc.length < sizeLine then lcF tg tt te vs ds (wpM y.2 vs) (acc ++ [frz y.1]) else none
    else lcF tg tt te vs ds (wpM b.2 vs) acc
def xLc (it : IF) (tg : GF) (tt : TF) (te : EF) (vs : List Nat) : EF := fun ms => (it ms).bind fun l => (lcF tg tt te vs l.1 (wpM l.2 vs) []).bind fun r => some (.l r.1, r.2)
def XTs (X : Cx) (cl : Nat → Addr) (P : List Nat) (ifs : List Expr) (f : TF) : Prop := ∀ E : Ent, E.prot.map (·.1) = P → PTs X ifs (tT ⟨cl, X.K⟩ E f)
def tfY : TF := fun ms => some (true, ms)
section
variable {X : Cx} {cl : Nat → Addr} {P : List Nat}
theorem xts_nil : XTs X cl P [] tfY := fun E hE => ⟨fun pins s σ H Q I ⟨T, ms, b, ms', st, z, k⟩ => by cases z; exact pts_nil.run pins s σ H Q I (k H st)⟩
theorem xts_one {c : Expr} {f : TF} (h : XT X cl P c f) : XTs X cl P [c] f := fun E hE => pts_one (h E hE)
abbrev Blk (X : Cx) (scope : Scope) (p : Cx → Prop) : Prop := ∀ (s : Shared) (H : Hp) (C : Addr) (cs : List (Str × Addr)) (fp : List Addr), p (X.blk s H scope (compEnvC scope cs C X.env) fp)
theorem lc_cor {E : Ent} {W : List Nat} {t : GF} {tt : TF} {te : EF} {vs : List Nat} (hW : ∀ j ∈ W, j ∈ vs) (hv : ∀ v ∈ vs, v ∉ E.prot.map (·.1)) {T U : List (V × M)} {J : It} {σ : St} {ms : En} {H1 : Hp} {ds : List D} {r : List D × En} {Q : VK}
    (hp : ∀ iv ∈ E.prot, σ[iv.1]? = some (some iv.2)) (hJ : IterOk ⟨cl, X.K⟩ J U ds) (s1 : Stt ⟨cl, X.K⟩ E (U ++ T) σ ms H1) (e2 : lcF t tt te vs ds (wpM ms vs) [] = some r) (k : ∀ v H', Stt ⟨cl, X.K⟩ E ((v, .l r.1) :: (U ++ T)) σ r.2 H' → Q v H') :
    tLc (fun _ _ R => R J H1) (tG ⟨cl, X.K⟩ E W t) (tT ⟨cl, X.K⟩ E tt) (tE ⟨cl, X.K⟩ E te) vs σ H1 Q := fun D hD => by
  have s2 : Stt ⟨cl, X.K⟩ E ((.ref D, .l []) :: (U ++ T)) σ ms (upd H1 D (.lst [])) := by
    obtain ⟨B, _, _, _, _, kl, _⟩ := s1.pure
    exact kl D [] [] hD .nil
  have perm : ∀ {x : V × M} {σ : St} {ms : En} {H : Hp}, Stt ⟨cl, X.K⟩ E (x :: (U ++ T)) σ ms H → Stt ⟨cl, X.K⟩ E (U ++ x :: T) σ ms H := fun s => s.of (s.rel.perm (List.Perm.append_right _ List.perm_middle.symm))
  have perm2 : ∀ {x : V × M} {σ : St} {ms : En} {H : Hp}, Stt ⟨cl, X.K⟩ E (U ++ x :: T) σ ms H → Stt ⟨cl, X.K⟩ E (x :: (U ++ T)) σ ms H := fun s => s.of (s.rel.perm (List.Perm.append_right _ List.perm_middle))
  refine ⟨fun i m H => m = ds.length - i ∧ i ≤ ds.length ∧ ∃ acc msi, NoneAt vs msi ∧ Stt ⟨cl, X.K⟩ E ((.ref D, .l acc) :: (U ++ T)) (wipe σ vs) msi H ∧ lcF t tt te vs (ds.drop i) msi acc = some r,
    ⟨_, rfl, Nat.zero_le _, [], wpM ms vs, wpM_none _ _, s2.toWipe hv, e2⟩, ?_⟩
  rintro i m H2 ⟨rfl, hi', acc, msi, hn, si, zi⟩
  by_cases hlt : i < ds.length
  · have hd : ds.drop i = ds[i] :: ds.drop (i + 1) := List.drop_eq_getElem_cons hlt
    rw [hd] at zi
    obtain ⟨go, yl⟩ := (hJ i E _ _ msi H2 (perm si)).2 ds[i] (List.getElem?_eq_getElem hlt)
    refine .inr ⟨go, fun H' => i + 1 ≤ ds.length ∧ ∃ acc msi, NoneAt vs msi ∧ Stt ⟨cl, X.K⟩ E ((.ref D, .l acc) :: (U ++ T)) (wipe σ vs) msi H' ∧ lcF t tt te vs (ds.drop (i + 1)) msi acc = some r, fun H' ⟨h1, h2⟩ => ⟨_, by omega, rfl, h1, h2⟩, fun x H3 y => ?_⟩
    unfold lcF at zi
    obtain ⟨m1, e3, zi⟩ := Option.bind_eq_some_iff.mp zi
    obtain ⟨b, e4, zi⟩ := Option.bind_eq_some_iff.mp zi
    refine ⟨_, msi, .p ds[i], m1, yl x H3 y, e3, fun σ3 H4 hj hl3 s3 => ?_⟩
    have hw : wipe σ3 vs = wipe σ vs := wipe_eq (hl3.trans (wipe_length σ vs)) fun j hjv => (hj j fun z => hjv (hW j z)).trans (wipe_out hjv)
    refine ⟨hw, _, m1, b.1, b.2, s3, e4, fun H5 s5 => ?_⟩
    by_cases h : b.1 = true
    · rw [if_pos h] at zi ⊢
      obtain ⟨y, e5, zi⟩ := Option.bind_eq_some_iff.mp zi
      refine ⟨_, b.2, y.1, y.2, s5, e5, fun u H6 s6 => ?_⟩
      split at zi
      · rename_i hz
        have s7 := (s6.toWipe (vs := vs) hv).frz
        rw [hw] at s7
        have s8 : Stt ⟨cl, X.K⟩ E ((u, .p (frz y.1)) :: (.ref D, .l acc) :: (U ++ T)) (wipe σ vs) (wpM y.2 vs) H6 := s7.of (by
          refine Rel.perm s7.rel (List.Perm.cons _ ?_)
          exact List.Perm.append_right _ List.perm_middle)
        obtain ⟨vs', h1, h2, h3⟩ := s8.snoc
        exact ⟨vs', h1, by rw [h2]; exact hz, hlt, _, _, wpM_none _ _, h3, zi⟩
      · cases zi
    · rw [if_neg h] at zi ⊢
      have s7 := s5.toWipe (vs := vs) hv
      rw [hw] at s7
      exact ⟨hlt, acc, _, wpM_none _ _, perm2 s7, zi⟩
  · have e : i = ds.length := by omega
    subst e
    rw [List.drop_length] at zi
    cases zi
    exact .inl ⟨(hJ _ E _ _ _ H2 (perm si)).1 (Nat.le_refl _), k _ _ (si.ofWipe hn hp)⟩
theorem lc_in {E : Ent} {it : IF} {W : List Nat} {t : GF} {tt : TF} {te : EF} {vs : List Nat} (hW : ∀ j ∈ W, j ∈ vs) (hv : ∀ v ∈ vs, v ∉ E.prot.map (·.1)) : ∀ σ H Q, tE ⟨cl, X.K⟩ E (xLc it t tt te vs) σ H Q →
    tLc (tI ⟨cl, X.K⟩ E it) (tG ⟨cl, X.K⟩ E W t) (tT ⟨cl, X.K⟩ E tt) (tE ⟨cl, X.K⟩ E te) vs σ H Q := fun σ H Q ⟨T, ms, m, ms', s, z, k⟩ => by
  unfold xLc at z
  obtain ⟨l, e1, z⟩ := Option.bind_eq_some_iff.mp z
  obtain ⟨r, e2, z⟩ := Option.bind_eq_some_iff.mp z
  cases z
  exact ⟨T, ms, l.1, l.2, s, e1, fun J U H1 hJ s1 => lc_cor (H1 := H1) hW hv s.prot hJ s1 e2 fun v H' s' => k v H' s'.under⟩
theorem xe_lc {elt tg iter : Expr} {ifs : List Expr} {scope : Scope} {own : List (Str × Nat)} {pos : Pos} {it : IF} {W : List Nat} {t : GF} {tt : TF} {te : EF} (hc : X.calm = true) (hN : X.N.Nodup) (hi : XI X cl P tg iter it) (ok : BlkOk X.N X.env.scope scope own)
    (hg : Blk X scope fun Z => XG Z cl P tg W t) (ht : Blk X scope fun Z => XTs Z cl P ifs tt) (he : Blk X scope fun Z => XE Z cl P elt te) (hW : ∀ j ∈ W, j ∈ own.map (·.2) := by decide) (hP : ∀ j ∈ own.map (·.2), j ∉ P := by decide)
    (hs : ∀ x, foldedSetIterable iter X.env x = pure x := by intro _; rfl) : XE X cl P (.ListComp elt [⟨tg, iter, ifs, 0⟩] scope pos) (xLc it t tt te (own.map (·.2))) := fun E hE =>
  PE.weak (pe_lc hc hN (hi E hE) ok (fun s H C cs fp => hg s H C cs fp E hE) (fun s H C cs fp => ht s H C cs fp E hE) (fun s H C cs fp => he s H C cs fp E hE) hs) (lc_in hW fun v hv => by rw [hE]; exact hP v hv)
theorem xs_setLc (i : Nat) {y : Str} {py : Pos} {elt tg iter : Expr} {ifs : List Expr} {scope : Scope} {own : List (Str × Nat)} {pos spos : Pos} {it : IF} {W : List Nat} {t : GF} {tt : TF} {te : EF} (hc : X.calm = true) (hN : X.N.Nodup)
    (hi : XI X cl P tg iter it) (ok : BlkOk X.N X.env.scope scope own)
    (hg : Blk X scope fun Z => XG Z cl P tg W t) (ht : Blk X scope fun Z => XTs Z cl P ifs tt) (he : Blk X scope fun Z => XE Z cl P elt te) (hW : ∀ j ∈ W, j ∈ own.map (·.2) := by decide) (hP : ∀ j ∈ own.map (·.2), j ∉ P := by decide) (hPi : i ∉ P := by decide)
    (hy : X.N[i]? = some y := by rfl) (hyl : X.env.scope.names.lookup y = some .local := by rfl)
    (hsw : swapsWith (.ListComp elt [⟨tg, iter, ifs, 0⟩] scope pos) (some (.Name y py)) spos.line X.env = pure true := by exact sw_true rfl rfl rfl (by decide +kernel))
    (hs : ∀ x, foldedSetIterable iter X.env x = pure x := by intro _; rfl) : XS X cl P (.Assign [.Name y py] (.ListComp elt [⟨tg, iter, ifs, 0⟩] scope pos) spos) (sSet i (xLc it t tt te (own.map (·.2)))) := fun E hE =>
  PS.weak (ps_setLc hc hN hy hyl hsw (hi E hE) ok (fun s H C cs fp => hg s H C cs fp E hE) (fun s H C cs fp => ht s H C cs fp E hE) (fun s H C cs fp => he s H C cs fp E hE) hs) fun D σ H ⟨T, ms, o, ms', s, z, k⟩ => by
    unfold sSet at z
    obtain ⟨a, e1, z⟩ := Option.bind_eq_some_iff.mp z
    split at z
    · rename_i h
      cases z
      refine lc_in hW (fun v hv => by rw [hE]; exact hP v hv) σ H _ ⟨T, ms, a.1, a.2, s, e1, fun v H' s' => k _ _ (s'.set ?_ ?_)⟩
      · rw [← s'.len]; exact h
      · rw [hE]; exact hPi
    · cases z
end
end Mh
namespace Mh
open PySem L2

/-! ### a def's promise by a plain function -/
/-- from what the arguments are: what comes back, what the lent ones are then -/
abbrev FF := List M → Option (M × En)
def spF (Y : Tx) (n : Nat) (ff : FF) : Sp := fun vs H Q _ => ∃ B fp ms, vs.length = n ∧ ms.length = n ∧ RelB Y ⟨B, H, fp, []⟩ B fp (vs.zip ms) H ∧ ∃ m ms', ff ms = some (m, ms') ∧
  ∀ v H', Rel Y ⟨B, H, fp, []⟩ ((v, m) :: prs (vs.map some) ms') H' → Q v H'
theorem spF.imp {Y : Tx} {n : Nat} {ff gg : FF} (h : ∀ ms r, gg ms = some r → ff ms = some r) : ∀ vs H Q E, spF Y n gg vs H Q E → spF Y n ff vs H Q E := fun vs H Q E ⟨B, fp, ms, h1, h2, h3, m, ms', h4, k⟩ =>
  ⟨B, fp, ms, h1, h2, h3, m, ms', h _ _ h4, k⟩
/-- the lent slots alone -/
def kp (P : List Nat) : Nat → En → En
  | _, [] => []
  | i, m :: ms => (if i ∈ P then m else none) :: kp P (i + 1) ms
theorem kp_len (P : List Nat) : ∀ (i : Nat) (ms : En), (kp P i ms).length = ms.length
  | _, [] => rfl
  | i, m :: ms => by simp [kp, kp_len P (i + 1) ms]
theorem kp_get (P : List Nat) : ∀ (ms : En) (i j : Nat) (m : M), (kp P i ms)[j]? = some (some m) → ms[j]? = some (some m) ∧ i + j ∈ P
  | [], i, j, m, h => by simp [kp] at h
  | x :: ms, i, 0, m, h => by
    simp only [kp, List.getElem?_cons_zero, Option.some.injEq] at h
    split at h
    · rename_i hp; subst h; exact ⟨rfl, hp⟩
    · cases h
  | x :: ms, i, j + 1, m, h => by
    simp only [kp, List.getElem?_cons_succ] at h
    obtain ⟨h1, h2⟩ := kp_get P ms (i + 1) j m h
    exact ⟨by simpa using h1, by rw [show i + (j + 1) = i + 1 + j by omega]; exact h2⟩
def fnF (N n : Nat) (P : List Nat) (body : SF) : FF := fun ms => (body (ms.map some ++ List.replicate (N - n) none)).bind fun o => match o.1 with
  | .rt m => some (m, kp P 0 (o.2.take n))
  | .nx => some (.p .non, kp P 0 (o.2.take n))
  | _ => none
theorem prs_nones : ∀ (k : Nat) (ms : En), prs (List.replicate k none) ms = []
  | 0, _ => by simp [prs]
  | k + 1, [] => by rw [List.replicate_succ]; rfl
  | k + 1, m :: ms => by rw [List.replicate_succ, prs_on]; exact prs_nones k ms
theorem prs_app : ∀ (vs : List V) (ms : En) (k : Nat), prs (vs.map some ++ List.replicate k none) ms = prs (vs.map some) (ms.take vs.length)
  | [], ms, k => by
    show prs (List.replicate k none) ms = prs [] _
    rw [prs_nones]
    cases ms <;> rfl
  | v :: vs, [], k => by rfl
  | v :: vs, none :: ms, k => by
    show prs (some v :: (vs.map some ++ List.replicate k none)) (none :: ms) = prs (some v :: vs.map some) (none :: ms.take vs.length)
    rw [prs_no, prs_no, prs_app vs ms k]
  | v :: vs, some m :: ms, k => by
    show prs (some v :: (vs.map some ++ List.replicate k none)) (some m :: ms) = prs (some v :: vs.map some) (some m :: ms.take vs.length)
    rw [prs_cc, prs_cc, prs_app vs ms k]
theorem prs_zip : ∀ (vs : List V) (ms : List M), prs (vs.map some) (ms.map some) = vs.zip ms
  | [], ms => by cases ms <;> rfl
  | _ :: _, [] => rfl
  | v :: vs, m :: ms => by
    show prs (some v :: vs.map some) (some m :: ms.map some) = _
    rw [prs_cc, prs_zip vs ms, List.zip_cons_cons]
theorem prs_nil2 (ms : En) : prs [] ms = [] := by cases ms <;> rfl
theorem prs_tail (σ : St) (ms : En) : prs σ (none :: ms) = prs σ.tail ms := by
  cases σ with
  | nil => rw [List.tail_nil, prs_nil2, prs_nil2]
  | cons x σ => rw [prs_no, List.tail_cons]
theorem prs_nil3 (σ : St) : prs σ [] = [] := by
  cases σ with
  | nil => rfl
  | cons x σ => cases x <;> rfl
theorem prs_congr2 : ∀ {ms : En} {σ σ' : St}, (∀ (i : Nat) (m : M), ms[i]? = some (some m) → ∃ v, σ[i]? = some (some v) ∧ σ'[i]? = some (some v)) → prs σ' ms = prs σ ms
  | [], σ, σ', _ => by rw [prs_nil3, prs_nil3]
  | none :: ms, σ, σ', h => by
    rw [prs_tail, prs_tail]
    refine prs_congr2 fun i m e => ?_
    obtain ⟨v, h1, h2⟩ := h (i + 1) m (by simpa using e)
    refine ⟨v, ?_, ?_⟩
    · cases σ with
      | nil => simp at h1
      | cons x σ => simpa using h1
    · cases σ' with
      | nil => simp at h2
      | cons x σ => simpa using h2
  | some m :: ms, σ, σ', h => by
    obtain ⟨v, h1, h2⟩ := h 0 m rfl
    cases σ with
    | nil => simp at h1
    | cons x σ =>
      cases σ' with
      | nil => simp at h2
      | cons x' σ' =>
        simp at h1 h2
        subst h1 h2
        rw [prs_cc, prs_cc]
        congr 1
        refine prs_congr2 fun i n e => ?_
        obtain ⟨u, q1, q2⟩ := h (i + 1) n (by simpa using e)
        exact ⟨u, by simpa using q1, by simpa using q2⟩
theorem RelB.prot {Y : Tx} {B0 H0 B H : Hp} {fp0 fp : List Addr} {pr pr' : List (Nat × V)} {L : List (V × M)} (h : RelB Y ⟨B0, H0, fp0, pr⟩ B fp L H) : RelB Y ⟨B0, H0, fp0, pr'⟩ B fp L H := ⟨h.grow, h.sep, h.nd, h.own⟩
theorem Rel.prot {Y : Tx} {B0 H0 H : Hp} {fp0 : List Addr} {pr pr' : List (Nat × V)} {L : List (V × M)} (h : Rel Y ⟨B0, H0, fp0, pr⟩ L H) : Rel Y ⟨B0, H0, fp0, pr'⟩ L H := let ⟨B, fp, r⟩ := h; ⟨B, fp, r.prot⟩
section
variable {Pg : Program} {w : World} {K : PySem.W.Frag} {mg : Str → Option Value} {base : Heap} {cl : Nat → Addr}
/-- THE RULE for a def: by its body -/
theorem fn_bodyR {N ps : List Str} {sc : Scope} {H : Hp} {vs : List V} {Q : VK} {E : XK} {P : List Nat} {b : SF} {R : TS → Prop} (S : FnScope N ps sc) (hP : ∀ i ∈ P, i < ps.length)
    (hbody : ∀ E : Ent, E.prot.map (·.1) = P → R (tS ⟨cl, K⟩ E b)) (h : spF ⟨cl, K⟩ ps.length (fnF N.length ps.length P b) vs H Q E) :
    ∃ t, R t ∧ t { nx := fun _ H' => Q .non H', rt := Q } (L2.start N vs) H := by
  obtain ⟨B, fp, ms, h1, h2, h3, m, ms', h4, kk⟩ := h
  have hpl : ps.length ≤ N.length := by have := congrArg List.length S.pre; rw [List.length_take] at this; omega
  refine ⟨_, hbody ⟨B, H, fp, P.map fun i => (i, vs.getD i .non)⟩ (by rw [List.map_map]; exact (List.map_id P)), ?_⟩
  unfold fnF at h4
  obtain ⟨o, e1, h4⟩ := Option.bind_eq_some_iff.mp h4
  have hst : L2.start N vs = vs.map some ++ List.replicate (N.length - ps.length) none := by unfold L2.start; rw [h1]
  have s0 : Stt ⟨cl, K⟩ ⟨B, H, fp, P.map fun i => (i, vs.getD i .non)⟩ [] (L2.start N vs) (ms.map some ++ List.replicate (N.length - ps.length) none) H := by
    refine ⟨by rw [hst]; simp [h1, h2], fun i n e => ?_, ?_, fun iv hi => ?_⟩
    · have hi : i < ms.length := by
        by_cases hi : i < ms.length
        · exact hi
        · rw [List.getElem?_append_right (by simpa using hi), List.getElem?_replicate] at e
          split at e <;> cases e
      refine ⟨vs[i]'(by omega), ?_⟩
      rw [hst, List.getElem?_append_left (by simp; omega), List.getElem?_map, List.getElem?_eq_getElem (by omega)]
      all_goals rfl
    · rw [List.nil_append, hst, prs_app, List.take_append_of_le_length (by simp; omega), List.take_of_length_le (by simp; omega), prs_zip]
      exact h3.prot.rel
    · obtain ⟨i, hiP, rfl⟩ := List.mem_map.mp hi
      have hlt : i < vs.length := by rw [h1]; exact hP i hiP
      show (L2.start N vs)[i]? = some (some (vs.getD i .non))
      rw [hst, List.getElem?_append_left (by simp; omega), List.getElem?_map, List.getElem?_eq_getElem hlt, List.getD_eq_getElem?_getD, List.getElem?_eq_getElem hlt]
      all_goals rfl
  have fin : ∀ {n : M} {v : V} {σ' : St} {H' : Hp}, Stt ⟨cl, K⟩ ⟨B, H, fp, P.map fun i => (i, vs.getD i .non)⟩ [(v, n)] σ' o.2 H' → Rel ⟨cl, K⟩ ⟨B, H, fp, []⟩ ((v, n) :: prs (vs.map some) (kp P 0 (o.2.take ps.length))) H' := by
    intro n v σ' H' s'
    -- only the lent slots
    have key : Rel ⟨cl, K⟩ ⟨B, H, fp, P.map fun i => (i, vs.getD i .non)⟩ ((v, n) :: prs σ' (kp P 0 o.2)) H' := by
      have drop : ∀ (σ : St) (ms : En) (i : Nat) (L : List (V × M)), Rel ⟨cl, K⟩ ⟨B, H, fp, P.map fun i => (i, vs.getD i .non)⟩ (L ++ prs σ ms) H' → Rel ⟨cl, K⟩ ⟨B, H, fp, P.map fun i => (i, vs.getD i .non)⟩ (L ++ prs σ (kp P i ms)) H' := by
        intro σ
        induction σ with
        | nil => intro ms i L h; cases ms <;> exact h
        | cons y σ ih =>
          intro ms i L h
          cases ms with
          | nil => exact h
          | cons x ms =>
            show Rel _ _ (L ++ prs (y :: σ) ((if i ∈ P then x else none) :: kp P (i + 1) ms)) H'
            cases y with
            | none => rw [prs_on] at h ⊢; exact ih ms (i + 1) L h
            | some u =>
              cases x with
              | none =>
                rw [prs_no] at h
                have e : (if i ∈ P then (none : Option M) else none) = none := by split <;> rfl
                rw [e, prs_no]; exact ih ms (i + 1) L h
              | some q =>
                rw [prs_cc] at h
                split
                · rw [prs_cc]
                  have := ih ms (i + 1) (L ++ [(u, q)]) (by simpa using h)
                  simpa using this
                · rw [prs_no]
                  refine ih ms (i + 1) L ?_
                  exact (h.perm List.perm_middle).tail
      exact drop σ' o.2 0 [(v, n)] s'.rel
    rw [← prs_congr2 (σ' := L2.start N vs) (fun i q hq => ?_), hst, prs_app] at key
    · have e3 : (kp P 0 o.2).take vs.length = kp P 0 (o.2.take ps.length) := by
        rw [h1]
        have : ∀ (n i : Nat) (ms : En), (kp P i ms).take n = kp P i (ms.take n) := by
          intro n
          induction n with
          | zero => intro i ms; simp [kp]
          | succ n ih =>
            intro i ms
            cases ms with
            | nil => simp [kp]
            | cons x ms => simp [kp, ih]
        exact this _ _ _
      rw [e3] at key
      exact key.prot
    · obtain ⟨h5, h6⟩ := kp_get P o.2 0 i q hq
      rw [Nat.zero_add] at h6
      exact ⟨_, s'.prot (i, vs.getD i .non) (List.mem_map.mpr ⟨i, h6, rfl⟩), s0.prot (i, vs.getD i .non) (List.mem_map.mpr ⟨i, h6, rfl⟩)⟩
  obtain ⟨oo, om⟩ := o
  refine ⟨[], _, oo, om, s0, e1, ?_⟩
  cases oo with
  | nx => cases h4; exact fun σ' H' s' => kk _ _ (fin (s'.scal fun _ => .non))
  | rt n => cases h4; exact fun v σ' H' s' => kk _ _ (fin s')
  | bk => cases h4
  | ct => cases h4
theorem fn_body {qual : Str} {sc : Scope} {body : List Stmt} {f : Addr} {N ps : List Str} {cdv : Value} {A : Around} {outer : List Env} {s : Shared} {H : Hp} {vs : List V} {Q : VK} {E : XK} {P : List Nat} {b : SF} (S : FnScope N ps sc) (hP : ∀ i ∈ P, i < ps.length)
    (hbody : XB (cxOf CX0 Pg w K mg base N qual sc f cdv A outer s H E).nox cl P body b) (h : spF ⟨cl, K⟩ ps.length (fnF N.length ps.length P b) vs H Q E) :
    ∃ t, PSs (cxOf CX0 Pg w K mg base N qual sc f cdv A outer s H E).nox body t ∧ t { nx := fun _ H' => Q .non H', rt := Q } (L2.start N vs) H :=
  fn_bodyR (R := fun t => PSs (cxOf CX0 Pg w K mg base N qual sc f cdv A outer s H E).nox body t) S hP hbody h
theorem fn_ok {x qual : Str} {st : Stmt} {f : Addr} {fd : FuncData} {N ps : List Str} {k : Nat} {P : List Nat} {b : SF} (F : Fun K x qual st f fd) (S : FnScope N ps (defScope st)) (hP : ∀ i ∈ P, i < ps.length)
    (hbody : ∀ (cdv : Value) (A : Around) (outer : List Env) (s : Shared) (H : Hp) (E : XK), Room k (A.deeper (PyProof.Rows.envOfC qual (defScope st) s.heap.objs.size f cdv)) → XB (cxOf CX0 Pg w K mg base N qual (defScope st) f cdv A outer s H E).nox cl P (defBody st) b) :
    FnOk Pg w K mg base CX0 (k + 1) f fd ps (spF ⟨cl, K⟩ ps.length (fnF N.length ps.length P b)) :=
  F.ok S (fun vs H Q E ⟨_, _, _, h, _⟩ => h) (fun cdv A outer s H vs Q E hr h => fn_body S hP (hbody cdv A outer s H E hr) h)
/-- .. a def with defaults -/
theorem fn_ok8 {x qual : Str} {st : Stmt} {f : Addr} {fd : FuncData} {N ps : List Str} {k : Nat} {P : List Nat} {b : SF} (F : C8.Fun K x qual st f fd) (S : FnScope N ps (C8.fnScope st)) (hP : ∀ i ∈ P, i < ps.length)
    (hbody : ∀ (cdv : Value) (A : Around) (outer : List Env) (s : Shared) (H : Hp) (E : XK), Room k (A.deeper (PyProof.Rows.envOfC qual (C8.fnScope st) s.heap.objs.size f cdv)) → XB (cxOf CX0 Pg w K mg base N qual (C8.fnScope st) f cdv A outer s H E).nox cl P (C8.fnBody st) b) :
    FnOk Pg w K mg base CX0 (k + 1) f fd ps (spF ⟨cl, K⟩ ps.length (fnF N.length ps.length P b)) :=
  C8.fn0 F S (fun vs H Q E ⟨_, _, _, h, _⟩ => h) (fun cdv A outer s H vs Q E hr h => fn_body S hP (hbody cdv A outer s H E hr) h)
end
end Mh
namespace Mh
open PySem L2

/-! ### argument lists of calls: values, and slots lent -/
def tB (Y : Tx) (E : Ent) (bs : List (Option Nat)) (f : AF) : TA := fun σ H Q => ∃ T ms m ms', Stt Y E T σ ms H ∧ f ms = some (m, ms') ∧
  ∀ vs H', vs.length = m.length → bs.length = vs.length → (∀ (j i : Nat), bs[j]? = some (some i) → ∃ v, vs[j]? = some v ∧ σ[i]? = some (some v)) → Stt Y E (tmps vs m T) σ ms' H' → Q vs H'
def XAb (X : Cx) (cl : Nat → Addr) (P : List Nat) (es : List Expr) (bs : List (Option Nat)) (f : AF) : Prop := ∀ E : Ent, E.prot.map (·.1) = P → PA X es (tB ⟨cl, X.K⟩ E bs f)
/-- the frame of a call -/
theorem RelB.frame {Y : Tx} {E : Ent} {B H1 B2 H2 : Hp} {fA fR fp2 : List Addr} {LR L2 : List (V × M)} {pr : List (Nat × V)} (g : Grow E.fp E.B E.H B H1) (sR : Sep Y B H1 LR fR) (nd : (fA ++ fR).Nodup) (ow : ∀ a ∈ fA ++ fR, B a = none ∧ (E.H a = none ∨ a ∈ E.fp))
    (there : ∀ a ∈ fR, H1 a ≠ none) (h2 : RelB Y ⟨B, H1, fA, pr⟩ B2 fp2 L2 H2) : RelB Y E B2 (fp2 ++ fR) (L2 ++ LR) H2 := by
  obtain ⟨g2, s2, nd2, ow2⟩ := h2
  have g2' : Grow fA B H1 B2 H2 := g2
  have ndp := List.nodup_append.mp nd
  have nA : ∀ a ∈ fR, a ∉ fA := fun a ha hA => ndp.2.2 a hA a ha rfl
  have keep : ∀ a ∈ fR, H2 a = H1 a := fun a ha => by
    cases e : H1 a with
    | none => exact absurd e (there a ha)
    | some o =>
      rcases g2'.keep a o e (nA a ha) with q | ⟨_, q, _⟩
      · exact q
      · rw [(ow a (List.mem_append_right _ ha)).1] at q; cases q
  have dis : ∀ a ∈ fp2, a ∉ fR := fun a ha hR => by
    rcases (ow2 a ha).2 with q | q
    · exact there a hR q
    · exact nA a hR q
  refine ⟨g.trans g2' fun x hx => (ow x (List.mem_append_left _ hx)).2, s2.app (sR.mono g2'.exB keep), List.nodup_append.mpr ⟨nd2, ndp.2.1, fun a ha b hb e => dis a ha (e ▸ hb)⟩, fun a ha => ?_⟩
  rcases List.mem_append.mp ha with q | q
  · refine ⟨(ow2 a q).1, ?_⟩
    rcases (ow2 a q).2 with z | z
    · exact .inl (g.live a z)
    · exact (ow a (List.mem_append_left _ z)).2
  · exact ⟨g2'.new a (there a q) (nA a q) (ow a (List.mem_append_right _ q)).1, (ow a (List.mem_append_right _ q)).2⟩
theorem Sep.there {Y : Tx} {B H : Hp} {L : List (V × M)} {fp : List Addr} (s : Sep Y B H L fp) : ∀ a ∈ fp, H a ≠ none := by
  have k1 : ∀ {v : V} {m : M} {fp : List Addr}, RepM Y B H v m fp → ∀ a ∈ fp, H a ≠ none := by
    intro v m fp r
    refine RepM.rec (motive_1 := fun v m fp _ => ∀ a ∈ fp, H a ≠ none) (motive_2 := fun v m fp _ => ∀ a ∈ fp, H a ≠ none) ?_ ?_ ?_ ?_ ?_ ?_ r
    · intro v d _ a h; cases h
    · intro b vs ds e _ a h; simp at h; subst h; rw [e]; exact fun z => nomatch z
    · intro b vs ds e _ a h; simp at h; subst h; rw [e]; exact fun z => nomatch z
    · intro b dx c vs fs fp e _ ih a h
      rcases List.mem_cons.mp h with q | q
      · subst q; rw [e]; exact fun z => nomatch z
      · exact ih a q
    · intro a h; cases h
    · intro k v m fp fps vs ms _ _ i1 i2 a h
      rcases List.mem_append.mp h with q | q
      · exact i1 a q
      · exact i2 a q
  induction s with
  | nil => intro a h; cases h
  | cons r s ih =>
    intro a h
    rcases List.mem_append.mp h with q | q
    · exact k1 r a q
    · exact ih a q
theorem Sep.pure0 {Y : Tx} {B H : Hp} : ∀ {vs : List V} {ds : List D}, RepL Y B vs ds → Sep Y B H (vs.zip (ds.map .p)) []
  | _, _, .nil => .nil
  | _, _, .cons a r => by
    rw [List.map_cons, List.zip_cons_cons]
    exact Sep.cons (fp := []) (.p a) (Sep.pure0 r)
def isHole : Option (Option M) → Bool
  | some none => true
  | _ => false
theorem isHole_eq {o : Option (Option M)} (h : isHole o = true) : o = some none := by
  cases o with
  | none => cases h
  | some o => cases o with
    | none => rfl
    | some _ => cases h
/-- what the lent ones are then -/
def putB : List (Option Nat) → En → En → Option En
  | [], _, ms => some ms
  | none :: bs, _ :: cs, ms => putB bs cs ms
  | none :: bs, [], ms => putB bs [] ms
  | some i :: bs, some m :: cs, ms => if isHole ms[i]? = true then putB bs cs (ms.set i (some m)) else none
  | some _ :: bs, none :: cs, ms => putB bs cs ms
  | some _ :: bs, [], ms => putB bs [] ms
theorem putB_ok {Y : Tx} {E : Ent} {σ : St} {H : Hp} : ∀ {bs : List (Option Nat)} {cs : En} {ms ms' : En} {us : List V} {T : List (V × M)}, putB bs cs ms = some ms' → bs.length ≤ us.length →
    (∀ (j i : Nat), bs[j]? = some (some i) → ∃ v, us[j]? = some v ∧ σ[i]? = some (some v)) → Stt Y E (prs (us.map some) cs ++ T) σ ms H → Stt Y E T σ ms' H
  | [], cs, ms, ms', us, T, h, _, _, s => by cases h; exact s.unders
  | b :: bs, cs, ms, ms', [], T, h, hl, _, _ => by simp at hl
  | none :: bs, c :: cs, ms, ms', u :: us, T, h, hl, hb, s => by
    refine putB_ok (bs := bs) (us := us) (cs := cs) h (by simpa using hl) (fun j i e => by simpa using hb (j + 1) i (by simpa using e)) ?_
    cases c with
    | none => exact s
    | some m => exact Stt.pop (v := u) (m := m) s
  | none :: bs, [], ms, ms', u :: us, T, h, hl, hb, s => by
    refine putB_ok (bs := bs) (us := us) (cs := []) h (by simpa using hl) (fun j i e => by simpa using hb (j + 1) i (by simpa using e)) ?_
    rw [prs_nil3] at s ⊢
    exact s
  | some i :: bs, [], ms, ms', u :: us, T, h, hl, hb, s => by
    refine putB_ok (bs := bs) (us := us) (cs := []) h (by simpa using hl) (fun j i e => by simpa using hb (j + 1) i (by simpa using e)) ?_
    rw [prs_nil3] at s ⊢
    exact s
  | some i :: bs, none :: cs, ms, ms', u :: us, T, h, hl, hb, s => by
    refine putB_ok (bs := bs) (us := us) (cs := cs) h (by simpa using hl) (fun j i e => by simpa using hb (j + 1) i (by simpa using e)) ?_
    exact s
  | some i :: bs, some m :: cs, ms, ms', u :: us, T, h, hl, hb, s => by
    unfold putB at h
    split at h
    · rename_i hi
      refine putB_ok (bs := bs) (us := us) (cs := cs) h (by simpa using hl) (fun j i e => by simpa using hb (j + 1) i (by simpa using e)) ?_
      obtain ⟨v, e1, e2⟩ := hb 0 i rfl
      simp at e1
      subst e1
      have s' : Stt Y E ((u, m) :: (prs (us.map some) cs ++ T)) σ ms H := s
      exact s'.put e2 (isHole_eq hi)
    · cases h
def xFn (ff : FF) (dd : List D) (bs : List (Option Nat)) (a : AF) : EF := fun ms => (a ms).bind fun l => (ff (l.1 ++ dd.map .p)).bind fun r => (putB bs r.2 l.2).bind fun ms' => some (r.1, ms')
section
variable {X : Cx} {cl : Nat → Addr} {P : List Nat}
theorem xab_nil : XAb X cl P [] [] aN := fun E _ => PA.weak pa_nil fun σ H Q ⟨T, ms, m, ms', s, e, k⟩ => by cases e; exact k [] H rfl rfl (fun j i h => by simp at h) s
theorem xab_val {e : Expr} {es : List Expr} {f : EF} {g : AF} {bs : List (Option Nat)} (ha : XE X cl P e f) (hr : XAb X cl P es bs g) (hs : starEach (e :: es) X.env = (false, eval e X.env) :: starEach es X.env := by rfl) : XAb X cl P (e :: es) (none :: bs) (aC f g) := fun E hE =>
  PA.weak (pa_cons (ha E hE) (hr E hE) hs) fun σ H Q ⟨T, ms, m, ms', s, e, k⟩ => by
    unfold aC at e
    obtain ⟨a, e1, e⟩ := Option.bind_eq_some_iff.mp e
    obtain ⟨b, e2, e⟩ := Option.bind_eq_some_iff.mp e
    cases e
    exact ⟨T, ms, a.1, a.2, s, e1, fun x H1 s1 => ⟨(x, a.1) :: T, a.2, b.1, b.2, s1, e2, fun vs H2 hl hb hσ s2 => k (x :: vs) H2 (by simp [hl]) (by simp [hb]) (fun j i h => by
      cases j with
      | zero => cases h
      | succ j => simpa using hσ j i (by simpa using h)) s2⟩⟩
/-- a slot lent -/
theorem xab_lend (i : Nat) {x : Str} {pos : Pos} {es : List Expr} {g : AF} {bs : List (Option Nat)} (hr : XAb X cl P es bs g) (hN : X.N[i]? = some x := by rfl) (hv : Vis X.env.scope x := by first | exact Or.inl rfl | exact Or.inr (Or.inl rfl) | exact Or.inr (Or.inr rfl))
    (hs : starEach (.Name x pos :: es) X.env = (false, eval (.Name x pos) X.env) :: starEach es X.env := by rfl) (hd : (x == ("__debug__" : Str)) = false := by decide) (hcd : (x == ("__classdict__" : Str)) = false := by decide) :
    XAb X cl P (.Name x pos :: es) (some i :: bs) (aC (xTk i) g) := fun E hE =>
  PA.weak (pa_cons (pe_var hN hv hd hcd) (hr E hE) hs) fun σ H Q ⟨T, ms, m, ms', s, e, k⟩ => by
    unfold aC at e
    obtain ⟨a, e1, e⟩ := Option.bind_eq_some_iff.mp e
    obtain ⟨b, e2, e⟩ := Option.bind_eq_some_iff.mp e
    cases e
    unfold xTk at e1
    split at e1
    · rename_i n hn
      cases e1
      obtain ⟨v, h1⟩ := s.cov _ _ hn
      exact ⟨v, h1, (v, n) :: T, ms.set i none, b.1, b.2, s.take h1 hn, e2, fun vs H2 hl hb hσ s2 => k (v :: vs) H2 (by simp [hl]) (by simp [hb]) (fun j i' h => by
        cases j with
        | zero => simp at h; subst h; exact ⟨v, rfl, h1⟩
        | succ j => simpa using hσ j i' (by simpa using h)) s2⟩
    · cases e1
/-- a call's reading: the promise at the arguments gives what the plain function says -/
theorem call_in {E : Ent} {T : List (V × M)} {σ : St} {ms2 ms' : En} {H1 : Hp} {vs dvs : List V} {l : List M} {m : M} {c : En} {bs : List (Option Nat)} {dd : List D} {n : Nat} {ff : FF} {Q : VK} {E0 : XK} (hdd : ∀ B, RepL ⟨cl, X.K⟩ B dvs dd)
    (hl : vs.length = l.length) (hb : bs.length = vs.length) (hn : (l ++ dd.map M.p).length = n) (hσ : ∀ (j i : Nat), bs[j]? = some (some i) → ∃ v, vs[j]? = some v ∧ σ[i]? = some (some v)) (s : Stt ⟨cl, X.K⟩ E (tmps vs l T) σ ms2 H1)
    (hf : ff (l ++ dd.map .p) = some (m, c)) (hp : putB bs c ms2 = some ms') (k : ∀ v H', Stt ⟨cl, X.K⟩ E ((v, m) :: T) σ ms' H' → Q v H') : spF ⟨cl, X.K⟩ n ff (vs ++ dvs) H1 Q E0 := by
  have s1 := s.args
  obtain ⟨B, fp, g, sp, nd, ow⟩ := s1.rel
  rw [List.append_assoc] at sp
  obtain ⟨fA, fR, rfl, sA, sR⟩ := sp.split
  have ndp := List.nodup_append.mp nd
  have hdl := (hdd B).len
  refine ⟨B, fA, l ++ dd.map .p, by rw [← hn]; simp [hl, hdl], hn, ⟨Grow.refl g.sub, ?_, ndp.1, fun a ha => ⟨(ow a (List.mem_append_left _ ha)).1, .inr ha⟩⟩, m, c, hf, fun v H' ⟨B2, fp2, r2⟩ => k v H' ?_⟩
  · rw [List.zip_append hl]
    have := sA.app (Sep.pure0 (H := H1) (hdd B))
    simpa using this
  · have fr := RelB.frame g sR nd ow sR.there r2
    have s2 : Stt ⟨cl, X.K⟩ E ((v, m) :: (prs ((vs ++ dvs).map some) c ++ T)) σ ms2 H' := s1.of (by
      have := fr.rel
      rw [List.cons_append] at this
      rw [List.cons_append, List.append_assoc]
      exact this)
    have s3 : Stt ⟨cl, X.K⟩ E (prs ((vs ++ dvs).map some) c ++ (v, m) :: T) σ ms2 H' := s2.of (s2.rel.perm (List.Perm.append_right _ List.perm_middle.symm))
    refine putB_ok hp (by simp [hb]) (fun j i e => ?_) s3
    obtain ⟨u, e1, e2⟩ := hσ j i e
    exact ⟨u, by rw [List.getElem?_append_left (List.getElem?_eq_some_iff.mp e1).1]; exact e1, e2⟩
theorem xe_call {k n : Nat} {f : Addr} {fd : FuncData} {ps : List Str} {ff : FF} {x : Str} {p pos : Pos} {e : Expr} {es : List Expr} {a : AF} {bs : List (Option Nat)} {dvs : List V} {ds : List Value} {dd : List D}
    (F : FnOk X.prog X.w X.K X.mg X.base CX0 k f fd ps (spF ⟨cl, X.K⟩ n ff)) (hr : Room k X.A) (hm : X.mg x = some (.ref f)) (hk : PySem.W.keepIn X.K (.ref f) = true) (hb : Binds X.K fd ps ds) (hd : Vals dvs ds) (hdd : ∀ B, RepL ⟨cl, X.K⟩ B dvs dd) (hn : bs.length + dd.length = n)
    (ha : XAb X cl P (e :: es) bs a) (hg : Gl X x := by rfl) (hdb : (x == ("__debug__" : Str)) = false := by decide) (he : starEach (e :: es) X.env = (false, eval e X.env) :: starEach es X.env := by rfl) (hpl : (backTo pos (starEach es X.env)).any (·.1) = false := by rfl) :
    XE X cl P (.Call (.Name x p) (e :: es) [] pos) (xFn ff dd bs a) := fun E hE =>
  PE.weak (pe_call F hr hg hm hk hb hd pass0 (ha E hE) hdb he hpl) fun σ H Q ⟨T, ms, m, ms', s, z, kk⟩ => by
    unfold xFn at z
    obtain ⟨l, e1, z⟩ := Option.bind_eq_some_iff.mp z
    obtain ⟨r, e2, z⟩ := Option.bind_eq_some_iff.mp z
    obtain ⟨q, e3, z⟩ := Option.bind_eq_some_iff.mp z
    cases z
    exact ⟨T, ms, l.1, l.2, s, e1, fun vs H1 hl hbl hσ s1 => call_in hdd hl hbl (by simp [← hn, hbl, hl]) hσ s1 e2 e3 kk⟩
end
end Mh
namespace Mh
open PySem L2

/-! ### a slot that holds a list of its own -/
section
variable {Y : Tx} {E : Ent} {H : Hp} {T : List (V × M)} {σ : St} {ms : En} {i : Nat}
theorem set_back {ms : En} {i : Nat} {m : M} (h : ms[i]? = some (some m)) : (ms.set i none).set i (some m) = ms := by
  rw [List.set_set]
  refine List.ext_getElem? fun j => ?_
  by_cases hj : i = j
  · subst hj
    rw [List.getElem?_set_self (List.getElem?_eq_some_iff.mp h).1, h]
  · rw [List.getElem?_set_ne hj]
theorem hole_at {ms : En} {i : Nat} {m : M} (h : ms[i]? = some (some m)) : (ms.set i none)[i]? = some none := List.getElem?_set_self (List.getElem?_eq_some_iff.mp h).1
theorem Stt.slotL {ds : List D} (s : Stt Y E T σ ms H) (h : ms[i]? = some (some (.l ds))) : ∃ a B vs, σ[i]? = some (some (.ref a)) ∧ Ex B H ∧ H a = some (.lst vs) ∧ RepL Y B vs ds ∧ (∀ u d, (u, M.p d) ∈ T → Rep Y B u d) ∧
    (∀ vs' ds' (pv : List (V × D)), RepL Y B vs' ds' → (∀ q ∈ pv, Rep Y B q.1 q.2) → Stt Y E (pures pv ++ T) σ (ms.set i (some (.l ds'))) (upd H a (.lst vs'))) ∧
    (∀ (pv : List (V × D)), (∀ q ∈ pv, Rep Y B q.1 q.2) → Stt Y E (pures pv ++ T) σ ms H) := by
  obtain ⟨v, h1⟩ := s.cov i _ h
  obtain ⟨a, B, vs, rfl, hB, ha, r, q, w, w0⟩ := (s.take h1 h).ownL
  refine ⟨a, B, vs, h1, hB, ha, r, q, fun vs' ds' pv hr hp => ?_, fun pv hp => ?_⟩
  · have x := w vs' ds' pv hr hp
    have y : Stt Y E ((.ref a, .l ds') :: (pures pv ++ T)) σ (ms.set i none) (upd H a (.lst vs')) := x.of (x.rel.perm (List.Perm.append_right _ List.perm_middle))
    have z := y.put h1 (hole_at h)
    rw [List.set_set] at z
    exact z
  · have x := w0 pv hp
    have y : Stt Y E ((.ref a, .l ds) :: (pures pv ++ T)) σ (ms.set i none) H := x.of (x.rel.perm (List.Perm.append_right _ List.perm_middle))
    have z := y.put h1 (hole_at h)
    rw [set_back h] at z
    exact z
theorem Stt.slotK {ds : List (Key × D)} (s : Stt Y E T σ ms H) (h : ms[i]? = some (some (.dk ds))) : ∃ a B vs, σ[i]? = some (some (.ref a)) ∧ Ex B H ∧ H a = some (.dK vs) ∧ RepK Y B vs ds ∧ (∀ u d, (u, M.p d) ∈ T → Rep Y B u d) ∧
    (∀ vs' ds' (pv : List (V × D)), RepK Y B vs' ds' → (∀ q ∈ pv, Rep Y B q.1 q.2) → Stt Y E (pures pv ++ T) σ (ms.set i (some (.dk ds'))) (upd H a (.dK vs'))) ∧
    (∀ (pv : List (V × D)), (∀ q ∈ pv, Rep Y B q.1 q.2) → Stt Y E (pures pv ++ T) σ ms H) := by
  obtain ⟨v, h1⟩ := s.cov i _ h
  obtain ⟨a, B, vs, rfl, hB, ha, r, q, w, w0⟩ := (s.take h1 h).ownK
  refine ⟨a, B, vs, h1, hB, ha, r, q, fun vs' ds' pv hr hp => ?_, fun pv hp => ?_⟩
  · have x := w vs' ds' pv hr hp
    have y : Stt Y E ((.ref a, .dk ds') :: (pures pv ++ T)) σ (ms.set i none) (upd H a (.dK vs')) := x.of (x.rel.perm (List.Perm.append_right _ List.perm_middle))
    have z := y.put h1 (hole_at h)
    rw [List.set_set] at z
    exact z
  · have x := w0 pv hp
    have y : Stt Y E ((.ref a, .dk ds) :: (pures pv ++ T)) σ (ms.set i none) H := x.of (x.rel.perm (List.Perm.append_right _ List.perm_middle))
    have z := y.put h1 (hole_at h)
    rw [set_back h] at z
    exact z
end
def slL (ms : En) (i : Nat) : Option (List D) := match ms[i]? with | some (some (.l ds)) => some ds | _ => none
def slK (ms : En) (i : Nat) : Option (List (Key × D)) := match ms[i]? with | some (some (.dk ds)) => some ds | _ => none
theorem slL_eq {ms : En} {i : Nat} {ds : List D} (h : slL ms i = some ds) : ms[i]? = some (some (.l ds)) := by
  unfold slL at h
  split at h
  · rename_i q; cases h; exact q
  · cases h
theorem slK_eq {ms : En} {i : Nat} {ds : List (Key × D)} (h : slK ms i = some ds) : ms[i]? = some (some (.dk ds)) := by
  unfold slK at h
  split at h
  · rename_i q; cases h; exact q
  · cases h
def xIxO (i : Nat) (g : EF) : EF := fun ms => (slL ms i).bind fun _ => (g ms).bind fun a => (slL a.2 i).bind fun ds => match frz a.1 with
  | .int k => (atI ds k).bind fun d => some (.p d, a.2)
  | _ => none
def sSetIx (i : Nat) (f g : EF) : SF := fun ms => (f ms).bind fun a => (slL a.2 i).bind fun _ => (g a.2).bind fun b => (slL b.2 i).bind fun ds => match frz b.1 with
  | .int k => (ixN ds.length k).bind fun j => some (.nx, b.2.set i (some (.l (ds.set j (frz a.1)))))
  | _ => none
def xApp (i : Nat) (f : EF) : EF := fun ms => (slL ms i).bind fun _ => (f ms).bind fun a => (slL a.2 i).bind fun ds => if ds.length < sizeLine then some (.p .non, a.2.set i (some (.l (ds ++ [frz a.1])))) else none
def xPopAt (i : Nat) (f : EF) : EF := fun ms => (slL ms i).bind fun _ => (f ms).bind fun a => (slL a.2 i).bind fun ds => match frz a.1 with
  | .int k => if 0 ≤ k ∧ k < ds.length ∧ ds.length ≤ sizeLine then (ds[k.toNat]?).bind fun d => some (.p d, a.2.set i (some (.l (ds.eraseIdx k.toNat)))) else none
  | _ => none
def xPop (i : Nat) : EF := fun ms => (slL ms i).bind fun ds => (ds[ds.length - 1]?).bind fun d => some (.p d, ms.set i (some (.l ds.dropLast)))
def xLenO (i : Nat) : EF := fun ms => (slL ms i).bind fun ds => some (.p (.int ds.length), ms)
theorem rSetL_ok {Y : Tx} {E : Ent} {T : List (V × M)} {σ : St} {ms : En} {H : Hp} {i j : Nat} {u w y : V} {d : D} {k : Int} {ds : List D} {Q : Hp → Prop} (s : Stt Y E ((y, .p (.int k)) :: (w, .p d) :: T) σ ms H) (hs : slL ms i = some ds) (hu : σ[i]? = some (some u))
    (hj : ixN ds.length k = some j) (kk : ∀ H', Stt Y E T σ (ms.set i (some (.l (ds.set j d)))) H' → Q H') : rSetL u y w H Q := by
  obtain ⟨ad, B, vs, h1, hB, ha, r, q, wr, _⟩ := s.slotL (slL_eq hs)
  rw [hu] at h1
  cases h1
  obtain rfl := (q y (.int k) (by simp)).int_of
  have rw' := q w d (by simp)
  refine ⟨ad, vs, k, j, rfl, rfl, ha, by rw [r.len]; exact hj, kk _ ?_⟩
  have := wr (vs.set j w) (ds.set j d) [] (r.set j rw') (by simp)
  exact (show Stt Y E ((.int k, .p (.int k)) :: (w, .p d) :: T) σ (ms.set i (some (.l (ds.set j d)))) (upd H ad (.lst (vs.set j w))) from this).pop.pop
section
variable {X : Cx} {cl : Nat → Addr} {P : List Nat}
theorem xe_ixO (i : Nat) {x : Str} {b : Expr} {p pos : Pos} {g : EF} (hb : XE X cl P b g) (hN : X.N[i]? = some x := by rfl) (hv : Vis X.env.scope x := by first | exact Or.inl rfl | exact Or.inr (Or.inl rfl) | exact Or.inr (Or.inr rfl))
    (hs : PlainIx b := by exact fun _ _ => rfl) (hd : (x == ("__debug__" : Str)) = false := by decide) (hcd : (x == ("__classdict__" : Str)) = false := by decide) : XE X cl P (.Subscript (.Name x p) b pos) (xIxO i g) := fun E hE =>
  PE.weak (pe_ix ix_list (pe_var hN hv hd hcd) (hb E hE) hs) fun σ H Q ⟨T, ms, m, ms', s, z, k⟩ => by
    unfold xIxO at z
    obtain ⟨ds0, e0, z⟩ := Option.bind_eq_some_iff.mp z
    obtain ⟨a, e1, z⟩ := Option.bind_eq_some_iff.mp z
    obtain ⟨ds, e2, z⟩ := Option.bind_eq_some_iff.mp z
    obtain ⟨v, hv⟩ := s.cov i _ (slL_eq e0)
    refine ⟨v, hv, T, ms, a.1, a.2, s, e1, fun y H2 s2 => ?_⟩
    have s3 := s2.frz
    generalize frz a.1 = fa at z s3
    cases fa with
    | int kk =>
      obtain ⟨d, e3, z⟩ := Option.bind_eq_some_iff.mp z
      cases z
      obtain ⟨ad, B, vs, h1, hB, ha, r, q, _, w0⟩ := s3.slotL (slL_eq e2)
      rw [hv] at h1
      cases h1
      obtain rfl := (q y (.int kk) (by simp)).int_of
      obtain ⟨u, h2, h3⟩ := atI_rep r e3
      refine ⟨ad, vs, kk, u, rfl, rfl, SqL.of ha, h2, k _ _ ?_⟩
      have := w0 [(u, d)] (by simpa using h3)
      exact (show Stt ⟨cl, X.K⟩ E ((u, .p d) :: (.int kk, .p (.int kk)) :: T) σ a.2 H2 from this).swap.pop
    | _ => cases z
theorem xs_setIx (i : Nat) {x : Str} {b e : Expr} {p spos pos : Pos} {f g : EF} (he : XE X cl P e f) (hb : XE X cl P b g) (hN : X.N[i]? = some x := by rfl) (hv : Vis X.env.scope x := by first | exact Or.inl rfl | exact Or.inr (Or.inl rfl) | exact Or.inr (Or.inr rfl))
    (hd : (x == ("__debug__" : Str)) = false := by decide) (hcd : (x == ("__classdict__" : Str)) = false := by decide)
    (ha : ∀ v, assign (.Subscript (.Name x p) b spos) X.env v = (do
      let ov ← holding [v] (eval (.Name x p) X.env)
      let iv ← holding [v, ov] (eval b X.env)
      standAt spos
      holding [v, ov, iv] (setItem ov iv v)
      release [v, ov, iv] []) := by intro _; rfl)
    (hs : swapsWithSole [.Subscript (.Name x p) b spos] e pos.line X.env = pure false := by rfl) (hw : swappedStores [.Subscript (.Name x p) b spos] e X.env = pure none := by rfl)
    (h1 : (assignEach [.Subscript (.Name x p) b spos] X.env).map (·.2) = [assign (.Subscript (.Name x p) b spos) X.env] := by rfl) : XS X cl P (.Assign [.Subscript (.Name x p) b spos] e pos) (sSetIx i f g) := fun E hE =>
  PS.weak (ps_asg (he E hE) (pg_sub (pe_var hN hv hd hcd) (hb E hE) set_list ha) hs hw h1) fun D σ H ⟨T, ms, o, ms', s, z, k⟩ => by
    unfold sSetIx at z
    obtain ⟨a, e1, z⟩ := Option.bind_eq_some_iff.mp z
    obtain ⟨ds0, e0, z⟩ := Option.bind_eq_some_iff.mp z
    obtain ⟨b, e2, z⟩ := Option.bind_eq_some_iff.mp z
    obtain ⟨ds, e3, z⟩ := Option.bind_eq_some_iff.mp z
    refine ⟨T, ms, a.1, a.2, s, e1, fun w H1 s1 => ?_⟩
    obtain ⟨v, hv⟩ := s1.cov i _ (slL_eq e0)
    refine ⟨v, hv, _, a.2, b.1, b.2, s1, e2, fun y H2 s2 => ?_⟩
    have s3 := s2.frz2
    generalize frz b.1 = fb at z s3
    cases fb with
    | int kk =>
      obtain ⟨j, e4, z⟩ := Option.bind_eq_some_iff.mp z
      cases z
      exact rSetL_ok s3 e3 hv e4 fun H' s' => k σ H' s'
    | _ => cases z
theorem xe_app (i : Nat) {x : Str} {e : Expr} {p apos cpos : Pos} {f : EF} (he : XE X cl P e f) (hN : X.N[i]? = some x := by rfl) (hv : Vis X.env.scope x := by first | exact Or.inl rfl | exact Or.inr (Or.inl rfl) | exact Or.inr (Or.inr rfl))
    (hd : (x == ("__debug__" : Str)) = false := by decide) (hcd : (x == ("__classdict__" : Str)) = false := by decide)
    (hfew : ((backTo cpos (starEach [e] X.env)).all (fun x => !x.1) && (backToKw cpos (keywordEach [] X.env)).all (fun x => x.1.isSome)
      && decide ([e].length + ([] : List Keyword).length + (if ([] : List Keyword).isEmpty then 0 else 1) < 30)) = true := by rfl)
    (hline : (apos.endLine == cpos.line) = true := by rfl) (hs : starEach [e] X.env = (false, eval e X.env) :: starEach [] X.env := by rfl) : XE X cl P (.Call (.Attribute (.Name x p) "append" apos) [e] [] cpos) (xApp i f) := fun E hE =>
  PE.weak (pe_bm PySem.F.plainAttrs_list PySem.F.slot_list_append PySem.F.type_list_append mt_append (pe_var hN hv hd hcd) (pa_cons (he E hE) pa_nil hs) (hfew := hfew) (hline := hline) (hs := hs)) fun σ H Q ⟨T, ms, m, ms', s, z, k⟩ => by
    unfold xApp at z
    obtain ⟨ds0, e0, z⟩ := Option.bind_eq_some_iff.mp z
    obtain ⟨a, e1, z⟩ := Option.bind_eq_some_iff.mp z
    obtain ⟨ds, e2, z⟩ := Option.bind_eq_some_iff.mp z
    split at z
    · rename_i hz
      cases z
      obtain ⟨ad, B, vs, h1, hB, ha, r, q, _, _⟩ := s.slotL (slL_eq e0)
      refine ⟨.ref ad, h1, .inl ⟨rfl, vs, SqL.of ha⟩, T, ms, a.1, a.2, s, e1, fun w H1 s1 => ?_⟩
      obtain ⟨ad2, B2, vs2, h2, hB2, ha2, r2, q2, wr, _⟩ := s1.frz.slotL (slL_eq e2)
      rw [h1] at h2
      cases h2
      refine ⟨ad, vs2, w, rfl, rfl, ha2, by rw [r2.len]; exact hz, k _ _ ?_⟩
      have := wr (vs2 ++ [w]) (ds ++ [frz a.1]) [] (r2.app (.one (q2 w _ (by simp)))) (by simp)
      exact ((show Stt ⟨cl, X.K⟩ E ((w, .p (frz a.1)) :: T) σ (a.2.set i (some (.l (ds ++ [frz a.1])))) (upd H1 ad (.lst (vs2 ++ [w]))) from this).pop).scal fun _ => .non
    · cases z
theorem xe_popAt (i : Nat) {x : Str} {e : Expr} {p apos cpos : Pos} {f : EF} (he : XE X cl P e f) (hN : X.N[i]? = some x := by rfl) (hv : Vis X.env.scope x := by first | exact Or.inl rfl | exact Or.inr (Or.inl rfl) | exact Or.inr (Or.inr rfl))
    (hd : (x == ("__debug__" : Str)) = false := by decide) (hcd : (x == ("__classdict__" : Str)) = false := by decide)
    (hfew : ((backTo cpos (starEach [e] X.env)).all (fun x => !x.1) && (backToKw cpos (keywordEach [] X.env)).all (fun x => x.1.isSome)
      && decide ([e].length + ([] : List Keyword).length + (if ([] : List Keyword).isEmpty then 0 else 1) < 30)) = true := by rfl)
    (hline : (apos.endLine == cpos.line) = true := by rfl) (hs : starEach [e] X.env = (false, eval e X.env) :: starEach [] X.env := by rfl) : XE X cl P (.Call (.Attribute (.Name x p) "pop" apos) [e] [] cpos) (xPopAt i f) := fun E hE =>
  PE.weak (pe_bm PySem.F.plainAttrs_list PySem.F.slot_list_pop PySem.F.type_list_pop mt_popAt (pe_var hN hv hd hcd) (pa_cons (he E hE) pa_nil hs) (hfew := hfew) (hline := hline) (hs := hs)) fun σ H Q ⟨T, ms, m, ms', s, z, k⟩ => by
    unfold xPopAt at z
    obtain ⟨ds0, e0, z⟩ := Option.bind_eq_some_iff.mp z
    obtain ⟨a, e1, z⟩ := Option.bind_eq_some_iff.mp z
    obtain ⟨ds, e2, z⟩ := Option.bind_eq_some_iff.mp z
    obtain ⟨ad, B, vs, h1, hB, ha, r, q, _, _⟩ := s.slotL (slL_eq e0)
    refine ⟨.ref ad, h1, .inl ⟨rfl, vs, SqL.of ha⟩, T, ms, a.1, a.2, s, e1, fun w H1 s1 => ?_⟩
    have s3 := s1.frz
    generalize frz a.1 = fa at z s3
    cases fa with
    | int kk =>
      dsimp only at z
      split at z
      · rename_i hz
        obtain ⟨d, e3, z⟩ := Option.bind_eq_some_iff.mp z
        cases z
        obtain ⟨ad2, B2, vs2, h2, hB2, ha2, r2, q2, wr, _⟩ := s3.slotL (slL_eq e2)
        rw [h1] at h2
        cases h2
        obtain rfl := (q2 w (.int kk) (by simp)).int_of
        obtain ⟨u, h3, h4⟩ := r2.get kk.toNat d e3
        have hsl : sizeLine = 16777216 := sizeLine_eq
        refine ⟨ad, vs2, kk, kk.toNat, u, rfl, rfl, ha2, by omega, by omega, PySem.StrLaws.seqIndex_nonneg hz.1 (by rw [r2.len]; exact hz.2.1), h3, k _ _ ?_⟩
        have := wr (vs2.eraseIdx kk.toNat) (ds.eraseIdx kk.toNat) [(u, d)] (r2.erase _) (by simpa using h4)
        exact (show Stt ⟨cl, X.K⟩ E ((u, .p d) :: (.int kk, .p (.int kk)) :: T) σ (a.2.set i (some (.l (ds.eraseIdx kk.toNat)))) (upd H1 ad (.lst (vs2.eraseIdx kk.toNat))) from this).swap.pop
      · cases z
    | _ => cases z
theorem xe_lenO (i : Nat) {x : Str} {p pos q : Pos} (hm : X.mg "len" = none) (hN : X.N[i]? = some x := by rfl) (hv : Vis X.env.scope x := by first | exact Or.inl rfl | exact Or.inr (Or.inl rfl) | exact Or.inr (Or.inr rfl)) (hg : Gl X "len" := by rfl)
    (hd : (x == ("__debug__" : Str)) = false := by decide) (hcd : (x == ("__classdict__" : Str)) = false := by decide) (he : starEach [.Name x q] X.env = (false, eval (.Name x q) X.env) :: starEach [] X.env := by rfl) :
    XE X cl P (.Call (.Name "len" p) [.Name x q] [] pos) (xLenO i) := fun E hE =>
  PE.weak (pe_callB call_len hg hm boot_len (pa_cons (pe_var hN hv hd hcd) pa_nil he) (he := he)) fun σ H Q ⟨T, ms, m, ms', s, z, k⟩ => by
    unfold xLenO at z
    obtain ⟨ds, e0, z⟩ := Option.bind_eq_some_iff.mp z
    cases z
    obtain ⟨ad, B, vs, h1, hB, ha, r, q, _, _⟩ := s.slotL (slL_eq e0)
    refine ⟨.ref ad, h1, _, vs.length, rfl, .inl ⟨vs, SqL.of ha, rfl⟩, ?_⟩
    rw [r.len]
    exact k _ _ (s.scal fun _ => .int _)
/-! ### two, three names at once -/
def sPar (i j : Nat) (f g : EF) : SF := fun ms => (f ms).bind fun a => (g a.2).bind fun b => if i < b.2.length ∧ j < b.2.length then some (.nx, (b.2.set i (some a.1)).set j (some b.1)) else none
theorem xs_par (i j : Nat) {x y : Str} {a b : Expr} {px py pt pos : Pos} {kt k2 pt2} {f g : EF} (hc : X.calm = true) (hNd : X.N.Nodup) (ha : XE X cl P a f) (hb : XE X cl P b g) (hij : i ≠ j := by decide) (hpi : i ∉ P := by decide) (hpj : j ∉ P := by decide)
    (hi : X.N[i]? = some x := by rfl) (hj : X.N[j]? = some y := by rfl) (hx : X.env.scope.names.lookup x = some .local := by rfl) (hy : X.env.scope.names.lookup y = some .local := by rfl)
    (hw : swappedStores [.Tuple [.Name x px, .Name y py] kt pt] (.Tuple [a, b] k2 pt2) X.env = pure (some [x, y]) := by rfl)
    (hs : swapsWithSole [.Tuple [.Name x px, .Name y py] kt pt] (.Tuple [a, b] k2 pt2) pos.line X.env = pure false := by rfl)
    (h1 : starEach [a, b] X.env = (false, eval a X.env) :: starEach [b] X.env := by rfl) (h2 : starEach [b] X.env = (false, eval b X.env) :: starEach [] X.env := by rfl) :
    XS X cl P (.Assign [.Tuple [.Name x px, .Name y py] kt pt] (.Tuple [a, b] k2 pt2) pos) (sPar i j f g) := fun E hE =>
  PS.weak (ps_par hc hNd hi hj hij hx hy (pa_cons (ha E hE) (pa_cons (hb E hE) pa_nil h2) h1) hw hs) fun D σ H ⟨T, ms, o, ms', s, z, k⟩ => by
    unfold sPar at z
    obtain ⟨a, e1, z⟩ := Option.bind_eq_some_iff.mp z
    obtain ⟨b, e2, z⟩ := Option.bind_eq_some_iff.mp z
    split at z
    · rename_i hl
      cases z
      refine ⟨T, ms, a.1, a.2, s, e1, fun u H1 s1 => ⟨_, a.2, b.1, b.2, s1, e2, fun v H2 s2 => ⟨u, v, rfl, k _ _ ?_⟩⟩⟩
      have l2 := s2.len
      exact (s2.swap.set (i := i) (by omega) (by rw [hE]; exact hpi)).set (by rw [List.length_set]; omega) (by rw [hE]; exact hpj)
    · cases z
end
end Mh
namespace Mh
open PySem L2

/-! ### slices -/
abbrev PF := En → Option (Option Int × En)
def tPt (Y : Tx) (E : Ent) (f : PF) : TO := fun σ H Q => ∃ T ms o ms', Stt Y E T σ ms H ∧ f ms = some (o, ms') ∧ ∀ H', Stt Y E T σ ms' H' → Q o H'
def XO (X : Cx) (cl : Nat → Addr) (P : List Nat) (e : Option Expr) (f : PF) : Prop := ∀ E : Ent, E.prot.map (·.1) = P → PO X e (tPt ⟨cl, X.K⟩ E f)
theorem PO.weak {X : Cx} {e : Option Expr} {t t' : TO} (h : PO X e t) (w : ∀ σ H Q, t' σ H Q → t σ H Q) : PO X e t' := ⟨fun pins s σ H Q I q => h.run pins s σ H Q I (w σ H Q q)⟩
def pN : PF := fun ms => some (none, ms)
def pS (f : EF) : PF := fun ms => (f ms).bind fun a => match frz a.1 with | .int i => some (some i, a.2) | _ => none
def cutG {α : Type} (xs : List α) (lo hi : Option Int) : List α := (xs.drop (HT.sIx xs.length 0 lo)).take (HT.sIx xs.length xs.length hi - HT.sIx xs.length 0 lo)
theorem RepL.cut {Y : Tx} {B : Hp} {vs : List V} {ds : List D} (r : RepL Y B vs ds) (lo hi : Option Int) : RepL Y B (cutV vs lo hi) (cutG ds lo hi) := by
  unfold cutV cutG
  rw [r.len]
  exact RepL.take _ (RepL.drop _ r)
def dSl (lo hi : Option Int) : D → Option M
  | .lst ds => some (.l (cutG ds lo hi))
  | .str z => if z.length ≤ sizeLine then some (.p (.str (cutS z lo hi))) else none
  | .tup ds => some (.p (.tup (cutG ds lo hi)))
  | _ => none
def rSlA (K : PySem.W.Frag) : V → Option Int → Option Int → Hp → VK → Prop := fun x lo hi H Q => (rSlL K x lo hi H Q ∨ rSlS x lo hi H Q) ∨ L2.rSlA K x lo hi H Q
theorem sl_all {X : Cx} : SlR X (rSlA X.K) := (sl_list.or sl_str).or sl_tupA
def xSl (f : EF) (l h : PF) : EF := fun ms => (f ms).bind fun a => (l a.2).bind fun b => (h b.2).bind fun c => (dSl b.1 c.1 (frz a.1)).bind fun m => some (m, c.2)
section
variable {X : Cx} {cl : Nat → Addr} {P : List Nat}
theorem xo_none : XO X cl P none pN := fun E hE => PO.weak po_none fun σ H Q ⟨T, ms, o, ms', s, z, k⟩ => by cases z; exact k H s
theorem xo_some {e : Expr} {f : EF} (h : XE X cl P e f) : XO X cl P (some e) (pS f) := fun E hE => PO.weak (po_some (h E hE)) fun σ H Q ⟨T, ms, o, ms', s, z, k⟩ => by
  unfold pS at z
  obtain ⟨a, e1, z⟩ := Option.bind_eq_some_iff.mp z
  refine ⟨T, ms, a.1, a.2, s, e1, fun v H1 s1 => ?_⟩
  have s2 := s1.frz
  generalize frz a.1 = fa at z s2
  cases fa with
  | int i => cases z; exact ⟨i, s2.rep.int_of, k H1 s2.pop⟩
  | _ => cases z
theorem dSl_in {E : Ent} {T : List (V × M)} {σ : St} {ms : En} {H : Hp} {x : V} {d : D} {m : M} {lo hi : Option Int} {Q : VK} (s : Stt ⟨cl, X.K⟩ E ((x, .p d) :: T) σ ms H) (h : dSl lo hi d = some m) (k : ∀ z H', Stt ⟨cl, X.K⟩ E ((z, m) :: T) σ ms H' → Q z H') : rSlA X.K x lo hi H Q := by
  obtain ⟨B, hB, q, kp, kt, kl, _⟩ := s.pure
  have r := q x d (by simp)
  unfold dSl at h
  split at h
  · cases h
    obtain ⟨a, vs, rfl, hs, rl⟩ := r.lst_of
    exact .inl (.inl ⟨a, vs, rfl, ex_l hB hs, fun p hp => k _ _ (kl p _ _ hp (rl.cut lo hi)).swap.pop⟩)
  · obtain rfl := r.str_of
    split at h
    · rename_i hz
      cases h
      exact .inl (.inr ⟨_, rfl, hz, k _ _ (s.pop.scal fun _ => .str _)⟩)
    · cases h
  · cases h
    obtain ⟨a, vs, rfl, hs, rl⟩ := r.tup_of
    refine .inr ⟨a, vs, rfl, ex_t hB hs, fun hw => ?_, fun hw p hp => k _ _ (kt p _ _ hp (rl.cut lo hi)).swap.pop⟩
    rw [rl.len] at hw
    refine k _ _ ?_
    have e : ∀ (l : List D), HT.sIx l.length 0 lo = 0 ∧ HT.sIx l.length l.length hi = l.length → cutG l lo hi = l := fun l hw => by
      unfold cutG
      rw [hw.1, hw.2, List.drop_zero, Nat.sub_zero, List.take_length]
    rw [e _ hw]
    exact s
  · cases h
theorem xe_sl {e : Expr} {lo hi : Option Expr} {p2 pos : Pos} {f : EF} {l h : PF} (he : XE X cl P e f) (hl : XO X cl P lo l) (hh : XO X cl P hi h) : XE X cl P (.Subscript e (.Slice lo hi none p2) pos) (xSl f l h) := fun E hE =>
  PE.weak (pe_slice sl_all (he E hE) (hl E hE) (hh E hE)) fun σ H Q ⟨T, ms, m, ms', s, z, k⟩ => by
    unfold xSl at z
    obtain ⟨a, e1, z⟩ := Option.bind_eq_some_iff.mp z
    obtain ⟨b, e2, z⟩ := Option.bind_eq_some_iff.mp z
    obtain ⟨c, e3, z⟩ := Option.bind_eq_some_iff.mp z
    obtain ⟨n, e4, z⟩ := Option.bind_eq_some_iff.mp z
    cases z
    exact ⟨T, ms, a.1, a.2, s, e1, fun x H1 s1 => ⟨_, a.2, b.1, b.2, s1, e2, fun H2 s2 => ⟨_, b.2, c.1, c.2, s2, e3, fun H3 s3 => dSl_in s3.frz e4 k⟩⟩⟩
/-- xs[::-1] -/
def xRev (f : EF) : EF := fun ms => (f ms).bind fun a => match frz a.1 with | .lst ds => some (.l ds.reverse, a.2) | _ => none
theorem RepL.rev {Y : Tx} {B : Hp} : ∀ {vs : List V} {ds : List D}, RepL Y B vs ds → RepL Y B vs.reverse ds.reverse
  | _, _, .nil => .nil
  | _, _, .cons a r => by rw [List.reverse_cons, List.reverse_cons]; exact (RepL.rev r).app (.one a)
theorem xe_rev {e : Expr} {k : Nat} {p1 p2 p3 pos : Pos} {f : EF} (he : XE X cl P e f) : XE X cl P (.Subscript e (.Slice none none (some (.UnaryOp .USub (.Constant (.int 1) k p1) p2)) p3) pos) (xRev f) := fun E hE =>
  PE.weak (pe_revL (he E hE)) fun σ H Q ⟨T, ms, m, ms', s, z, kk⟩ => by
    unfold xRev at z
    obtain ⟨a, e1, z⟩ := Option.bind_eq_some_iff.mp z
    refine ⟨T, ms, a.1, a.2, s, e1, fun v H1 s1 => ?_⟩
    have s2 := s1.frz
    generalize frz a.1 = fa at z s2
    cases fa with
    | lst ds =>
      cases z
      obtain ⟨B, hB, q, kp, kt, kl, _⟩ := s2.pure
      obtain ⟨a, vs, rfl, hs, rl⟩ := (q v _ List.mem_cons_self).lst_of
      exact ⟨a, vs, rfl, ex_l hB hs, fun p hp => kk _ _ (kl p _ _ hp rl.rev).swap.pop⟩
    | _ => cases z
/-! ### methods of texts -/
def isStrD : D → Bool
  | .str _ => true
  | _ => false
def MtS (Y : Tx) (r : V → List V → Hp → VK → Prop) (op : D → D → Option M) : Prop := ∀ (E : Ent) (T : List (V × M)) (σ : St) (ms : En) (H : Hp) (x y : V) (dx dy : D) (m : M) (Q : VK),
  Stt Y E ((y, .p dy) :: (x, .p dx) :: T) σ ms H → op dx dy = some m → (∀ z H', Stt Y E ((z, m) :: T) σ ms H' → Q z H') → r x [y] H Q
def xM1 (op : D → D → Option M) (f g : EF) : EF := fun ms => (f ms).bind fun a => if isStrD (frz a.1) = true then (g a.2).bind fun b => (op (frz a.1) (frz b.1)).bind fun m => some (m, b.2) else none
theorem isStr_rep {Y : Tx} {B : Hp} {v : V} {d : D} (r : Rep Y B v d) (h : isStrD d = true) : ∃ a, v = .str a := by
  cases d with
  | str x => exact ⟨x, r.str_of⟩
  | _ => cases h
theorem xe_m1 {o e : Expr} {id : String} {name : Str} {apos pos : Pos} {r : V → List V → Hp → VK → Prop} {op : D → D → Option M} {f g : EF} (slot : Slot "str" name id) (ty : typeOf (.builtin id) = pure (.type "method_descriptor")) (rule : MtR X id r) (hs' : MtS ⟨cl, X.K⟩ r op)
    (ho : XE X cl P o f) (he : XE X cl P e g) (hs : starEach [e] X.env = [(false, eval e X.env)] := by rfl) (hbase : attributeBase o name X.env (eval o X.env) = eval o X.env := by rfl) (hline : (apos.endLine == pos.line) = true := by rfl) :
    XE X cl P (.Call (.Attribute o name apos) [e] [] pos) (xM1 op f g) := fun E hE =>
  PE.weak (pe_m1 slot ty rule (ho E hE) (he E hE) hs hbase hline) fun σ H Q ⟨T, ms, m, ms', s, z, k⟩ => by
    unfold xM1 at z
    obtain ⟨a, e1, z⟩ := Option.bind_eq_some_iff.mp z
    split at z
    · rename_i hi
      obtain ⟨b, e2, z⟩ := Option.bind_eq_some_iff.mp z
      obtain ⟨n, e3, z⟩ := Option.bind_eq_some_iff.mp z
      cases z
      exact ⟨T, ms, a.1, a.2, s, e1, fun x H1 s1 => ⟨isStr_rep s1.frz.rep hi, _, a.2, b.1, b.2, s1, e2, fun y H2 s2 => hs' E T σ b.2 H2 x y _ _ _ Q s2.frz2 e3 k⟩⟩
    · cases z
def dSplit : D → D → Option M
  | .str a, .str b => if (b.length == 0) = false ∧ a.length + 2 ≤ sizeLine then some (.l ((Txt.split a b).map .str)) else none
  | _, _ => none
def rSplit2 : V → List V → Hp → VK → Prop := fun x xs H Q => ∃ a b, x = .str a ∧ xs = [.str b] ∧ (b.length == 0) = false ∧ a.length + 2 ≤ sizeLine ∧ rNewStrs (Txt.split a b) H Q
theorem mts_split {Y : Tx} : MtS Y rSplit2 dSplit := by
  intro E T σ ms H x y dx dy m Q s e k
  unfold dSplit at e
  split at e
  · obtain rfl := s.rep.str_of
    obtain rfl := s.pop.rep.str_of
    split at e
    · rename_i h
      cases e
      refine ⟨_, _, rfl, rfl, h.1, h.2, fun p hp => k _ _ ?_⟩
      obtain ⟨B, hB, q, kp, kt, kl, _⟩ := s.pop.pop.pure
      exact kl p _ _ hp (RepL.of_strs _)
    · cases e
  · cases e
def dPart : D → D → Option M
  | .str a, .str b => if (b.length == 0) = false ∧ a.length ≤ sizeLine then some (.p (.tup [.str (Txt.partition a b).1, .str (Txt.partition a b).2.1, .str (Txt.partition a b).2.2])) else none
  | _, _ => none
def rPart2 : V → List V → Hp → VK → Prop := fun x xs H Q => ∃ a b, x = .str a ∧ xs = [.str b] ∧ (b.length == 0) = false ∧ a.length ≤ sizeLine ∧ ∀ p, H p = none → Q (.ref p) (upd H p (.tup [.str (Txt.partition a b).1, .str (Txt.partition a b).2.1, .str (Txt.partition a b).2.2]))
theorem mts_part {Y : Tx} : MtS Y rPart2 dPart := by
  intro E T σ ms H x y dx dy m Q s e k
  unfold dPart at e
  split at e
  · obtain rfl := s.rep.str_of
    obtain rfl := s.pop.rep.str_of
    split at e
    · rename_i h
      cases e
      refine ⟨_, _, rfl, rfl, h.1, h.2, fun p hp => k _ _ ?_⟩
      obtain ⟨B, hB, q, kp, kt, kl, _⟩ := s.pop.pop.pure
      exact kt p _ _ hp (.cons (.str _) (.cons (.str _) (.cons (.str _) .nil)))
    · cases e
  · cases e
def strsD : List D → Option (List Str)
  | [] => some []
  | .str x :: ds => (strsD ds).map fun xs => x :: xs
  | _ :: _ => none
theorem strsD_eq : ∀ {ds : List D} {xs : List Str}, strsD ds = some xs → ds = xs.map .str
  | [], xs, h => by cases h; rfl
  | d :: ds, xs, h => by
    cases d with
    | str x =>
      obtain ⟨ys, h1, h2⟩ := Option.map_eq_some_iff.mp (show (strsD ds).map (fun xs => x :: xs) = some xs from h)
      subst h2
      rw [strsD_eq h1]; rfl
    | _ => cases h
def dJoin : D → D → Option M
  | .str a, d => (seqD d).bind fun ds => (strsD ds).bind fun ys => if (ys.map (·.length)).sum + ys.length * a.length ≤ 16777216 then some (.p (.str (Txt.join a ys))) else none
  | _, _ => none
def rJoin2 (K : PySem.W.Frag) : V → List V → Hp → VK → Prop := fun x xs H Q => ∃ a p, ∃ ys : List Str, x = .str a ∧ xs = [.ref p] ∧ (SqL K H p (ys.map V.str) ∨ SqT K H p (ys.map V.str)) ∧ (ys.map (·.length)).sum + ys.length * a.length ≤ 16777216 ∧ Q (.str (Txt.join a ys)) H
theorem mts_join {Y : Tx} : MtS Y (rJoin2 Y.K) dJoin := by
  intro E T σ ms H x y dx dy m Q s e k
  unfold dJoin at e
  split at e
  · obtain rfl := s.pop.rep.str_of
    obtain ⟨ds, e1, e⟩ := Option.bind_eq_some_iff.mp e
    obtain ⟨ys, e2, e⟩ := Option.bind_eq_some_iff.mp e
    split at e
    · rename_i h
      cases e
      have hy := strsD_eq e2
      subst hy
      have ry := s.rep
      unfold seqD at e1
      split at e1
      · cases e1
        obtain ⟨a, vs, rfl, hs, rl⟩ := ry.tup_of
        rw [rl.strs] at hs
        exact ⟨_, a, ys, rfl, rfl, .inr hs, h, k _ _ (s.pop.pop.scal fun _ => .str _)⟩
      · cases e1
        obtain ⟨a, vs, rfl, hs, rl⟩ := ry.lst_of
        rw [rl.strs] at hs
        exact ⟨_, a, ys, rfl, rfl, .inl hs, h, k _ _ (s.pop.pop.scal fun _ => .str _)⟩
      · cases e1
    · cases e
  · cases e
theorem xe_split {o e : Expr} {apos pos : Pos} {f g : EF} (ho : XE X cl P o f) (he : XE X cl P e g) (hs : starEach [e] X.env = [(false, eval e X.env)] := by rfl) (hbase : attributeBase o "split" X.env (eval o X.env) = eval o X.env := by rfl) (hline : (apos.endLine == pos.line) = true := by rfl) :
    XE X cl P (.Call (.Attribute o "split" apos) [e] [] pos) (xM1 dSplit f g) := xe_m1 (r := rSplit2) F.slot_str_split F.type_str_split mt_split mts_split ho he hs hbase hline
theorem xe_partition {o e : Expr} {apos pos : Pos} {f g : EF} (ho : XE X cl P o f) (he : XE X cl P e g) (hs : starEach [e] X.env = [(false, eval e X.env)] := by rfl) (hbase : attributeBase o "partition" X.env (eval o X.env) = eval o X.env := by rfl) (hline : (apos.endLine == pos.line) = true := by rfl) :
    XE X cl P (.Call (.Attribute o "partition" apos) [e] [] pos) (xM1 dPart f g) := xe_m1 (r := rPart2) F.slot_str_partition F.type_str_partition mt_partition mts_part ho he hs hbase hline
theorem xe_join {o e : Expr} {apos pos : Pos} {f g : EF} (ho : XE X cl P o f) (he : XE X cl P e g) (hs : starEach [e] X.env = [(false, eval e X.env)] := by rfl) (hbase : attributeBase o "join" X.env (eval o X.env) = eval o X.env := by rfl) (hline : (apos.endLine == pos.line) = true := by rfl) :
    XE X cl P (.Call (.Attribute o "join" apos) [e] [] pos) (xM1 dJoin f g) := xe_m1 (r := rJoin2 X.K) F.slot_str_join F.type_str_join mt_join mts_join ho he hs hbase hline
/-! ### f-strings -/
def dFmt : D → Option Str
  | .str y => if y.length ≤ sizeLine then some y else none
  | .int i => if i.natAbs.log2 < 1920 then some (toString i) else none
  | _ => none
def xFmt (f : EF) : EF := fun ms => (f ms).bind fun a => (dFmt (frz a.1)).bind fun y => some (.p (.str y), a.2)
theorem xe_fmt {e : Expr} {pos : Pos} {f : EF} (he : XE X cl P e f) : XE X cl P (.FormattedValue e (-1) none pos) (xFmt f) := fun E hE =>
  PE.weak (pe_fmt (he E hE)) fun σ H Q ⟨T, ms, m, ms', s, z, k⟩ => by
    unfold xFmt at z
    obtain ⟨a, e1, z⟩ := Option.bind_eq_some_iff.mp z
    obtain ⟨y, e2, z⟩ := Option.bind_eq_some_iff.mp z
    cases z
    refine ⟨T, ms, a.1, a.2, s, e1, fun v H1 s1 => ?_⟩
    have s2 := s1.frz
    generalize frz a.1 = fa at e2 s2
    unfold dFmt at e2
    split at e2
    · split at e2
      · rename_i h; cases e2; exact .inl ⟨_, s2.rep.str_of, h, k _ _ (s2.pop.scal fun _ => .str _)⟩
      · cases e2
    · split at e2
      · rename_i h; cases e2; exact .inr ⟨_, s2.rep.int_of, h, k _ _ (s2.pop.scal fun _ => .str _)⟩
      · cases e2
    · cases e2
def jsF : List EF → Str → En → Option (Str × En)
  | [], acc, ms => some (acc, ms)
  | f :: fs, acc, ms => (f ms).bind fun a => match frz a.1 with
    | .str y => if (acc ++ y).length ≤ sizeLine then jsF fs (acc ++ y) a.2 else none
    | _ => none
def xJs (fs : List EF) : EF := fun ms => (jsF fs Str.empty ms).bind fun r => some (.p (.str r.1), r.2)
inductive XJ (X : Cx) (cl : Nat → Addr) (P : List Nat) : List Expr → List EF → Prop where
  | nil : XJ X cl P [] []
  | cons {e : Expr} {es : List Expr} {f : EF} {fs : List EF} : XE X cl P e f → XJ X cl P es fs → XJ X cl P (e :: es) (f :: fs)
theorem XJ.pj {es : List Expr} {fs : List EF} (h : XJ X cl P es fs) : ∀ E : Ent, E.prot.map (·.1) = P → PJ X es (fs.map fun f => tE ⟨cl, X.K⟩ E f) := fun E hE => by
  induction h with
  | nil => exact .nil
  | cons a r ih => exact .cons (a E hE) ih
theorem js_in {E : Ent} {T : List (V × M)} {σ : St} : ∀ {fs : List EF} {acc : Str} {ms : En} {H : Hp} {r : Str × En} {Q : Str → Hp → Prop}, Stt ⟨cl, X.K⟩ E T σ ms H → jsF fs acc ms = some r → (∀ H', Stt ⟨cl, X.K⟩ E T σ r.2 H' → Q r.1 H') →
    tJs (fs.map fun f => tE ⟨cl, X.K⟩ E f) acc σ H Q
  | [], acc, ms, H, r, Q, s, e, k => by cases e; exact k H s
  | f :: fs, acc, ms, H, r, Q, s, z, k => by
    unfold jsF at z
    obtain ⟨a, e1, z⟩ := Option.bind_eq_some_iff.mp z
    refine ⟨T, ms, a.1, a.2, s, e1, fun v H1 s1 => ?_⟩
    have s2 := s1.frz
    generalize frz a.1 = fa at z s2
    cases fa with
    | str y =>
      dsimp only at z
      split at z
      · rename_i h
        exact ⟨y, s2.rep.str_of, h, js_in s2.pop z k⟩
      · cases z
    | _ => cases z
theorem xe_js {v1 v2 : Expr} {rest : List Expr} {fs : List EF} {pos : Pos} (h : XJ X cl P (v1 :: v2 :: rest) fs) : XE X cl P (.JoinedStr (v1 :: v2 :: rest) pos) (xJs fs) := fun E hE =>
  PE.weak (pe_joined (h.pj E hE)) fun σ H Q ⟨T, ms, m, ms', s, z, k⟩ => by
    unfold xJs at z
    obtain ⟨r, e1, z⟩ := Option.bind_eq_some_iff.mp z
    cases z
    exact js_in s e1 fun H' s' => k _ _ (s'.scal fun _ => .str _)
/-! ### all, any -/
def blsD : List D → Option (List Bool)
  | [] => some []
  | .bl x :: ds => (blsD ds).map fun xs => x :: xs
  | _ :: _ => none
theorem blsD_eq : ∀ {ds : List D} {xs : List Bool}, blsD ds = some xs → ds = xs.map .bl
  | [], xs, h => by cases h; rfl
  | d :: ds, xs, h => by
    cases d with
    | bl x =>
      obtain ⟨ys, h1, h2⟩ := Option.map_eq_some_iff.mp (show (blsD ds).map (fun xs => x :: xs) = some xs from h)
      subst h2
      rw [blsD_eq h1]; rfl
    | _ => cases h
theorem RepL.bls {Y : Tx} {B : Hp} : ∀ {vs : List V} {xs : List Bool}, RepL Y B vs (xs.map D.bl) → vs = xs.map V.bl
  | _, [], .nil => rfl
  | _, x :: xs, .cons a r => by rw [Rep.bl_of a, RepL.bls r]; rfl
def dAll : D → Option M
  | .lst ds => (blsD ds).map fun bs => .p (.bl (bs.all id))
  | _ => none
def dAny : D → Option M
  | .lst ds => (blsD ds).map fun bs => .p (.bl (bs.any id))
  | _ => none
theorem cas_all {Y : Tx} : CaS Y (rAll Y.K) (o1 dAll) := CaS.one fun E T σ ms H v d m Q s e k => by
  unfold dAll at e
  split at e
  · obtain ⟨bs, e1, e⟩ := Option.map_eq_some_iff.mp e
    subst e
    have h := blsD_eq e1
    subst h
    obtain ⟨a, vs, rfl, hs, rl⟩ := s.rep.lst_of
    rw [rl.bls] at hs
    exact ⟨a, bs, rfl, hs, k _ _ (s.pop.scal fun _ => .bl _)⟩
  · cases e
theorem cas_any {Y : Tx} : CaS Y (rAny Y.K) (o1 dAny) := CaS.one fun E T σ ms H v d m Q s e k => by
  unfold dAny at e
  split at e
  · obtain ⟨bs, e1, e⟩ := Option.map_eq_some_iff.mp e
    subst e
    have h := blsD_eq e1
    subst h
    obtain ⟨a, vs, rfl, hs, rl⟩ := s.rep.lst_of
    rw [rl.bls] at hs
    exact ⟨a, bs, rfl, hs, k _ _ (s.pop.scal fun _ => .bl _)⟩
  · cases e
/-! ### isinstance -/
def tyOf : D → Option String
  | .non => some "NoneType"
  | .bl _ => some "bool"
  | .int _ => some "int"
  | .str _ => some "str"
  | .tup _ => some "tuple"
  | .lst _ => some "list"
  | .dct _ => some "dict"
  | _ => none
theorem Rep.tyX {Y : Tx} {H : Hp} {v : V} {d : D} {t : String} (r : Rep Y H v d) (h : tyOf d = some t) : TyX Y.K H v (.type t) := by
  cases r with
  | non => cases h; exact .base .non
  | bl b => cases h; exact .base (.bl b)
  | int b => cases h; exact .base (.int b)
  | str b => cases h; exact .base (.str b)
  | raw _ => cases h
  | tup hs _ =>
    cases h
    rcases hs with (hs | ⟨o, hs⟩) | ⟨o, its, n, h1, h2, _⟩
    · exact .base (.tup hs)
    · exact .fTuple hs
    · exact .kTuple h1 h2
  | lst hs _ =>
    cases h
    rcases hs with (hs | ⟨o, hs⟩) | ⟨o, its, n, h1, h2, _⟩
    · exact .base (.lst hs)
    · exact .base (.frz hs)
    · exact .kList h1 h2
  | dct hs _ =>
    cases h
    rcases hs with hs | ⟨o, hs⟩
    · exact .base (.dK hs)
    · exact .fDict hs
  | obj _ _ => cases h
  | fact _ _ => cases h
  | cls _ => cases h
def xIsi (N : String) (f : EF) : EF := fun ms => (f ms).bind fun a => (tyOf (frz a.1)).bind fun t => (kitB t N).bind fun b => some (.p (.bl b), a.2)
theorem xe_isi {N : String} {x : Str} {e : Expr} {p q pos : Pos} {f : EF} (hm : X.mg "isinstance" = none) (hx : X.mg x = none) (he : XE X cl P e f) (hv : bootBuiltins x = some (.type N) := by decide +kernel) (hg : Gl X "isinstance" := by rfl) (hgx : Gl X x := by rfl)
    (hb : bootBuiltins "isinstance" = some (.builtin "isinstance") := by decide +kernel) (hn : x ≠ "__name__" := by decide) (hdb : (x == ("__debug__" : Str)) = false := by decide)
    (h1 : starEach [e, .Name x q] X.env = (false, eval e X.env) :: starEach [.Name x q] X.env := by rfl) (h2 : starEach [.Name x q] X.env = (false, eval (.Name x q) X.env) :: starEach [] X.env := by rfl)
    (hpl : (backTo pos (starEach [.Name x q] X.env)).any (·.1) = false := by rfl) : XE X cl P (.Call (.Name "isinstance" p) [e, .Name x q] [] pos) (xIsi N f) := fun E hE =>
  PE.weak (pe_callB call_isi hg hm hb (pa_cons (he E hE) (pa_cons (pe_bltn (v := .ty N) hgx hx hv rfl hn hdb) pa_nil h2) h1) (he := h1) (hpl := hpl)) fun σ H Q ⟨T, ms, m, ms', s, z, k⟩ => by
    unfold xIsi at z
    obtain ⟨a, e1, z⟩ := Option.bind_eq_some_iff.mp z
    obtain ⟨t, e2, z⟩ := Option.bind_eq_some_iff.mp z
    obtain ⟨b, e3, z⟩ := Option.bind_eq_some_iff.mp z
    cases z
    exact ⟨T, ms, a.1, a.2, s, e1, fun v H1 s1 => ⟨v, _, _, _, b, rfl, .ty N, s1.frz.rep.tyX e2, kit_ty e3, k _ _ (s1.pop.scal fun _ => .bl _)⟩⟩
/-- isinstance(e, (x, y)) of two built-in types -/
def xIs2 (M N : String) (f : EF) : EF := fun ms => (f ms).bind fun a => (tyOf (frz a.1)).bind fun t => (kitB t M).bind fun b => (kitB t N).bind fun c => some (.p (.bl (b || c)), a.2)
theorem xe_is2 {M N : String} {x y : Str} {e : Expr} {p q q' tp pos : Pos} {k : Nat} {f : EF} (hm : X.mg "isinstance" = none) (hx : X.mg x = none) (hy : X.mg y = none) (he : XE X cl P e f) (hv : bootBuiltins x = some (.type M) := by decide +kernel) (hv' : bootBuiltins y = some (.type N) := by decide +kernel)
    (hg : Gl X "isinstance" := by rfl) (hgx : Gl X x := by rfl) (hgy : Gl X y := by rfl) (hb : bootBuiltins "isinstance" = some (.builtin "isinstance") := by decide +kernel) (hn : x ≠ "__name__" := by decide) (hdb : (x == ("__debug__" : Str)) = false := by decide) (hn' : y ≠ "__name__" := by decide) (hdb' : (y == ("__debug__" : Str)) = false := by decide)
    (h1 : starEach [e, .Tuple [.Name x q, .Name y q'] k tp] X.env = (false, eval e X.env) :: starEach [.Tuple [.Name x q, .Name y q'] k tp] X.env := by rfl) (h2 : starEach [.Tuple [.Name x q, .Name y q'] k tp] X.env = (false, eval (.Tuple [.Name x q, .Name y q'] k tp) X.env) :: starEach [] X.env := by rfl)
    (h3 : starEach [.Name x q, .Name y q'] X.env = (false, eval (.Name x q) X.env) :: starEach [.Name y q'] X.env := by rfl) (h4 : starEach [.Name y q'] X.env = (false, eval (.Name y q') X.env) :: starEach [] X.env := by rfl)
    (hpl : (backTo pos (starEach [.Tuple [.Name x q, .Name y q'] k tp] X.env)).any (·.1) = false := by rfl) : XE X cl P (.Call (.Name "isinstance" p) [e, .Tuple [.Name x q, .Name y q'] k tp] [] pos) (xIs2 M N f) := fun E hE =>
  PE.weak (pe_callB call_isiT hg hm hb (pa_cons (he E hE) (pa_cons (pe_tup (pa_cons (pe_bltn (v := .ty M) hgx hx hv rfl hn hdb) (pa_cons (pe_bltn (v := .ty N) hgy hy hv' rfl hn' hdb') pa_nil h4) h3)) pa_nil h2) h1) (he := h1) (hpl := hpl)) fun σ H Q ⟨T, ms, m, ms', s, z, kk⟩ => by
    unfold xIs2 at z
    obtain ⟨a, e1, z⟩ := Option.bind_eq_some_iff.mp z
    obtain ⟨t, e2, z⟩ := Option.bind_eq_some_iff.mp z
    obtain ⟨b, e3, z⟩ := Option.bind_eq_some_iff.mp z
    obtain ⟨c, e4, z⟩ := Option.bind_eq_some_iff.mp z
    cases z
    refine ⟨T, ms, a.1, a.2, s, e1, fun v H1 s1 => ⟨by show 2 ≤ sizeLine; decide, fun tp' htp => ?_⟩⟩
    have s2 : Stt ⟨cl, X.K⟩ E ((v, .p (frz a.1)) :: T) σ a.2 (upd H1 tp' (.tup [.ty M, .ty N])) := by
      obtain ⟨_, _, _, _, _, _, _, kx⟩ := s1.frz.pure
      exact kx tp' _ htp
    refine ⟨v, tp', _, _, _, b || c, rfl, upd_same, .cons (.ty M) (.cons (.ty N) .nil), s2.rep.tyX e2, ?_, kk _ _ (s2.pop.scal fun _ => .bl _)⟩
    refine kitAny_cons (kit_ty e3) (fun hb => ?_) (fun hb => by rw [hb] <;> rfl)
    subst hb
    rw [Bool.false_or]
    exact kitAny_cons (kit_ty e4) (fun hc => by rw [hc]; exact kitAny_nil) (fun hc => hc)
end
end Mh
namespace Mh
open PySem L2

/-! ### dicts with keys that are ints or texts -/
def keyD : D → Option Key
  | .str x => some (.inr x)
  | .int i => some (.inl i)
  | _ => none
def getK {α : Type} (kvs : List (Key × α)) (k : Key) : Option α := (kvs.find? fun kv => decide (kv.1 = k)).map (·.2)
def putKD (kvs : List (Key × D)) (k : Key) (d : D) : List (Key × D) :=
  if (kvs.any fun kv => decide (kv.1 = k)) = true then kvs.map (fun kv => if kv.1 = k then (kv.1, d) else kv) else kvs ++ [(k, d)]
theorem Rep.key {Y : Tx} {B : Hp} {v : V} {d : D} {k : Key} (r : Rep Y B v d) (h : keyD d = some k) : v = kV k := by
  cases r <;> simp [keyD] at h <;> subst h <;> rfl
section
variable {Y : Tx} {B : Hp}
theorem RepK.len : ∀ {vs : List (Key × V)} {ds : List (Key × D)}, RepK Y B vs ds → vs.length = ds.length
  | _, _, .nil => rfl
  | _, _, .cons _ r => by simp [RepK.len r]
theorem RepK.get : ∀ {vs : List (Key × V)} {ds : List (Key × D)} {k : Key}, RepK Y B vs ds → (∀ d, getK ds k = some d → ∃ v, valV vs k = some v ∧ Rep Y B v d) ∧ (getK ds k = none → valV vs k = none)
  | _, _, k, .nil => ⟨fun d h => by simp [getK] at h, fun _ => rfl⟩
  | _, _, k, .cons (k := k') (v := v) (d := d) a r => by
    obtain ⟨h1, h2⟩ := RepK.get (k := k) r
    by_cases e : k' = k
    · subst e
      refine ⟨fun d' h => ?_, fun h => ?_⟩
      · simp [getK, List.find?_cons] at h
        subst h
        exact ⟨v, valV_pos rfl, a⟩
      · simp [getK, List.find?_cons] at h
    · have e1 : ∀ (w : D) (r : List (Key × D)), getK ((k', w) :: r) k = getK r k := fun w r => by simp [getK, List.find?_cons, e]
      rw [e1, valV_neg e]
      exact ⟨h1, h2⟩
theorem RepK.any : ∀ {vs : List (Key × V)} {ds : List (Key × D)} (k : Key), RepK Y B vs ds → (vs.any fun kv => decide (kv.1 = k)) = (ds.any fun kv => decide (kv.1 = k))
  | _, _, _, .nil => rfl
  | _, _, k, .cons _ r => by rw [List.any_cons, List.any_cons, RepK.any k r]
theorem RepK.map {k : Key} {v : V} {d : D} (h : Rep Y B v d) : ∀ {vs : List (Key × V)} {ds : List (Key × D)}, RepK Y B vs ds → RepK Y B (vs.map fun kv => if kv.1 = k then (kv.1, v) else kv) (ds.map fun kv => if kv.1 = k then (kv.1, d) else kv)
  | _, _, .nil => .nil
  | _, _, .cons (k := k') a r => by
    rw [List.map_cons, List.map_cons]
    by_cases e : k' = k
    · rw [if_pos e, if_pos e]; exact .cons h (RepK.map h r)
    · rw [if_neg e, if_neg e]; exact .cons a (RepK.map h r)
theorem RepK.app {k : Key} {v : V} {d : D} (h : Rep Y B v d) : ∀ {vs : List (Key × V)} {ds : List (Key × D)}, RepK Y B vs ds → RepK Y B (vs ++ [(k, v)]) (ds ++ [(k, d)])
  | _, _, .nil => .cons h .nil
  | _, _, .cons a r => .cons a (RepK.app h r)
theorem RepK.put {k : Key} {v : V} {d : D} {vs : List (Key × V)} {ds : List (Key × D)} (r : RepK Y B vs ds) (h : Rep Y B v d) : RepK Y B (putK vs k v) (putKD ds k d) := by
  unfold putK putKD
  rw [r.any k]
  split
  · exact RepK.map h r
  · exact r.app h
end
def xDGet (f g : EF) : EF := fun ms => (f ms).bind fun a => (g a.2).bind fun b => match frz a.1 with
  | .dct kvs => (keyD (frz b.1)).bind fun k => (getK kvs k).bind fun d => some (.p d, b.2)
  | _ => none
def xDIn (neg : Bool) (f g : EF) : EF := fun ms => (f ms).bind fun a => (g a.2).bind fun b => match frz b.1 with
  | .dct kvs => (keyD (frz a.1)).bind fun k => some (.p (.bl (if neg then !(getK kvs k).isSome else (getK kvs k).isSome)), b.2)
  | _ => none
def xD0 : EF := fun ms => some (.dk [], ms)
def sDPutF (i : Nat) (f g : EF) : SF := fun ms => (f ms).bind fun a => (slK a.2 i).bind fun _ => (g a.2).bind fun b => (slK b.2 i).bind fun kvs => (keyD (frz b.1)).bind fun k =>
  if kvs.length < sizeLine then some (.nx, b.2.set i (some (.dk (putKD kvs k (frz a.1))))) else none
/-- a dict's keys, walked -/
def kD : Key → D
  | .inl i => .int i
  | .inr x => .str x
def iKD (f : EF) : IF := fun ms => (f ms).bind fun a => match frz a.1 with | .dct kvs => some (kvs.map fun kv => kD kv.1, a.2) | _ => none
theorem pe_lockAfter {X : Cx} {e : Expr} {t : TE} (h : PE X e t) : PE X e (fun σ H Q => t σ H fun v H1 => ∃ d u, H1 d = some u ∧ Mut (some u) ∧ ∀ od, Q v (upd H1 d (.frz od u))) := by
  refine ⟨fun pins s σ H Q I q => ?_⟩
  refine thn (h.run pins s σ H _ I q) fun u s1 ⟨x, H1, I1, r, d, o, hd, mu, q⟩ => ?_
  obtain ⟨od, I2⟩ := I1.lock hd mu
  exact ⟨x, _, I2, r, q od⟩
section
variable {X : Cx} {cl : Nat → Addr} {P : List Nat}
theorem xe_dget {o i : Expr} {pos : Pos} {f g : EF} (hu : X.A.units + 1 < cLine) (ho : XE X cl P o f) (hi : XE X cl P i g) (hs : NoSl i := by exact fun _ _ => rfl) : XE X cl P (.Subscript o i pos) (xDGet f g) := fun E hE =>
  PE.weak (pe_dget hu (ho E hE) (hi E hE) hs) fun σ H Q ⟨T, ms, m, ms', s, z, k⟩ => by
    unfold xDGet at z
    obtain ⟨a, e1, z⟩ := Option.bind_eq_some_iff.mp z
    obtain ⟨b, e2, z⟩ := Option.bind_eq_some_iff.mp z
    refine ⟨T, ms, a.1, a.2, s, e1, fun x H1 s1 => ⟨_, a.2, b.1, b.2, s1, e2, fun y H2 s2 => ?_⟩⟩
    have s3 := s2.frz2
    generalize frz a.1 = fa at z s3
    cases fa with
    | dct kvs =>
      obtain ⟨kk, e3, z⟩ := Option.bind_eq_some_iff.mp z
      obtain ⟨d, e4, z⟩ := Option.bind_eq_some_iff.mp z
      cases z
      obtain ⟨B, hB, q, kp, _⟩ := s3.pure
      have ry := q y (frz b.1) (by simp)
      obtain ⟨ad, vs, rfl, hd, rk⟩ := (q x (.dct kvs) (by simp)).dct_of
      obtain ⟨v, h1, h2⟩ := rk.get.1 d e4
      exact ⟨ad, v, rfl, .inl ⟨vs, kk, ex_rd hB hd, ry.key e3, h1.symm⟩, k _ _ (kp v d h2).swap.pop.swap.pop⟩
    | _ => cases z
theorem xe_din {i o : Expr} {pos : Pos} {f g : EF} (hu : X.A.units + 1 < cLine) (hi : XE X cl P i f) (ho : XE X cl P o g) (h1 : behindInMarks .In o = false := by first | exact nobehind _ (by decide) (by decide) | rfl) : XE X cl P (.Compare i [.In] [o] pos) (xDIn false f g) := fun E hE =>
  PE.weak (pe_cmp (pc_din hu (hi E hE) (ho E hE)) h1) fun σ H Q ⟨T, ms, m, ms', s, z, k⟩ => by
    unfold xDIn at z
    obtain ⟨a, e1, z⟩ := Option.bind_eq_some_iff.mp z
    obtain ⟨b, e2, z⟩ := Option.bind_eq_some_iff.mp z
    refine ⟨T, ms, a.1, a.2, s, e1, fun x H1 s1 => ⟨_, a.2, b.1, b.2, s1, e2, fun y H2 s2 => ?_⟩⟩
    have s3 := s2.frz2
    generalize frz b.1 = fb at z s3
    cases fb with
    | dct kvs =>
      obtain ⟨kk, e3, z⟩ := Option.bind_eq_some_iff.mp z
      cases z
      obtain ⟨B, hB, q, kp, _⟩ := s3.pure
      have rx := q x (frz a.1) (by simp)
      obtain ⟨ad, vs, rfl, hd, rk⟩ := (q y (.dct kvs) (by simp)).dct_of
      refine ⟨ad, valV vs kk, rfl, .inl ⟨vs, kk, ex_rd hB hd, rx.key e3, rfl⟩, ?_⟩
      have e5 : (valV vs kk).isSome = (getK kvs kk).isSome := by
        cases e : getK kvs kk with
        | none => rw [rk.get.2 e]; all_goals rfl
        | some d => obtain ⟨v, h1, _⟩ := rk.get.1 d e; rw [h1]; all_goals rfl
      rw [e5]
      exact k _ _ (s3.pop.pop.scal fun _ => .bl _)
    | _ => cases z
theorem xe_dnotin {i o : Expr} {pos : Pos} {f g : EF} (hu : X.A.units + 1 < cLine) (hi : XE X cl P i f) (ho : XE X cl P o g) (h1 : behindInMarks .NotIn o = false := by first | exact nobehind _ (by decide) (by decide) | rfl) : XE X cl P (.Compare i [.NotIn] [o] pos) (xDIn true f g) := fun E hE =>
  PE.weak (pe_cmp (pc_dnotin hu (hi E hE) (ho E hE)) h1) fun σ H Q ⟨T, ms, m, ms', s, z, k⟩ => by
    unfold xDIn at z
    obtain ⟨a, e1, z⟩ := Option.bind_eq_some_iff.mp z
    obtain ⟨b, e2, z⟩ := Option.bind_eq_some_iff.mp z
    refine ⟨T, ms, a.1, a.2, s, e1, fun x H1 s1 => ⟨_, a.2, b.1, b.2, s1, e2, fun y H2 s2 => ?_⟩⟩
    have s3 := s2.frz2
    generalize frz b.1 = fb at z s3
    cases fb with
    | dct kvs =>
      obtain ⟨kk, e3, z⟩ := Option.bind_eq_some_iff.mp z
      cases z
      obtain ⟨B, hB, q, kp, _⟩ := s3.pure
      have rx := q x (frz a.1) (by simp)
      obtain ⟨ad, vs, rfl, hd, rk⟩ := (q y (.dct kvs) (by simp)).dct_of
      refine ⟨ad, valV vs kk, rfl, .inl ⟨vs, kk, ex_rd hB hd, rx.key e3, rfl⟩, ?_⟩
      have e5 : (valV vs kk).isSome = (getK kvs kk).isSome := by
        cases e : getK kvs kk with
        | none => rw [rk.get.2 e]; all_goals rfl
        | some d => obtain ⟨v, h1, _⟩ := rk.get.1 d e; rw [h1]; all_goals rfl
      rw [e5]
      exact k _ _ (s3.pop.pop.scal fun _ => .bl _)
    | _ => cases z
theorem xt_din {i o : Expr} {pos : Pos} {f g : EF} (hu : X.A.units + 1 < cLine) (hi : XE X cl P i f) (ho : XE X cl P o g) (h1 : behindInMarks .In o = false := by first | exact nobehind _ (by decide) (by decide) | rfl) : XT X cl P (.Compare i [.In] [o] pos) (fB (xDIn false f g)) := fun E hE =>
  PT.weak (pt_cmp (pc_din hu (hi E hE) (ho E hE)) h1) fun σ H Q ⟨T, ms, b, ms', s, z, k⟩ => by
    have z := fB_some z
    unfold xDIn at z
    obtain ⟨a, e1, z⟩ := Option.bind_eq_some_iff.mp z
    obtain ⟨c, e2, z⟩ := Option.bind_eq_some_iff.mp z
    refine ⟨T, ms, a.1, a.2, s, e1, fun x H1 s1 => ⟨_, a.2, c.1, c.2, s1, e2, fun y H2 s2 => ?_⟩⟩
    have s3 := s2.frz2
    generalize frz c.1 = fb at z s3
    cases fb with
    | dct kvs =>
      obtain ⟨kk, e3, z⟩ := Option.bind_eq_some_iff.mp z
      rw [if_neg Bool.false_ne_true] at z
      cases z
      obtain ⟨B, hB, q, kp, _⟩ := s3.pure
      have rx := q x (frz a.1) (by simp)
      obtain ⟨ad, vs, rfl, hd, rk⟩ := (q y (.dct kvs) (by simp)).dct_of
      refine ⟨ad, valV vs kk, rfl, .inl ⟨vs, kk, ex_rd hB hd, rx.key e3, rfl⟩, ?_⟩
      have e5 : (valV vs kk).isSome = (getK kvs kk).isSome := by
        cases e : getK kvs kk with
        | none => rw [rk.get.2 e]; all_goals rfl
        | some d => obtain ⟨v, h1, _⟩ := rk.get.1 d e; rw [h1]; all_goals rfl
      rw [e5]
      exact ⟨_, rfl, k _ s3.pop.pop⟩
    | _ => cases z
theorem xe_dnew {pos : Pos} : XE X cl P (.Dict [] [] pos) xD0 := fun E hE =>
  PE.weak pe_dnewK fun σ H Q ⟨T, ms, m, ms', s, z, k⟩ => by
    cases z
    intro p hp
    obtain ⟨B, hB, q, kp, kt, kl, kd, _⟩ := s.pure
    exact k _ _ (kd p [] [] hp .nil)
theorem xs_dput (i : Nat) {x : Str} {b e : Expr} {p spos pos : Pos} {f g : EF} (hu : X.A.units + 1 < cLine) (he : XE X cl P e f) (hb : XE X cl P b g) (hN : X.N[i]? = some x := by rfl) (hv : Vis X.env.scope x := by first | exact Or.inl rfl | exact Or.inr (Or.inl rfl) | exact Or.inr (Or.inr rfl))
    (hs : swapsWith e (some (.Subscript (.Name x p) b spos)) pos.line X.env = pure false := by rfl)
    (hd : (x == ("__debug__" : Str)) = false := by decide) (hcd : (x == ("__classdict__" : Str)) = false := by decide) : XS X cl P (.Assign [.Subscript (.Name x p) b spos] e pos) (sDPutF i f g) := fun E hE =>
  PS.weak (ps_dput hu (pe_var hN hv hd hcd) (hb E hE) (he E hE) hs) fun D σ H ⟨T, ms, o, ms', s, z, k⟩ => by
    unfold sDPutF at z
    obtain ⟨a, e1, z⟩ := Option.bind_eq_some_iff.mp z
    obtain ⟨ds0, e0, z⟩ := Option.bind_eq_some_iff.mp z
    obtain ⟨b, e2, z⟩ := Option.bind_eq_some_iff.mp z
    obtain ⟨kvs, e3, z⟩ := Option.bind_eq_some_iff.mp z
    obtain ⟨kk, e4, z⟩ := Option.bind_eq_some_iff.mp z
    split at z
    · rename_i hl
      cases z
      refine ⟨T, ms, a.1, a.2, s, e1, fun w H1 s1 => ?_⟩
      obtain ⟨v, hv⟩ := s1.cov i _ (slK_eq e0)
      refine ⟨v, hv, _, a.2, b.1, b.2, s1, e2, fun y H2 s2 => ?_⟩
      have s3 := s2.frz2
      obtain ⟨ad, B, vs, h1, hB, ha, r, q, wr, _⟩ := s3.slotK (slK_eq e3)
      rw [hv] at h1
      cases h1
      have ry := (q y (frz b.1) (by simp)).key e4
      subst ry
      refine ⟨ad, _, rfl, DPut.k ha (by rw [r.len]; exact hl), k _ _ ?_⟩
      have := wr (putK vs kk w) (putKD kvs kk (frz a.1)) [] (r.put (q w _ (by simp))) (by simp)
      exact (show Stt ⟨cl, X.K⟩ E ((kV kk, .p (frz b.1)) :: (w, .p (frz a.1)) :: T) σ (b.2.set i (some (.dk (putKD kvs kk (frz a.1))))) (upd H2 ad (.dK (putK vs kk w))) from this).pop.pop
    · cases z
theorem itk_ok {K : PySem.W.Frag} {a : Addr} {od : Obj} {vs : List (Key × V)} {kvs : List (Key × D)} (hl : vs.map (·.1) = kvs.map (·.1)) : ∀ (Z : List (V × M)), (∀ (E : Ent) (T : List (V × M)) (σ : St) (ms : En) (H : Hp), Stt ⟨cl, K⟩ E (Z ++ T) σ ms H → H a = some (.frz od (.dK vs))) →
    IterOk ⟨cl, K⟩ (Itk a od vs) Z (kvs.map fun kv => kD kv.1) := fun Z hZ i E T σ ms H s => by
  have ha := hZ E T σ ms H s
  have hlen : vs.length = kvs.length := by simpa using congrArg List.length hl
  refine ⟨fun h => ⟨ha, by rw [hlen]; simpa using h⟩, fun d h => ?_⟩
  rw [List.getElem?_map] at h
  obtain ⟨kv, h1, h2⟩ := Option.map_eq_some_iff.mp h
  subst h2
  refine ⟨⟨ha, by rw [hlen]; exact (List.getElem?_eq_some_iff.mp h1).1⟩, fun x H' ⟨e1, kk, v, e2, e3⟩ => ?_⟩
  subst e1 e3
  have e4 : (vs.map (·.1))[i]? = some kk := by rw [List.getElem?_map, e2]; all_goals rfl
  rw [hl, List.getElem?_map, h1] at e4
  cases e4
  obtain ⟨k1, d1⟩ := kv
  show Stt _ E ((kV k1, .p (kD k1)) :: (Z ++ T)) σ ms _
  cases k1 with
  | inl i => exact s.scal fun _ => .int _
  | inr x => exact s.scal fun _ => .str _
end
end Mh
namespace Mh
open PySem L2

theorem pe_lockMaybe {X : Cx} {e : Expr} {t : TE} (h : PE X e t) : PE X e (fun σ H Q => t σ H fun v H1 => Q v H1 ∨ ∃ d u, H1 d = some u ∧ Mut (some u) ∧ ∀ od, Q v (upd H1 d (.frz od u))) := by
  refine ⟨fun pins s σ H Q I q => ?_⟩
  refine thn (h.run pins s σ H _ I q) fun u s1 ⟨x, H1, I1, r, q⟩ => ?_
  rcases q with q | ⟨d, o, hd, mu, q⟩
  · exact ⟨x, _, I1, r, q⟩
  · obtain ⟨od, I2⟩ := I1.lock hd mu
    exact ⟨x, _, I2, r, q od⟩
theorem RepK.keys {Y : Tx} {B : Hp} : ∀ {vs : List (Key × V)} {ds : List (Key × D)}, RepK Y B vs ds → vs.map (·.1) = ds.map (·.1)
  | _, _, .nil => rfl
  | _, _, .cons _ r => by rw [List.map_cons, List.map_cons, RepK.keys r]
section
variable {X : Cx} {cl : Nat → Addr} {P : List Nat}
theorem xi_keys {tg e : Expr} {f : EF} (he : XE X cl P e f) : XI X cl P tg e (iKD f) := fun E hE =>
  PI.weak (pi_keys (pe_lockMaybe (he E hE))) fun σ H R ⟨T, ms, ds, ms', s, z, k⟩ => by
    unfold iKD at z
    obtain ⟨a, e1, z⟩ := Option.bind_eq_some_iff.mp z
    refine ⟨T, ms, a.1, a.2, s, e1, fun x H1 s1 => ?_⟩
    have s2 := s1.frz
    generalize frz a.1 = fa at z s2
    cases fa with
    | dct kvs =>
      cases z
      obtain ⟨B, fp, r⟩ := s2.rel
      have rx := r.mem (v := x) (d := .dct kvs) List.mem_cons_self
      obtain ⟨d, vs, rfl, hd, rk⟩ := rx.dct_of
      have go : ∀ {B' H' : Hp} {od : Obj}, B' d = some (.frz od (.dK vs)) → RelB ⟨cl, X.K⟩ E B' fp ((.ref d, .p (.dct kvs)) :: T ++ prs σ a.2) H' → R (Itk d od vs) H' := fun {B' H' od} hb r' => by
        have r2 := r'.push (v := .non) (d := .fact d (.frz od (.dK vs))) (.fact hb rfl)
        have s3 : Stt ⟨cl, X.K⟩ E ((.non, .p (.fact d (.frz od (.dK vs)))) :: (.ref d, .p (.dct kvs)) :: T) σ a.2 H' := s2.of r2.rel
        refine k _ [(.non, .p (.fact d (.frz od (.dK vs))))] H' (itk_ok rk.keys _ fun E T σ ms H s => ?_) s3.swap.pop
        have rf := s.rel.rep
        cases rf with
        | fact h _ => exact h
      rcases hd with hd | ⟨od, hd⟩
      · exact .inr ⟨d, _, r.grow.sub d _ hd, trivial, fun od => ⟨d, od, rfl, .inl ⟨vs, upd_same, go upd_same (r.lock hd rfl)⟩⟩⟩
      · exact .inl ⟨d, od, rfl, .inl ⟨vs, r.grow.sub d _ hd, go hd r⟩⟩
    | _ => cases z
/-! ### attributes of an owned instance -/
def slO (ms : En) (i c : Nat) : Option (List (Str × M)) := match ms[i]? with | some (some (.o c' fs)) => if c' = c then some fs else none | _ => none
theorem slO_eq {ms : En} {i c : Nat} {fs : List (Str × M)} (h : slO ms i c = some fs) : ms[i]? = some (some (.o c fs)) := by
  unfold slO at h
  split at h
  · rename_i q
    split at h
    · rename_i e; subst e; cases h; exact q
    · cases h
  · cases h
def pM : M → Option D
  | .p d => some d
  | _ => none
theorem RepO.look {Y : Tx} {B H : Hp} {f : Str} {d : D} : ∀ {vs : List (Str × V)} {ms : List (Str × M)} {fp : List Addr}, RepO Y B H vs ms fp → (ms.lookup f).bind pM = some d → ∃ v, vs.lookup f = some v ∧ Rep Y B v d
  | _, [], _, _, h => by simp at h
  | _, (k, m) :: ms, _, .cons a r, h => by
    rw [List.lookup_cons] at h ⊢
    cases hb : f == k with
    | true =>
      rw [hb] at h
      cases a with
      | p ra => cases h; exact ⟨_, rfl, ra⟩
      | _ => cases h
    | false => rw [hb] at h; exact RepO.look r h
theorem RepO.keys {Y : Tx} {B H : Hp} {f : Str} : ∀ {vs : List (Str × V)} {ms : List (Str × M)} {fp : List Addr}, RepO Y B H vs ms fp → ms.lookup f = none → vs.lookup f = none
  | _, [], _, .nil, h => rfl
  | _, (k, m) :: ms, _, .cons a r, h => by
    rw [List.lookup_cons] at h ⊢
    cases hb : f == k with
    | true => rw [hb] at h; cases h
    | false => rw [hb] at h; exact RepO.keys r h
theorem RepO.len {Y : Tx} {B H : Hp} : ∀ {vs : List (Str × V)} {ms : List (Str × M)} {fp : List Addr}, RepO Y B H vs ms fp → vs.length = ms.length
  | _, _, _, .nil => rfl
  | _, _, _, .cons a r => by simp [RepO.len r]
def putM (f : Str) (m : M) : List (Str × M) → List (Str × M)
  | [] => [(f, m)]
  | (g, x) :: r => if g = f then (g, m) :: r else (g, x) :: putM f m r
theorem RepO.put {Y : Tx} {B H : Hp} {f : Str} {v : V} {m : M} {fm : List Addr} (h : RepM Y B H v m fm) : ∀ {vs : List (Str × V)} {ms : List (Str × M)} {fp : List Addr}, RepO Y B H vs ms fp →
    ∃ fp' rest, (fp' ++ rest).Perm (fm ++ fp) ∧ RepO Y B H (putF f v vs) (putM f m ms) fp'
  | _, [], _, .nil => ⟨fm ++ [], [], by simp, .cons h .nil⟩
  | _, (k, n) :: ms, _, .cons (fp := f1) (fps := f2) a r => by
    unfold putF putM
    by_cases e : k = f
    · rw [if_pos e, if_pos e]
      exact ⟨fm ++ f2, f1, by rw [List.append_assoc]; exact List.perm_append_comm.append_left fm, .cons h r⟩
    · rw [if_neg e, if_neg e]
      obtain ⟨fp', rest, p, r'⟩ := RepO.put h r
      refine ⟨f1 ++ fp', rest, ?_, .cons a r'⟩
      rw [List.append_assoc]
      refine (p.append_left f1).trans ?_
      rw [← List.append_assoc, ← List.append_assoc]
      exact List.Perm.append_right _ List.perm_append_comm
/-- an attribute bound -/
theorem RelB.fld {Y : Tx} {E : Ent} {B H : Hp} {fp : List Addr} {L : List (V × M)} {x y : V} {m : M} {c : Nat} {fs : List (Str × M)} {f : Str} (h : RelB Y E B fp ((y, m) :: (x, .o c fs) :: L) H) :
    ∃ a dx vs, x = .ref a ∧ H a = some (.ins (Y.cl c) dx vs) ∧ vs.length = fs.length ∧ (∀ g, fs.lookup g = none → vs.lookup g = none) ∧ ∃ fp', RelB Y E B fp' ((x, .o c (putM f m fs)) :: L) (upd H a (.ins (Y.cl c) dx (putF f y vs))) := by
  obtain ⟨g, s, nd, ow⟩ := h
  cases s with
  | @cons _ _ _ fm f1 rm s =>
    cases s with
    | @cons _ _ _ fo f2 ro s =>
      cases ro with
      | @o a dx _ vs _ fq ha rq =>
        refine ⟨a, dx, vs, rfl, ha, rq.len, fun g hg => rq.keys hg, ?_⟩
        obtain ⟨fp', rest, p, r'⟩ := rq.put (f := f) rm
        have nd0 : ((fm ++ fq) ++ (a :: f2)).Nodup := by
          refine (List.Perm.nodup_iff ?_).mp nd
          rw [List.append_assoc]
          exact (List.perm_middle.symm).append_left fm
        have p2 : ((fp' ++ rest) ++ (a :: f2)).Perm ((fm ++ fq) ++ (a :: f2)) := p.append_right _
        have nd1 := p2.nodup_iff.mpr nd0
        have nd2 : ((a :: fp') ++ f2).Nodup := by
          have q : ((fp' ++ rest) ++ (a :: f2)).Perm (rest ++ ((a :: fp') ++ f2)) := by
            refine (List.perm_append_comm.append_right _).trans ?_
            rw [List.append_assoc]
            exact List.perm_middle.append_left rest
          exact (List.nodup_append.mp (q.nodup_iff.mp nd1)).2.1
        have mem : ∀ b ∈ (a :: fp') ++ f2, b ∈ fm ++ (a :: fq ++ f2) := fun b hb => by
          have : b ∈ (fp' ++ rest) ++ (a :: f2) := by
            rcases List.mem_append.mp hb with h | h
            · rcases List.mem_cons.mp h with e | h
              · subst e; simp
              · simp [h]
            · simp [h]
          have := p2.mem_iff.mp this
          simp only [List.mem_append, List.mem_cons] at this ⊢
          rcases this with (h | h) | h | h
          · exact .inl h
          · exact .inr (.inl (.inr h))
          · exact .inr (.inl (.inl h))
          · exact .inr (.inr h)
        have na : a ∉ fp' := fun z => (List.nodup_cons.mp (List.nodup_append.mp nd2).1).1 z
        exact ⟨(a :: fp') ++ f2, RelB.write (m' := .o c (putM f m fs)) g s nd2 (fun b hb => ow b (mem b hb)) List.mem_cons_self (.o upd_same (r'.mono (Le.refl _) fun b hb => upd_ne fun z => na (z ▸ hb)))⟩
def xFldO (i c : Nat) (f : Str) : EF := fun ms => (slO ms i c).bind fun fs => ((fs.lookup f).bind pM).bind fun d => some (.p d, ms)
def sFldO (i c : Nat) (f : Str) (g : EF) : SF := fun ms => (g ms).bind fun a => (slO a.2 i c).bind fun fs => if fs.length < 1000 then some (.nx, a.2.set i (some (.o c (putM f a.1 fs)))) else none
theorem Stt.slotO {Y : Tx} {E : Ent} {T : List (V × M)} {σ : St} {ms : En} {H : Hp} {i c : Nat} {fs : List (Str × M)} (s : Stt Y E T σ ms H) (h : ms[i]? = some (some (.o c fs))) : ∃ a dx vs B, σ[i]? = some (some (.ref a)) ∧ H a = some (.ins (Y.cl c) dx vs) ∧
    (∀ f d, (fs.lookup f).bind pM = some d → ∃ v, vs.lookup f = some v ∧ Rep Y B v d) ∧ (∀ f, fs.lookup f = none → vs.lookup f = none) ∧ (∀ v d, Rep Y B v d → Stt Y E ((v, .p d) :: T) σ ms H) := by
  obtain ⟨v, h1⟩ := s.cov i _ h
  have s1 := s.take h1 h
  obtain ⟨B, fp, r⟩ := s1.rel
  obtain ⟨g, sp, nd, ow⟩ := id r
  cases sp with
  | cons rm sp =>
    cases rm with
    | @o a dx _ vs _ fq ha rq =>
      refine ⟨a, dx, vs, B, h1, ha, fun f d e => rq.look e, fun f e => rq.keys e, fun u d ru => ?_⟩
      have r2 := r.push ru
      have s2 : Stt Y E ((u, .p d) :: (.ref a, .o c fs) :: T) σ (ms.set i none) H := s1.of r2.rel
      have s3 := s2.swap.put h1 (hole_at h)
      rw [set_back h] at s3
      exact s3
theorem xe_fldO (i c : Nat) {x f : Str} {p pos : Pos} (hc : Cls X.K (cl c)) (hn : NoAttr X.K (cl c) f) (hN : X.N[i]? = some x := by rfl) (hv : Vis X.env.scope x := by first | exact Or.inl rfl | exact Or.inr (Or.inl rfl) | exact Or.inr (Or.inr rfl))
    (hb : attributeBase (.Name x p) f X.env (eval (.Name x p) X.env) = eval (.Name x p) X.env := by rfl)
    (hd : (x == ("__debug__" : Str)) = false := by decide) (hcd : (x == ("__classdict__" : Str)) = false := by decide) : XE X cl P (.Attribute (.Name x p) f pos) (xFldO i c f) := fun E hE =>
  PE.weak (pe_fld (pe_var hN hv hd hcd) hb) fun σ H Q ⟨T, ms, m, ms', s, z, k⟩ => by
    unfold xFldO at z
    obtain ⟨fs, e1, z⟩ := Option.bind_eq_some_iff.mp z
    obtain ⟨d, e2, z⟩ := Option.bind_eq_some_iff.mp z
    cases z
    obtain ⟨a, dx, vs, B, h1, ha, hl, _, kp⟩ := s.slotO (slO_eq e1)
    obtain ⟨v, h2, h3⟩ := hl f d e2
    exact ⟨.ref a, h1, a, _, dx, vs, v, rfl, ha, hc, hn, h2, k _ _ (kp v d h3)⟩
theorem xs_fldO (i c : Nat) {x f : Str} {e : Expr} {p apos pos : Pos} {g : EF} (hc : Cls X.K (cl c)) (hn : NoAttr X.K (cl c) f) (he : XE X cl P e g) (hN : X.N[i]? = some x := by rfl) (hv : Vis X.env.scope x := by first | exact Or.inl rfl | exact Or.inr (Or.inl rfl) | exact Or.inr (Or.inr rfl))
    (hs : swapsWith e (some (.Attribute (.Name x p) f apos)) pos.line X.env = pure false := by rfl)
    (hd : (x == ("__debug__" : Str)) = false := by decide) (hcd : (x == ("__classdict__" : Str)) = false := by decide) : XS X cl P (.Assign [.Attribute (.Name x p) f apos] e pos) (sFldO i c f g) := fun E hE =>
  PS.weak (ps_fld (pe_var hN hv hd hcd) (he E hE) hs) fun D σ H ⟨T, ms, o, ms', s, z, k⟩ => by
    unfold sFldO at z
    obtain ⟨a, e1, z⟩ := Option.bind_eq_some_iff.mp z
    obtain ⟨fs, e2, z⟩ := Option.bind_eq_some_iff.mp z
    split at z
    · rename_i hz
      cases z
      refine ⟨T, ms, a.1, a.2, s, e1, fun y H1 s1 => ?_⟩
      have h := slO_eq e2
      obtain ⟨v, h1⟩ := s1.cov i _ h
      refine ⟨v, h1, ?_⟩
      have s2 := (s1.take h1 h).swap
      obtain ⟨B, fp, r⟩ := s2.rel
      obtain ⟨ad, dx, vs, rfl, ha, hl, _, fp', r'⟩ := r.fld (f := f)
      refine ⟨ad, _, dx, vs, rfl, ha, hc, hn, by rw [hl]; exact hz, k _ _ ?_⟩
      have s3 : Stt ⟨cl, X.K⟩ E ((.ref ad, .o c (putM f a.1 fs)) :: T) σ (a.2.set i none) _ := s2.of r'.rel
      have s4 := s3.put h1 (hole_at h)
      rw [List.set_set] at s4
      exact s4
    · cases z
end
end Mh
namespace Mh
open PySem L2

theorem call_raw {Y : Tx} {E : Ent} {T : List (V × M)} {σ : L2.St} {ms2 : En} {H1 : Hp} {vs dvs : List V} {l : List M} {m : M} {c : En} {dd : List D} {n : Nat} {ff : FF} {Q : VK} {E0 : XK} (hdd : ∀ B, RepL Y B dvs dd)
    (hl : vs.length = l.length) (hn : (l ++ dd.map M.p).length = n) (s1 : Stt Y E (vs.zip l ++ T) σ ms2 H1)
    (hf : ff (l ++ dd.map .p) = some (m, c)) (k : ∀ v H', Stt Y E (prs ((vs ++ dvs).map some) c ++ (v, m) :: T) σ ms2 H' → Q v H') : spF Y n ff (vs ++ dvs) H1 Q E0 := by
  obtain ⟨B, fp, g, sp, nd, ow⟩ := s1.rel
  rw [List.append_assoc] at sp
  obtain ⟨fA, fR, rfl, sA, sR⟩ := sp.split
  have ndp := List.nodup_append.mp nd
  have hdl := (hdd B).len
  refine ⟨B, fA, l ++ dd.map .p, by rw [← hn]; simp [hl, hdl], hn, ⟨Grow.refl g.sub, ?_, ndp.1, fun a ha => ⟨(ow a (List.mem_append_left _ ha)).1, .inr ha⟩⟩, m, c, hf, fun v H' ⟨B2, fp2, r2⟩ => k v H' ?_⟩
  · rw [List.zip_append hl]
    have := sA.app (Sep.pure0 (H := H1) (hdd B))
    simpa using this
  · have fr := RelB.frame g sR nd ow sR.there r2
    have s2 : Stt Y E ((v, m) :: (prs ((vs ++ dvs).map some) c ++ T)) σ ms2 H' := s1.of (by
      have := fr.rel
      rw [List.cons_append] at this
      rw [List.cons_append, List.append_assoc]
      exact this)
    exact s2.of (s2.rel.perm (List.Perm.append_right _ List.perm_middle.symm))
theorem Stt.midU {Y : Tx} {E : Ent} {T A : List (V × M)} {σ : L2.St} {ms : En} {H : Hp} {x : V × M} (s : Stt Y E (A ++ x :: T) σ ms H) : Stt Y E (x :: T) σ ms H := s.unders
theorem RepF.keys {Y : Tx} {B : Hp} {f : Str} : ∀ {vs : List (Str × V)} {ms : List (Str × D)}, RepF Y B vs ms → ms.lookup f = none → vs.lookup f = none
  | _, [], .nil, h => rfl
  | _, (k, m) :: ms, .cons a r, h => by
    rw [List.lookup_cons] at h ⊢
    cases hb : f == k with
    | true => rw [hb] at h; cases h
    | false => rw [hb] at h; exact RepF.keys r h
def isO (c : Nat) (m : Str) : D → Bool
  | .obj c' fs => decide (c' = c) && (fs.lookup m).isNone
  | _ => false
theorem isO_eq {c : Nat} {m : Str} {d : D} (h : isO c m d = true) : ∃ fs, d = .obj c fs ∧ fs.lookup m = none := by
  cases d with
  | obj c' fs =>
    simp only [isO, Bool.and_eq_true, decide_eq_true_eq, Option.isNone_iff_eq_none] at h
    obtain ⟨rfl, h⟩ := h
    exact ⟨fs, rfl, h⟩
  | _ => cases h
/-- o.m(..), o data -/
def xMth (ff : FF) (dd : List D) (bs : List (Option Nat)) (c : Nat) (m : Str) (f : EF) (a : AF) : EF := fun ms => (f ms).bind fun x => if isO c m (frz x.1) = true then (a x.2).bind fun l => (ff (.p (frz x.1) :: l.1 ++ dd.map .p)).bind fun r =>
  (putB bs r.2.tail l.2).bind fun ms' => some (r.1, ms') else none
/-- a new instance, then __init__ -/
def mkG (ff : FF) (c : Nat) (l : List M) (ms : En) : Option (M × En) := (ff (.o c [] :: l)).bind fun r => match r.1, r.2 with
  | .p .non, some m :: _ => some (m, ms)
  | _, _ => none
def xMk (ff : FF) (dd : List D) (c : Nat) (a : AF) : EF := fun ms => (a ms).bind fun l => mkG ff c (l.1 ++ dd.map .p) l.2
def xMkS (ff : FF) (dd : List D) (c : Nat) (f : EF) : EF := fun ms => (f ms).bind fun a => (seqD (frz a.1)).bind fun ds => mkG ff c (ds.map .p ++ dd.map .p) a.2
def xMkC (ff : FF) (dd : List D) (c i : Nat) (f : EF) : EF := fun ms => match ms[i]? with
  | some (some (.p (.cls c'))) => if c' = c then xMkS ff dd c f ms else none
  | _ => none
def xCm (ff : FF) (dd : List D) (c : Nat) (a : AF) : EF := fun ms => (a ms).bind fun l => (ff (.p (.cls c) :: l.1 ++ dd.map .p)).bind fun r => some (r.1, l.2)
section
variable {X : Cx} {cl : Nat → Addr} {P : List Nat}
theorem xe_mth {k n c : Nat} {f : Addr} {fd : FuncData} {ps : List Str} {ff : FF} {o e : Expr} {es : List Expr} {m : Str} {apos pos : Pos} {fo : EF} {a : AF} {bs : List (Option Nat)} {dvs : List V} {ds : List Value} {dd : List D} {pl : Sem Bool}
    (F : FnOk X.prog X.w X.K X.mg X.base CX0 k f fd ps (spF ⟨cl, X.K⟩ n ff)) (hr : Room k X.A) (hc : Cls X.K (cl c)) (hm : Meth X.K (cl c) m f) (hb : Binds X.K fd ps ds) (hd : Vals dvs ds) (hdd : ∀ B, RepL ⟨cl, X.K⟩ B dvs dd) (hn : bs.length + dd.length + 1 = n)
    (ho : XE X cl P o fo) (ha : XAb X cl P (e :: es) bs a) (hst : starEach (e :: es) X.env = (false, eval e X.env) :: starEach es X.env := by rfl) (hpl : (backTo pos (starEach es X.env)).any (·.1) = false := by rfl)
    (ht : eval (.Call (.Attribute o m apos) (e :: es) [] pos) X.env = (do
      let ov ← eval o X.env
      standAt apos.atName
      let (f, first) ← holding [ov] (getMethod ov m pl)
      callWith pos f first (backTo pos (starEach (e :: es) X.env)) (backToKw pos (keywordEach [] X.env))) := by rfl) :
    XE X cl P (.Call (.Attribute o m apos) (e :: es) [] pos) (xMth ff dd bs c m fo a) := fun E hE =>
  PE.weak (pe_meth (ho E hE) hc hm F hr hb hd pass0 (ha E hE) hst hpl ht) fun σ H Q ⟨T, ms, mm, ms', s, z, kk⟩ => by
    unfold xMth at z
    obtain ⟨x, e0, z⟩ := Option.bind_eq_some_iff.mp z
    split at z
    · rename_i hi
      obtain ⟨l, e1, z⟩ := Option.bind_eq_some_iff.mp z
      obtain ⟨r, e2, z⟩ := Option.bind_eq_some_iff.mp z
      obtain ⟨q, e3, z⟩ := Option.bind_eq_some_iff.mp z
      cases z
      obtain ⟨fs, hx, hl0⟩ := isO_eq hi
      rw [hx] at e2
      refine ⟨T, ms, x.1, x.2, s, e0, fun xv H1 s1 => ?_⟩
      have s2 := s1.frz
      rw [hx] at s2
      obtain ⟨B, hB, rp, _⟩ := s2.pure
      obtain ⟨ad, dx, vs, rfl, hob, rf⟩ := (rp xv _ List.mem_cons_self).obj_of
      refine ⟨ad, dx, vs, rfl, hB _ _ hob, rf.keys hl0, (.ref ad, .p (.obj c fs)) :: T, x.2, l.1, l.2, s2, e1, fun ws H2 hl hbl hσ s3 => ?_⟩
      have s4 : Stt ⟨cl, X.K⟩ E (((V.ref ad :: ws).zip (M.p (.obj c fs) :: l.1)) ++ T) σ l.2 H2 := by
        have := s3.args
        exact this.of (this.rel.perm (List.Perm.append_right _ List.perm_middle))
      have := call_raw (vs := V.ref ad :: ws) (l := M.p (.obj c fs) :: l.1) (n := n) (ff := ff) (Q := Q) (E0 := fun _ _ _ => False) hdd (by simp [hl]) (by simp [← hn, hbl, hl] <;> omega) s4 e2 fun v H3 s5 => kk v H3 ?_
      · exact this
      obtain ⟨ro, rc⟩ := r
      dsimp only at s5 e3
      have s6 : Stt ⟨cl, X.K⟩ E (prs ((ws ++ dvs).map some) rc.tail ++ (v, ro) :: T) σ l.2 H3 := by
        cases rc with
        | nil => rw [prs_nil3] at s5; rw [List.tail_nil, prs_nil3]; exact s5
        | cons y ys =>
          cases y with
          | none => exact s5
          | some w => exact Stt.pop (show Stt ⟨cl, X.K⟩ E ((V.ref ad, w) :: (prs ((ws ++ dvs).map some) ys ++ (v, ro) :: T)) σ l.2 H3 from s5)
      exact putB_ok e3 (by simp [hbl]) (fun j i e => by
        obtain ⟨u, h1, h2⟩ := hσ j i e
        exact ⟨u, by rw [List.getElem?_append_left (List.getElem?_eq_some_iff.mp h1).1]; exact h1, h2⟩) s6
    · cases z
theorem xe_mth0 {k n c : Nat} {f : Addr} {fd : FuncData} {ps : List Str} {ff : FF} {o : Expr} {m : Str} {apos pos : Pos} {fo : EF} {dvs : List V} {ds : List Value} {dd : List D} {pl : Sem Bool}
    (F : FnOk X.prog X.w X.K X.mg X.base CX0 k f fd ps (spF ⟨cl, X.K⟩ n ff)) (hr : Room k X.A) (hc : Cls X.K (cl c)) (hm : Meth X.K (cl c) m f) (hb : Binds X.K fd ps ds) (hd : Vals dvs ds) (hdd : ∀ B, RepL ⟨cl, X.K⟩ B dvs dd) (hn : dd.length + 1 = n)
    (ho : XE X cl P o fo)
    (ht : eval (.Call (.Attribute o m apos) [] [] pos) X.env = (do
      let ov ← eval o X.env
      standAt apos.atName
      let (f, first) ← holding [ov] (getMethod ov m pl)
      callWith pos f first (backTo pos (starEach [] X.env)) (backToKw pos (keywordEach [] X.env))) := by rfl) :
    XE X cl P (.Call (.Attribute o m apos) [] [] pos) (xMth ff dd [] c m fo aN) := fun E hE =>
  PE.weak (pe_meth0 (ho E hE) hc hm F hr hb hd pass0 ht) fun σ H Q ⟨T, ms, mm, ms', s, z, kk⟩ => by
    unfold xMth at z
    obtain ⟨x, e0, z⟩ := Option.bind_eq_some_iff.mp z
    split at z
    · rename_i hi
      obtain ⟨l, e1, z⟩ := Option.bind_eq_some_iff.mp z
      cases e1
      obtain ⟨r, e2, z⟩ := Option.bind_eq_some_iff.mp z
      obtain ⟨q, e3, z⟩ := Option.bind_eq_some_iff.mp z
      cases z
      cases e3
      obtain ⟨fs, hx, hl0⟩ := isO_eq hi
      rw [hx] at e2
      refine ⟨T, ms, x.1, x.2, s, e0, fun xv H1 s1 => ?_⟩
      have s2 := s1.frz
      rw [hx] at s2
      obtain ⟨B, hB, rp, _⟩ := s2.pure
      obtain ⟨ad, dx, vs, rfl, hob, rf⟩ := (rp xv _ List.mem_cons_self).obj_of
      refine ⟨ad, dx, vs, rfl, hB _ _ hob, rf.keys hl0, ?_⟩
      have s4 : Stt ⟨cl, X.K⟩ E (([V.ref ad].zip [M.p (.obj c fs)]) ++ T) σ x.2 H1 := s2
      exact call_raw (vs := [V.ref ad]) (l := [M.p (.obj c fs)]) (n := n) (ff := ff) (Q := Q) (E0 := fun _ _ _ => False) hdd rfl (by simp [← hn] <;> omega) s4 e2 fun v H3 s5 => kk v H3 s5.unders
    · cases z
theorem mk_in {E : Ent} {T : List (V × M)} {σ : L2.St} {ms : En} {H1 : Hp} {vs dvs : List V} {l : List M} {m : M} {ms' : En} {dd : List D} {n c : Nat} {ff : FF} {Q : VK} {E0 : XK} (hdd : ∀ B, RepL ⟨cl, X.K⟩ B dvs dd) (hl : vs.length = l.length)
    (hn : l.length + dd.length + 1 = n) (s : Stt ⟨cl, X.K⟩ E (vs.zip l ++ T) σ ms H1) (hf : mkG ff c (l ++ dd.map .p) ms = some (m, ms')) (k : ∀ v H', Stt ⟨cl, X.K⟩ E ((v, m) :: T) σ ms' H' → Q v H') :
    ∀ x dx, H1 x = none → H1 dx = none → dx ≠ x → spF ⟨cl, X.K⟩ n ff (.ref x :: (vs ++ dvs)) (upd (upd H1 dx (.own x)) x (.ins (cl c) dx [])) (fun v H2 => v = .non ∧ Q (.ref x) H2) E0 := by
  intro x dx hx hdx hne
  unfold mkG at hf
  obtain ⟨r, e1, hf⟩ := Option.bind_eq_some_iff.mp hf
  obtain ⟨rm, rc⟩ := r
  dsimp only at hf
  split at hf
  · rename_i m0 rest
    cases hf
    obtain ⟨B0, fp0, r0⟩ := s.rel
    have sA : Stt ⟨cl, X.K⟩ E (vs.zip l ++ T) σ ms (upd H1 dx (.own x)) := s.of (r0.alloc hdx).rel
    have hx2 : upd H1 dx (.own x) x = none := by rw [upd_ne (Ne.symm hne)]; exact hx
    obtain ⟨B1, fp1, r1⟩ := sA.rel
    have sB : Stt ⟨cl, X.K⟩ E ((V.ref x :: vs).zip (M.o c [] :: l) ++ T) σ ms (upd (upd H1 dx (.own x)) x (.ins (cl c) dx [])) :=
      sA.of (r1.allocO hx2 fun H' e' _ => .o (fp := []) e' .nil).rel
    exact call_raw (vs := V.ref x :: vs) (l := M.o c [] :: l) (n := n) (ff := ff) hdd (by simp [hl]) (by simp [← hn]) sB e1 fun v H2 s2 => by
      have s3 : Stt ⟨cl, X.K⟩ E ((V.ref x, m) :: (prs ((vs ++ dvs).map some) rest ++ (v, .p .non) :: T)) σ ms H2 := s2
      have s4 := s3.under
      exact ⟨s4.swap.rep.non_of, k _ _ s4.swap.pop⟩
  · cases hf
theorem xe_mk {k n c : Nat} {f : Addr} {fd : FuncData} {ps : List Str} {ff : FF} {x : Str} {e : Expr} {es : List Expr} {p pos : Pos} {a : AF} {dvs : List V} {ds : List Value} {dd : List D} {j : Nat}
    (F : FnOk X.prog X.w X.K X.mg X.base CX0 k f fd ps (spF ⟨cl, X.K⟩ n ff)) (M : Mk X.K (cl c) f) (hr : Room (k + 1) X.A) (hm : X.mg x = some (.ref (cl c))) (hb : Binds X.K fd ps ds) (hd : Vals dvs ds) (hdd : ∀ B, RepL ⟨cl, X.K⟩ B dvs dd) (hj : (e :: es).length = j) (hn : j + dd.length + 1 = n)
    (hlen : ∀ ms l ms', a ms = some (l, ms') → l.length = j) (ha : XA X cl P (e :: es) a) (hg : Gl X x := by rfl) (hdb : (x == ("__debug__" : Str)) = false := by decide) (he : starEach (e :: es) X.env = (false, eval e X.env) :: starEach es X.env := by rfl) (hpl : (backTo pos (starEach es X.env)).any (·.1) = false := by rfl) :
    XE X cl P (.Call (.Name x p) (e :: es) [] pos) (xMk ff dd c a) := fun E hE =>
  PE.weak (pe_make M F hr hg hm hb hd pass0 (ha E hE) hdb he hpl) fun σ H Q ⟨T, ms, mm, ms', s, z, kk⟩ => by
    unfold xMk at z
    obtain ⟨l, e1, z⟩ := Option.bind_eq_some_iff.mp z
    exact ⟨T, ms, l.1, l.2, s, e1, fun vs H1 hl s1 => mk_in hdd hl (by rw [hlen _ _ _ e1]; exact hn) s1.args z kk⟩
theorem pe_makeS1 {C f : Addr} {k : Nat} {fd : FuncData} {ps : List Str} {sp : Sp} {dvs : List V} {ds : List Value} {E : XK} {x : Str} {e : Expr} {p q pos : Pos} {te : TE} (M : Mk X.K C f) (F : FnOk X.prog X.w X.K X.mg X.base CX0 k f fd ps sp) (hr : Room (k + 1) X.A) (hg : Gl X x) (hm : X.mg x = some (.ref C)) (hb : Binds X.K fd ps ds) (hd : Vals dvs ds)
    (hx : Passes CX0 X E) (he : PE X e te) (hdb : (x == ("__debug__" : Str)) = false := by decide) (hst : starEach [.Starred e q] X.env = [(true, eval e X.env)] := by rfl) :
    PE X (.Call (.Name x p) [.Starred e q] [] pos) (fun σ H Q => te σ H fun y H1 => ∃ a xs, y = V.ref a ∧ (SqT X.K H1 a xs ∨ SqL X.K H1 a xs) ∧ ∀ x dx, H1 x = none → H1 dx = none → dx ≠ x → sp (.ref x :: (xs ++ dvs)) (upd (upd H1 dx (.own x)) x (.ins C dx [])) (fun v H2 => v = .non ∧ Q (.ref x) H2) E) := by
  refine ⟨fun pins s σ H Q I h => ?_⟩
  refine wpAny_Call_Name_kw (ld_glob I hg hm ?_ hdb)
  refine PySem.W.callWith_S (h₀ := X.base) I.ok.mod.kin M.kp (thn (he.run pins s σ H _ I h) fun v s1 ⟨y, H1, I1, ry, a, xs, ey, hxs, q⟩ => ?_) hst
  subst ey
  obtain rfl : v = Value.ref a := ry
  exact StX.star_any I1 hxs fun us s2 I2 rv => ⟨I2.kIn, run_make M F hr hb hd hx I2 rv q⟩
theorem pe_makeV1 {C f : Addr} {k i : Nat} {fd : FuncData} {ps : List Str} {sp : Sp} {dvs : List V} {ds : List Value} {E : XK} {x : Str} {e : Expr} {p q pos : Pos} {te : TE} (M : Mk X.K C f) (F : FnOk X.prog X.w X.K X.mg X.base CX0 k f fd ps sp) (hr : Room (k + 1) X.A) (hb : Binds X.K fd ps ds) (hd : Vals dvs ds)
    (hx : Passes CX0 X E) (he : PE X e te) (hN : X.N[i]? = some x) (hv : Vis X.env.scope x) (hdb : (x == ("__debug__" : Str)) = false := by decide) (hcd : (x == ("__classdict__" : Str)) = false := by decide) (hst : starEach [.Starred e q] X.env = [(true, eval e X.env)] := by rfl) :
    PE X (.Call (.Name x p) [.Starred e q] [] pos) (fun σ H Q => σ[i]? = some (some (.ref C)) ∧ te σ H fun y H1 => ∃ a xs, y = V.ref a ∧ (SqT X.K H1 a xs ∨ SqL X.K H1 a xs) ∧ ∀ x dx, H1 x = none → H1 dx = none → dx ≠ x → sp (.ref x :: (xs ++ dvs)) (upd (upd H1 dx (.own x)) x (.ins C dx [])) (fun v H2 => v = .non ∧ Q (.ref x) H2) E) := by
  refine ⟨fun pins s σ H Q I ⟨hσ, h⟩ => ?_⟩
  refine wpAny_Call_Name_kw (thn ((pe_var (pos := p) hN hv hdb hcd).run pins s σ H (fun v H1 => v = V.ref C ∧ H1 = H) I ⟨.ref C, hσ, rfl, rfl⟩) fun u s0 ⟨v, H0, I0, rv, e1, e2⟩ => ?_)
  subst e1 e2
  obtain rfl : u = Value.ref C := rv
  refine PySem.W.callWith_S (h₀ := X.base) I.ok.mod.kin M.kp (thn (he.run pins s0 σ H0 _ I0 h) fun v s1 ⟨y, H1, I1, ry, a, xs, ey, hxs, q⟩ => ?_) hst
  subst ey
  obtain rfl : v = Value.ref a := ry
  exact StX.star_any I1 hxs fun us s2 I2 rv => ⟨I2.kIn, run_make M F hr hb hd hx I2 rv q⟩
theorem RepL.zipS {Y : Tx} {B : Hp} {E : Ent} {H : Hp} {T : List (V × M)} {σ : L2.St} {ms : En} {fp : List Addr} : ∀ {vs : List V} {ds : List D} {L : List (V × M)}, RepL Y B vs ds → RelB Y E B fp L H → RelB Y E B fp (vs.zip (ds.map .p) ++ L) H
  | _, _, _, .nil, h => h
  | _, _, _, .cons a r, h => (RepL.zipS (T := T) (σ := σ) (ms := ms) r h).push a
theorem seqD_in {E : Ent} {T : List (V × M)} {σ : L2.St} {ms : En} {H1 : Hp} {v : V} {d : D} {ds : List D} (s : Stt ⟨cl, X.K⟩ E ((v, .p d) :: T) σ ms H1) (h : seqD d = some ds) : ∃ a xs, v = V.ref a ∧ (SqT X.K H1 a xs ∨ SqL X.K H1 a xs) ∧ xs.length = ds.length ∧ Stt ⟨cl, X.K⟩ E (xs.zip (ds.map .p) ++ T) σ ms H1 := by
  obtain ⟨B, fp, r⟩ := s.rel
  have rv := r.mem (v := v) (d := d) (by simp)
  have fin : ∀ {xs : List V}, RepL ⟨cl, X.K⟩ B xs ds → Stt ⟨cl, X.K⟩ E (xs.zip (ds.map .p) ++ T) σ ms H1 := fun rl => by
    have r2 := RepL.zipS (T := T) (σ := σ) (ms := ms) rl r
    have s2 : Stt ⟨cl, X.K⟩ E (_ ++ (v, .p d) :: T) σ ms H1 := s.of (by rw [List.append_assoc]; exact r2.rel)
    exact Stt.pop (s2.of (s2.rel.perm (List.Perm.append_right _ List.perm_middle)))
  unfold seqD at h
  split at h
  · cases h
    obtain ⟨a, xs, e, hs, rl⟩ := rv.tup_of
    exact ⟨a, xs, e, .inl (ex_t r.grow.sub hs), rl.len, fin rl⟩
  · cases h
    obtain ⟨a, xs, e, hs, rl⟩ := rv.lst_of
    exact ⟨a, xs, e, .inr (ex_l r.grow.sub hs), rl.len, fin rl⟩
  · cases h
theorem mkS_in {E : Ent} {T : List (V × M)} {σ : L2.St} {ms ms' : En} {H1 : Hp} {v : V} {d : M} {ds : List D} {dvs : List V} {dd : List D} {n c : Nat} {m : M} {ff : FF} {Q : VK} {E0 : XK} (hdd : ∀ B, RepL ⟨cl, X.K⟩ B dvs dd)
    (s : Stt ⟨cl, X.K⟩ E ((v, d) :: T) σ ms H1) (h : seqD (frz d) = some ds) (hn : ds.length + dd.length + 1 = n) (hf : mkG ff c (ds.map .p ++ dd.map .p) ms = some (m, ms')) (k : ∀ v H', Stt ⟨cl, X.K⟩ E ((v, m) :: T) σ ms' H' → Q v H') :
    ∃ a xs, v = V.ref a ∧ (SqT X.K H1 a xs ∨ SqL X.K H1 a xs) ∧ ∀ x dx, H1 x = none → H1 dx = none → dx ≠ x → spF ⟨cl, X.K⟩ n ff (.ref x :: (xs ++ dvs)) (upd (upd H1 dx (.own x)) x (.ins (cl c) dx [])) (fun v H2 => v = .non ∧ Q (.ref x) H2) E0 := by
  obtain ⟨a, xs, e, hs, hl, s2⟩ := seqD_in s.frz h
  exact ⟨a, xs, e, hs, mk_in hdd (by simp [hl]) (by simpa using hn) s2 hf k⟩
/-- how many: what the star gives must fill the parameters -/
def cntD (j : Nat) (f : EF) : EF := fun ms => (f ms).bind fun a => (seqD (frz a.1)).bind fun ds => if ds.length = j then some a else none
theorem xe_mkS {k n c j : Nat} {f : Addr} {fd : FuncData} {ps : List Str} {ff : FF} {x : Str} {e : Expr} {p q pos : Pos} {g : EF} {dvs : List V} {ds : List Value} {dd : List D}
    (F : FnOk X.prog X.w X.K X.mg X.base CX0 k f fd ps (spF ⟨cl, X.K⟩ n ff)) (M : Mk X.K (cl c) f) (hr : Room (k + 1) X.A) (hm : X.mg x = some (.ref (cl c))) (hb : Binds X.K fd ps ds) (hd : Vals dvs ds) (hdd : ∀ B, RepL ⟨cl, X.K⟩ B dvs dd) (hn : j + dd.length + 1 = n)
    (he : XE X cl P e g) (hg : Gl X x := by rfl) (hdb : (x == ("__debug__" : Str)) = false := by decide) (hst : starEach [.Starred e q] X.env = [(true, eval e X.env)] := by rfl) :
    XE X cl P (.Call (.Name x p) [.Starred e q] [] pos) (xMkS ff dd c (cntD j g)) := fun E hE =>
  PE.weak (pe_makeS1 M F hr hg hm hb hd pass0 (he E hE) hdb hst) fun σ H Q ⟨T, ms, mm, ms', s, z, kk⟩ => by
    unfold xMkS at z
    obtain ⟨a, e1, z⟩ := Option.bind_eq_some_iff.mp z
    obtain ⟨ds, e2, z⟩ := Option.bind_eq_some_iff.mp z
    unfold cntD at e1
    obtain ⟨a', e3, e1⟩ := Option.bind_eq_some_iff.mp e1
    obtain ⟨ds', e4, e1⟩ := Option.bind_eq_some_iff.mp e1
    split at e1
    · rename_i hj
      cases e1
      rw [e2] at e4
      cases e4
      exact ⟨T, ms, a.1, a.2, s, e3, fun v H1 s1 => mkS_in hdd s1 e2 (by rw [hj]; exact hn) z kk⟩
    · cases e1
theorem xe_mkC {k n c j i : Nat} {f : Addr} {fd : FuncData} {ps : List Str} {ff : FF} {x : Str} {e : Expr} {p q pos : Pos} {g : EF} {dvs : List V} {ds : List Value} {dd : List D}
    (F : FnOk X.prog X.w X.K X.mg X.base CX0 k f fd ps (spF ⟨cl, X.K⟩ n ff)) (M : Mk X.K (cl c) f) (hr : Room (k + 1) X.A) (hb : Binds X.K fd ps ds) (hd : Vals dvs ds) (hdd : ∀ B, RepL ⟨cl, X.K⟩ B dvs dd) (hn : j + dd.length + 1 = n)
    (he : XE X cl P e g) (hN : X.N[i]? = some x := by rfl) (hv : Vis X.env.scope x := by first | exact Or.inl rfl | exact Or.inr (Or.inl rfl) | exact Or.inr (Or.inr rfl))
    (hdb : (x == ("__debug__" : Str)) = false := by decide) (hcd : (x == ("__classdict__" : Str)) = false := by decide) (hst : starEach [.Starred e q] X.env = [(true, eval e X.env)] := by rfl) :
    XE X cl P (.Call (.Name x p) [.Starred e q] [] pos) (xMkC ff dd c i (cntD j g)) := fun E hE =>
  PE.weak (pe_makeV1 (i := i) M F hr hb hd pass0 (he E hE) hN hv hdb hcd hst) fun σ H Q ⟨T, ms, mm, ms', s, z, kk⟩ => by
    unfold xMkC at z
    split at z
    · rename_i c' hc
      split at z
      · rename_i hcc
        subst hcc
        unfold xMkS at z
        obtain ⟨a, e1, z⟩ := Option.bind_eq_some_iff.mp z
        obtain ⟨ds, e2, z⟩ := Option.bind_eq_some_iff.mp z
        unfold cntD at e1
        obtain ⟨a', e3, e1⟩ := Option.bind_eq_some_iff.mp e1
        obtain ⟨ds', e4, e1⟩ := Option.bind_eq_some_iff.mp e1
        split at e1
        · rename_i hj
          cases e1
          rw [e2] at e4
          cases e4
          obtain ⟨v, h1, s'⟩ := s.var hc
          obtain rfl := s'.rep.cls_of
          exact ⟨h1, T, ms, a.1, a.2, s, e3, fun v H1 s1 => mkS_in hdd s1 e2 (by rw [hj]; exact hn) z kk⟩
        · cases e1
      · cases z
    · cases z
/-- C.m(..), a classmethod -/
theorem xe_cm {k n c j : Nat} {f pa : Addr} {fd : FuncData} {ps : List Str} {ff : FF} {x m : Str} {e : Expr} {es : List Expr} {q apos pos : Pos} {a : AF} {mc : Value} {dvs : List V} {ds : List Value} {dd : List D} {pl : Sem Bool}
    (F : FnOk X.prog X.w X.K X.mg X.base CX0 k f fd ps (spF ⟨cl, X.K⟩ n ff)) (hr : Room k X.A) (hm : X.mg x = some (.ref (cl c))) (cr : ClX.CRead X.K (cl c) mc) (cm : ClX.CMet X.K (cl c) mc m pa f) (hb : Binds X.K fd ps ds) (hd : Vals dvs ds) (hdd : ∀ B, RepL ⟨cl, X.K⟩ B dvs dd) (hj : (e :: es).length = j) (hn : j + dd.length + 1 = n)
    (hlen : ∀ ms l ms', a ms = some (l, ms') → l.length = j) (ha : XA X cl P (e :: es) a) (hg : Gl X x := by rfl) (hdb : (x == ("__debug__" : Str)) = false := by decide)
    (hst : starEach (e :: es) X.env = (false, eval e X.env) :: starEach es X.env := by rfl) (hpl : (backTo pos (starEach es X.env)).any (·.1) = false := by rfl)
    (ht : eval (.Call (.Attribute (.Name x q) m apos) (e :: es) [] pos) X.env = (do
      let ov ← eval (.Name x q) X.env
      standAt apos.atName
      let (f, first) ← holding [ov] (getMethod ov m pl)
      callWith pos f first (backTo pos (starEach (e :: es) X.env)) (backToKw pos (keywordEach [] X.env))) := by rfl) :
    XE X cl P (.Call (.Attribute (.Name x q) m apos) (e :: es) [] pos) (xCm ff dd c a) := fun E hE =>
  PE.weak (ClX.pe_cmeth (E := fun _ _ _ => False) (pe_glob (v := .ref (cl c)) hg hm rfl hdb) cr cm (F.raw hb hd) hr pass0 (ha E hE) hst hpl ht) fun σ H Q ⟨T, ms, mm, ms', s, z, kk⟩ => by
    unfold xCm at z
    obtain ⟨l, e1, z⟩ := Option.bind_eq_some_iff.mp z
    obtain ⟨r, e2, z⟩ := Option.bind_eq_some_iff.mp z
    cases z
    refine ⟨rfl, T, ms, l.1, l.2, s, e1, fun vs H1 hl s1 => ?_⟩
    have s2 : Stt ⟨cl, X.K⟩ E ((V.ref (cl c) :: vs).zip (M.p (.cls c) :: l.1) ++ T) σ l.2 H1 := s1.args.scal fun _ => .cls c
    exact call_raw (vs := V.ref (cl c) :: vs) (l := M.p (.cls c) :: l.1) (n := n) (ff := ff) hdd (by simp [hl]) (by simp [← hn, hlen _ _ _ e1] <;> omega) s2 e2 fun v H3 s5 => kk v H3 s5.unders
theorem aN_len : ∀ ms l ms', aN ms = some (l, ms') → l.length = 0 := fun _ _ _ h => by cases h; rfl
theorem aC_len {f : EF} {a : AF} {j : Nat} (h : ∀ ms l ms', a ms = some (l, ms') → l.length = j) : ∀ ms l ms', aC f a ms = some (l, ms') → l.length = j + 1 := fun ms l ms' e => by
  unfold aC at e
  obtain ⟨x, e1, e⟩ := Option.bind_eq_some_iff.mp e
  obtain ⟨y, e2, e⟩ := Option.bind_eq_some_iff.mp e
  cases e
  simp [h _ _ _ e2]
end
end Mh
namespace Mh
open PySem L2
section
open PySem.W
variable {prog : Program} {w : World} {A : Around} {E : Value → Shared → Prop} {s : Shared} {K : Frag} {x C f : Addr} {ox : Obj} {od : Option Obj} {b tb : Value}
theorem slot_one {id n : String} {name : Str} {args : List Value} {Q : Option Value → Shared → Prop} {B : Builtin} (X : K.In s.heap) (I : InstAt s.heap x ox C od) (hs : findIn K (.ref C) name = some (some (.builtin id))) (hsl : Slot "object" name id)
    (hk : builtinKind id = some .slot) (hsp : splitId id = some ("object", n)) (hob : subIn K (.ref C) (.type "object") = some true) (ha : argsOk id ⟨.ref x :: args, []⟩) (entry : entryFor table id = some B)
    (h : wpAny (model prog w) A.in1 (B ⟨.ref x :: args, []⟩) (GQ.FinOf prog w A (wants (fun v => Q (some v)) E)) (fun e s' => wants (fun v => Q (some v)) E (.error e) s') s) :
    wpAny (model prog w) A (callSpecialIfBound? (.ref x) name args) Q E s := by
  simp only [callSpecialIfBound?, bindSpecialIfBound?]
  refine wpAny_holding (wpAny_bind (wpAny_bind (wpAny_bind (I.type.here ((looks_findIn X hs).here ?_)))))
  simp only [hsl.bind]
  have fin : wpAny (model prog w) A (call (.builtin id) ([.ref x] ++ args) >>= fun v => pure (some v)) Q E s := by
    refine wpAny_bind (wpAny_mono (wpAny_call (Q := fun v => Q (some v)) (codeAny_call_builtin hsl.plain entry ?_)) (fun v s' h' => wpAny_pure h') fun _ _ h' => h')
    exact check_slot hk hsp (I.type.andThen (looks_subIn X hob)) ha h
  refine wpAny_bind (wpAny_askSetting (wpAny_ite ?_))
  split
  · exact wpAny_bind (wpAny_pure (wpAny_pure fin))
  · exact wpAny_tryCatch (wpAny_bind (wpAny_pure (wpAny_pure fin)))
theorem ne_own {Q : Value → Shared → Prop} (hu : A.in1.units < cLine) (hu0 : A.units < cLine) (X : K.In s.heap) (I : InstAt s.heap x ox C od) (hb : Looks (model prog w) s.heap (typeOf b) tb) (hn : notFirst K C tb = true)
    (hs : findIn K (.ref C) "__eq__" = some (some (.ref f))) (hne : findIn K (.ref C) "__ne__" = some (some (.builtin "object.__ne__"))) (hob : subIn K (.ref C) (.type "object") = some true) (hf : isFn K (.ref f) = true)
    (h : wpAny (model prog w) A.in1 (call (.ref f) [.ref x, b]) (fun v s' => ∃ k, v = .bool k ∧ Q (.bool (!k)) s') E s) : wpAny (model prog w) A (richCompare .NotEq (.ref x) b) Q E s := by
  have body : wpAny (model prog w) A.in1 (Builtin.«object.__ne__» ⟨[.ref x, b], []⟩) (fun fin s' => ∃ k : Bool, fin = .done (.ret (.bool k)) ∧ Q (.bool k) s') E s := by
    unfold Builtin.«object.__ne__»
    refine wpAny_bind (m := slotArgs "__ne__" 1 _) (wpAny_pure ?_)
    refine wpAny_bind (m := cRoomFor _ _) (wpAny_cRoomFor hu ?_)
    refine wpAny_bind (m := callSpecialIfBound? (.ref x) _ _) (ifBound_K X I hs hf (wpAny_mono h (fun v s' hv => ?_) fun _ _ e => e))
    obtain ⟨k, rfl, hq⟩ := hv
    refine wpAny_bind (m := truthy (.bool k)) (wpAny_truthy_bool ?_)
    exact wpAny_pure ⟨_, rfl, hq⟩
  have one : wpAny (model prog w) A (tryCompare (.ref x) "__ne__" b) (fun r s' => ∃ v, r = some v ∧ Q v s') E s := by
    unfold tryCompare
    refine wpAny_bind (slot_one X I hne F.cmp_object.ne F.cmpKind_ne F.cmpSplit_ne hob (F.cmpArgs_ne _ _) F.cmpEntry_ne (wpAny_mono body (fun fin s' hv => ?_) fun _ _ e => e))
    obtain ⟨k, rfl, hq⟩ := hv
    exact wpAny_pure ⟨_, rfl, hq⟩
  unfold richCompare
  simp only [oneThing_ref]
  refine wpAny_holding (wpAny_bind (wpAny_cRoomFor hu0 ?_))
  refine wpAny_bind (I.type.here (wpAny_bind (hb.here ?_)))
  split
  · rename_i q
    have e : subIn K tb (.ref C) = some false := by
      rcases Bool.or_eq_true_iff.mp hn with e | e
      · rw [beq_iff_eq.mp e] at q; simp at q
      · exact beq_iff_eq.mp e
    refine wpAny_bind ((looks_subIn X e).here ?_)
    simp only [Bool.false_eq_true, if_false]
    refine wpAny_bind (wpAny_mono one (fun r s' z => ?_) fun _ _ e => e)
    obtain ⟨v, rfl, hq⟩ := z
    exact wpAny_pure hq
  · refine wpAny_bind (wpAny_pure ?_)
    simp only [Bool.false_eq_true, if_false]
    refine wpAny_bind (wpAny_mono one (fun r s' z => ?_) fun _ _ e => e)
    obtain ⟨v, rfl, hq⟩ := z
    exact wpAny_pure hq
open AutoSeq1 (wpAny_loadPart') in
theorem str_own (y : Str) (u : Tok) (l : Addr) (c : Value) (dd : Option Addr) (sl : Array (Option Value)) :
    Meets (Builtin.«str.__eq__» ⟨[.str y u, .ref l], []⟩) (fun _ R s => s.heap.get? l = some { cls := c, dict := dd, data := .plain, slots := sl } ∧ R (.ok (.ret .notImplemented)) s) :=
  .of_wp fun prog w A R s h => by
    obtain ⟨hp, g, d, tk, os⟩ := s
    obtain ⟨hl, h⟩ := h
    wp_walk using wpAny_loadPart' hl, wpAny_load hl
    exact ⟨_, rfl, h⟩
/-- a text == an instance: the instance's own == decides -/
theorem eq_str_own {y : Str} {t : Tok} {Q : Value → Shared → Prop} (hu : A.units < cLine) (X : K.In s.heap) (I : InstAt s.heap x ox C od) (hd : ox.data = .plain) (hsb : subIn K (.ref C) (.type "str") = some false)
    (hs : findIn K (.ref C) "__eq__" = some (some (.ref f))) (hf : isFn K (.ref f) = true)
    (h : wpAny (model prog w) A (call (.ref f) [.ref x, .str y t]) (CmpBack Q) E s) : wpAny (model prog w) A (richCompare .Eq (.str y t) (.ref x)) Q E s := by
  have two : wpAny (model prog w) A (tryCompare (.ref x) "__eq__" (.str y t)) (fun r s' => ∃ v, r = some v ∧ Q v s') E s := by
    unfold tryCompare
    refine wpAny_bind (ifBound_K X I hs hf (wpAny_mono h (fun v s' hv => ?_) fun _ _ e => e))
    cases v <;> first | exact hv.elim | exact wpAny_pure ⟨_, rfl, hv⟩
  have hT : s.TypeIs (.str y t) "str" := rfl
  unfold richCompare
  simp only [hT.oneThing_none]
  refine wpAny_holding (wpAny_bind (wpAny_cRoomFor hu ?_))
  refine wpAny_bind (wpAny_typeOf hT (wpAny_bind (I.type.here ?_)))
  have hne : (Value.type "str" != Value.ref C) = true := by simp
  rw [if_pos hne]
  refine wpAny_bind ((looks_subIn X hsb).here ?_)
  simp only [Bool.false_eq_true, if_false]
  have go : wpAny (model prog w) A (tryCompare (.str y t) (cmpInfo .Eq).2.1 (.ref x)) (fun r s' => r = none ∧ s' = s) E s := by
    refine PySem.wpAny_tryCompare_declines hT F.slot_str_eq ?_
    exact call_meets F.slot_str_eq hT F.entry_str_eq (F.args_str_eq_2 _ _) (str_own y t x ox.cls ox.dict ox.slots) ⟨by rw [← hd]; exact I.at_, rfl, rfl, rfl⟩
  refine wpAny_bind (wpAny_mono go (fun r s' z => ?_) fun _ _ e => e)
  obtain ⟨rfl, rfl⟩ := z
  simp only [Bool.not_false, if_true]
  refine wpAny_bind (wpAny_mono two (fun r s' z => ?_) fun _ _ e => e)
  obtain ⟨v, rfl, hq⟩ := z
  exact wpAny_pure hq
end
end Mh
namespace Mh
open PySem L2

/-- a callee runs within a builtin -/
theorem run_at {X : Cx} {k : Nat} {f : Addr} {fd : FuncData} {ps : List Str} {sp : Sp} {E : XK} {A : Around} {pins : List (Addr × Obj)} {σ : L2.St} {H : Hp} {s : Shared} {Q : VK} {us ds : List Value} {vs dvs : List V} (F : FnOk X.prog X.w X.K X.mg X.base CX0 k f fd ps sp) (hr : Room k A) (hf : A.frames = X.A.frames)
    (hb : Binds X.K fd ps ds) (hd : Vals dvs ds) (hx : Passes CX0 X E) (I : Inv X pins σ H s) (r : Vals vs us) (h : sp (vs ++ dvs) H Q E) : wpAny (model X.prog X.w) A (call (.ref f) us) (EP X pins σ Q) X.xe s := by
  have r2 : Vals (vs ++ dvs) (us ++ ds) := r.append hd
  have hl : (us ++ ds).length = ps.length := by rw [← r2.length]; exact F.len _ _ _ _ h
  have e0 : Env0 X.prog X.w X.K X.mg X.base A X.stack s H := by
    have e := I.env0
    exact ⟨by rw [hf]; exact e.frames, e.mod, e.bs, e.bsz, e.funs, e.frf, e.hok, e.bare⟩
  refine wpAny_call (codeAny_mono (F.run A X.stack s H ⟨us, []⟩ (us ++ ds) (vs ++ dvs) Q E hr e0 (hb s us I.kIn hl) r2 h) fun r s' hq => ?_)
  cases r with
  | error e => exact hx pins σ H s e s' I hq
  | ok fl =>
    cases fl with
    | ret u => exact I.after hq
    | next => exact False.elim hq
    | brk => exact False.elim hq
    | cont => exact False.elim hq
/-- a class with its own == and none of != -/
structure EqC (K : PySem.W.Frag) (C f : Addr) : Prop where
  at_ : PySem.W.findIn K (.ref C) "__eq__" = some (some (.ref f))
  ne : PySem.W.findIn K (.ref C) "__ne__" = some (some (.builtin "object.__ne__"))
  fn : PySem.W.isFn K (.ref f) = true
  ob : PySem.W.subIn K (.ref C) (.type "object") = some true
  st : PySem.W.subIn K (.ref C) (.type "str") = some false
def rNeO (C : Addr) (sp : Sp) (E : XK) : R2 := fun x y H Q => ∃ a b dx dy fs gs, x = .ref a ∧ y = .ref b ∧ H a = some (.ins C dx fs) ∧ H b = some (.ins C dy gs) ∧ sp [x, y] H (fun v H' => ∃ k, v = .bl k ∧ Q (.bl (!k)) H') E
theorem op_neO {X : Cx} {k : Nat} {C f : Addr} {fd : FuncData} {ps : List Str} {sp : Sp} {E : XK} (c : EqC X.K C f) (F : FnOk X.prog X.w X.K X.mg X.base CX0 k f fd ps sp) (hr : Room (k + 1) X.A) (hb : Binds X.K fd ps []) (hx : Passes CX0 X E) : OpR X (compareOp .NotEq) (rNeO C sp E) := by
  intro pins s σ H x y v u Q I rx ry h
  obtain ⟨a, b, dx, dy, fs, gs, rfl, rfl, ha, hb', q⟩ := h
  cases rx
  cases ry
  obtain ⟨mA, J, _⟩ := ins_get I.hok ha
  obtain ⟨mB, J', _⟩ := ins_get I.hok hb'
  obtain ⟨od, J, _⟩ := J.look
  obtain ⟨od', J', _⟩ := J'.look
  show wpAny (model X.prog X.w) X.A (richCompare .NotEq _ _) (EP X pins σ Q) X.xe s
  refine ne_own (tb := .ref C) hr.in1.units0 hr.units0 I.kIn J J'.type (by simp [PySem.W.notFirst]) c.at_ c.ne c.ob c.fn ?_
  refine wpAny_mono (run_at (vs := [.ref a, .ref b]) (us := [.ref a, .ref b]) F hr.in1 rfl hb .nil hx I (.cons rfl (.cons rfl .nil)) q) (fun r s' hq => ?_) fun _ _ x => x
  obtain ⟨v, H', I', rv, k, rfl, q'⟩ := hq
  cases rv
  exact ⟨_, rfl, ⟨.bl _, H', I', rfl, q'⟩⟩
def rStrO (C : Addr) (sp : Sp) (E : XK) : R2 := fun x y H Q => ∃ z b dy gs, x = .str z ∧ y = .ref b ∧ H b = some (.ins C dy gs) ∧ sp [y, x] H (fun v H' => ∃ k, v = .bl k ∧ Q (.bl k) H') E
theorem op_strO {X : Cx} {k : Nat} {C f : Addr} {fd : FuncData} {ps : List Str} {sp : Sp} {E : XK} (c : EqC X.K C f) (F : FnOk X.prog X.w X.K X.mg X.base CX0 k f fd ps sp) (hr : Room k X.A) (hb : Binds X.K fd ps []) (hx : Passes CX0 X E) : OpR X (compareOp .Eq) (rStrO C sp E) := by
  intro pins s σ H x y v u Q I rx ry h
  obtain ⟨z, b, dy, gs, rfl, rfl, hb', q⟩ := h
  obtain ⟨t, rfl⟩ := rx
  cases ry
  obtain ⟨mB, J', _⟩ := ins_get I.hok hb'
  obtain ⟨od', J', _⟩ := J'.look
  show wpAny (model X.prog X.w) X.A (richCompare .Eq _ _) (EP X pins σ Q) X.xe s
  refine eq_str_own hr.units0 I.kIn J' rfl c.st c.at_ c.fn ?_
  refine wpAny_mono (run_at (vs := [.ref b, .str z]) (us := [.ref b, .str z t]) F hr rfl hb .nil hx I (.cons rfl (.cons ⟨t, rfl⟩ .nil)) q) (fun r s' hq => ?_) fun _ _ x => x
  obtain ⟨v, H', I', rv, k, rfl, q'⟩ := hq
  cases rv
  exact ⟨.bl _, H', I', rfl, q'⟩
def blM (neg : Bool) (r : Option (M × En)) : Option D := r.bind fun r => match r.1 with
  | .p (.bl k) => some (.bl (if neg then !k else k))
  | _ => none
theorem blM_some {neg : Bool} {r : Option (M × En)} {d : D} (h : blM neg r = some d) : ∃ k c, r = some (.p (.bl k), c) ∧ d = .bl (if neg then !k else k) := by
  unfold blM at h
  obtain ⟨x, e, h⟩ := Option.bind_eq_some_iff.mp h
  obtain ⟨m, c⟩ := x
  dsimp only at h
  split at h
  · cases h; exact ⟨_, c, e, rfl⟩
  · cases h
def dNeO (ff : FF) (c : Nat) : D → D → Option D
  | .obj a fs, .obj b gs => if a = c ∧ b = c then blM true (ff [.p (.obj a fs), .p (.obj b gs)]) else none
  | _, _ => none
def dEqX (ff : FF) (c : Nat) : D → D → Option D
  | .str z, .obj b gs => if b = c then blM false (ff [.p (.obj b gs), .p (.str z)]) else none
  | x, y => dEq false x y
theorem ops_neO {K : PySem.W.Frag} {cl : Nat → Addr} {ff : FF} {c : Nat} : OpS ⟨cl, K⟩ (rNeO (cl c) (spF ⟨cl, K⟩ 2 ff) (fun _ _ _ => False)) (dNeO ff c) := by
  intro E T σ ms H x y dx dy d Q s e k
  unfold dNeO at e
  split at e
  · split at e
    · rename_i h
      obtain ⟨rfl, rfl⟩ := h
      obtain ⟨b, cc, e1, rfl⟩ := blM_some e
      obtain ⟨B, hB, rp, _⟩ := s.pure
      obtain ⟨ay, dy', vy, rfl, hoy, _⟩ := (rp y _ List.mem_cons_self).obj_of
      obtain ⟨ax, dx', vx, rfl, hox, _⟩ := (rp x _ (List.mem_cons_of_mem _ List.mem_cons_self)).obj_of
      refine ⟨ax, ay, dx', dy', vx, vy, rfl, rfl, hB _ _ hox, hB _ _ hoy, ?_⟩
      exact call_raw (vs := [V.ref ax, V.ref ay]) (dvs := []) (dd := []) (l := [_, _]) (n := 2) (ff := ff) (fun _ => .nil) rfl rfl s.swap e1 fun v H' s2 => by
        have s3 := s2.unders
        obtain rfl := s3.rep.bl_of
        exact ⟨b, rfl, k _ _ (s3.pop.scal fun _ => .bl _)⟩
    · cases e
  · cases e
theorem ops_eqX {K : PySem.W.Frag} {cl : Nat → Addr} {ff : FF} {c : Nat} : OpS ⟨cl, K⟩ (fun x y H Q => rEqA K x y H Q ∨ rStrO (cl c) (spF ⟨cl, K⟩ 2 ff) (fun _ _ _ => False) x y H Q) (dEqX ff c) := by
  intro E T σ ms H x y dx dy d Q s e k
  unfold dEqX at e
  split at e
  · split at e
    · rename_i h
      subst h
      obtain ⟨b, cc, e1, rfl⟩ := blM_some e
      obtain ⟨B, hB, rp, _⟩ := s.pure
      obtain ⟨ay, dy', vy, rfl, hoy, _⟩ := (rp y _ List.mem_cons_self).obj_of
      obtain rfl := (rp x _ (List.mem_cons_of_mem _ List.mem_cons_self)).str_of
      refine .inr ⟨_, ay, dy', vy, rfl, rfl, hB _ _ hoy, ?_⟩
      exact call_raw (vs := [V.ref ay, V.str _]) (dvs := []) (dd := []) (l := [_, _]) (n := 2) (ff := ff) (fun _ => .nil) rfl rfl s e1 fun v H' s2 => by
        have s3 := s2.unders
        obtain rfl := s3.rep.bl_of
        exact ⟨b, rfl, k _ _ (s3.pop.scal fun _ => .bl _)⟩
    · cases e
  · exact .inl (ops_eq E T σ ms H x y dx dy d Q s e k)
/-! ### isinstance of an own class -/
structure InC (K : PySem.W.Frag) (C : Addr) : Prop extends C8.InsC K C where
  no : ∀ t ∈ (["NoneType", "bool", "int", "str", "tuple", "list", "dict"] : List String), PySem.W.kitOne K (.type t) (.ref C) = some false
def isoD (c : Nat) : D → Option Bool
  | .obj c' _ => if c' = c then some true else none
  | d => (tyOf d).map fun _ => false
theorem isoD_some {c : Nat} {d : D} {b : Bool} (h : isoD c d = some b) : (∃ fs, d = .obj c fs ∧ b = true) ∨ ∃ t, tyOf d = some t ∧ b = false := by
  unfold isoD at h
  split at h
  · split at h
    · rename_i e; subst e; cases h; exact .inl ⟨_, rfl, rfl⟩
    · cases h
  · obtain ⟨t, e, h⟩ := Option.map_eq_some_iff.mp h
    exact .inr ⟨t, e, h.symm⟩
def xIsO (c : Nat) (f : EF) : EF := fun ms => (f ms).bind fun a => (isoD c (frz a.1)).bind fun b => some (.p (.bl b), a.2)
theorem tyOf_in {d : D} {t : String} (h : tyOf d = some t) : t ∈ (["NoneType", "bool", "int", "str", "tuple", "list", "dict"] : List String) := by
  cases d <;> simp [tyOf] at h <;> subst h <;> simp
def rIsO (K : PySem.W.Frag) (C : Addr) : List V → Hp → VK → Prop := fun xs H Q => (∃ a dx fs, xs = [.ref a, .ref C] ∧ H a = some (.ins C dx fs) ∧ Q (.bl true) H) ∨ ∃ x t, xs = [x, .ref C] ∧ TyX K H x (.type t) ∧ PySem.W.kitOne K (.type t) (.ref C) = some false ∧ Q (.bl false) H
theorem call_isO {X : Cx} {C : Addr} (c : C8.InsC X.K C) : CallR X (.builtin "isinstance") (rIsO X.K C) := by
  intro pins s σ H xs us Q I r h
  rcases h with h | ⟨x, t, rfl, ty, e, q⟩
  · exact C8.call_isC c pins s σ H xs us Q I r h
  · obtain ⟨u1, u2, rfl, r1, r2⟩ := vals2 r
    cases r2
    obtain ⟨P, Z, p, hx⟩ := kit_of I r1 ty
    exact PySem.W.kia_one Z I.kIn p e hx fun tk => ⟨.bl false, H, I.tok tk, rfl, q⟩
section
variable {X : Cx} {cl : Nat → Addr} {P : List Nat}
theorem xe_isO {c : Nat} {x : Str} {e : Expr} {p q pos : Pos} {f : EF} (ic : InC X.K (cl c)) (hm : X.mg "isinstance" = none) (hx : X.mg x = some (.ref (cl c))) (he : XE X cl P e f) (hg : Gl X "isinstance" := by rfl) (hgx : Gl X x := by rfl)
    (hb : bootBuiltins "isinstance" = some (.builtin "isinstance") := by decide +kernel) (hdb : (x == ("__debug__" : Str)) = false := by decide)
    (h1 : starEach [e, .Name x q] X.env = (false, eval e X.env) :: starEach [.Name x q] X.env := by rfl) (h2 : starEach [.Name x q] X.env = (false, eval (.Name x q) X.env) :: starEach [] X.env := by rfl)
    (hpl : (backTo pos (starEach [.Name x q] X.env)).any (·.1) = false := by rfl) : XE X cl P (.Call (.Name "isinstance" p) [e, .Name x q] [] pos) (xIsO c f) := fun E hE =>
  PE.weak (pe_callB (call_isO ic.toInsC) hg hm hb (pa_cons (he E hE) (pa_cons (pe_glob (v := .ref (cl c)) hgx hx rfl hdb) pa_nil h2) h1) (he := h1) (hpl := hpl)) fun σ H Q ⟨T, ms, m, ms', s, z, k⟩ => by
    unfold xIsO at z
    obtain ⟨a, e1, z⟩ := Option.bind_eq_some_iff.mp z
    obtain ⟨b, e2, z⟩ := Option.bind_eq_some_iff.mp z
    cases z
    refine ⟨T, ms, a.1, a.2, s, e1, fun v H1 s1 => ?_⟩
    have s2 := s1.frz
    rcases isoD_some e2 with ⟨fs, e3, rfl⟩ | ⟨t, e3, rfl⟩
    · rw [e3] at s2
      obtain ⟨B, hB, rp, _⟩ := s2.pure
      obtain ⟨ay, dy', vy, rfl, hoy, _⟩ := (rp v _ List.mem_cons_self).obj_of
      exact .inl ⟨ay, dy', vy, rfl, hB _ _ hoy, k _ _ (s2.pop.scal fun _ => .bl _)⟩
    · exact .inr ⟨v, t, rfl, s2.rep.tyX e3, ic.no t (tyOf_in e3), k _ _ (s2.pop.scal fun _ => .bl _)⟩
/-! ### str of an own instance -/
structure StC (K : PySem.W.Frag) (C f : Addr) : Prop where
  at_ : PySem.W.findIn K (.ref C) "__str__" = some (some (.ref f))
  fn : PySem.W.isFn K (.ref f) = true
def rStrC (C : Addr) (sp : Sp) (E : XK) : List V → Hp → VK → Prop := fun xs H Q => ∃ a dx fs, xs = [.ref a] ∧ H a = some (.ins C dx fs) ∧ sp [.ref a] H (fun v H' => ∃ z, v = .str z ∧ Q (.str z) H') E
theorem call_strC {k : Nat} {C f : Addr} {fd : FuncData} {ps : List Str} {sp : Sp} {E : XK} (c : StC X.K C f) (F : FnOk X.prog X.w X.K X.mg X.base CX0 k f fd ps sp) (hr : Room (k + 2) X.A) (hb : Binds X.K fd ps []) (hx : Passes CX0 X E) : CallR X (.type "str") (rStrC C sp E) := by
  intro pins s σ H xs us Q I r h
  obtain ⟨a, dx, fs, rfl, ha, q⟩ := h
  obtain ⟨u, rfl, ru⟩ := vals1 r
  obtain rfl : u = Value.ref a := ru
  obtain ⟨mA, J, _⟩ := ins_get I.hok ha
  obtain ⟨od, J, _⟩ := J.look
  refine PySem.W.kso_call hr.in1.in1.units0 I.kIn J c.at_ c.fn ?_
  refine wpAny_mono (run_at (vs := [.ref a]) (us := [.ref a]) F hr.in1.in1 rfl hb .nil hx I (.cons rfl .nil) q) (fun r s' hq => ?_) fun _ _ x => x
  obtain ⟨v, H', I', rv, z, rfl, q'⟩ := hq
  obtain ⟨t, rfl⟩ := rv
  exact ⟨.str z, H', I', ⟨t, rfl⟩, q'⟩
def dStrO (ff : FF) (c : Nat) : D → Option M
  | .obj a fs => if a = c then (ff [.p (.obj a fs)]).bind fun r => match r.1 with | .p (.str z) => some (.p (.str z)) | _ => none else none
  | _ => none
theorem cas_strO {K : PySem.W.Frag} {ff : FF} {c : Nat} : CaS ⟨cl, K⟩ (rStrC (cl c) (spF ⟨cl, K⟩ 1 ff) (fun _ _ _ => False)) (o1 (dStrO ff c)) := CaS.one fun E T σ ms H v d m Q s e k => by
  unfold dStrO at e
  split at e
  · split at e
    · rename_i h
      subst h
      obtain ⟨r, e1, e⟩ := Option.bind_eq_some_iff.mp e
      obtain ⟨rm, rc⟩ := r
      dsimp only at e
      split at e
      · rename_i z
        cases e
        obtain ⟨B, hB, rp, _⟩ := s.pure
        obtain ⟨ay, dy', vy, rfl, hoy, _⟩ := (rp v _ List.mem_cons_self).obj_of
        refine ⟨ay, dy', vy, rfl, hB _ _ hoy, ?_⟩
        exact call_raw (vs := [V.ref ay]) (dvs := []) (dd := []) (l := [_]) (n := 1) (ff := ff) (fun _ => .nil) rfl rfl s e1 fun v H' s2 => by
          have s3 := s2.unders
          obtain rfl := s3.rep.str_of
          exact ⟨_, rfl, k _ _ s3⟩
      · cases e
    · cases e
  · cases e
end
end Mh
/-! sets of several texts, sorted, written dicts, stars in displays, list + list -/
namespace MhSet
open PySem PySem.Spec PyProof.Rows
section
variable {prog : Program} {w : World} {A : Around} {R : Result → Shared → Prop} {I : Addr} {fp wr : List Addr} {G : Array GenState → Array GenState → Prop} {n : Nat} {P : Nat → Value → Prop} {St : Nat → Shared → Prop}
theorem loopN (W : WalksS prog w A.in1 I fp wr G n P St) (S : Addr) (hSf : S ∉ fp) (xs : List Str) (hsz : xs.length = n) (hnd : xs.Nodup) (hb : n + 1 < scanBound)
    (hval : ∀ i v, P i v → ∃ t, v = .str (xs.getD i Str.empty) t) :
    ∀ (k i : Nat) (s : Shared), n - i = k → i ≤ n → St i s →
      s.heap.SetOf (PySem.strKind prog w) S (fun k' => (xs.take i).any (· == k')) i →
      (∀ s', Moved (S :: wr) G s s' → s'.heap.SetOf (PySem.strKind prog w) S (fun k' => (xs.take n).any (· == k')) n → R (.ok (.ret .none)) s') →
      codeAny (model prog w) A (.builtin "set.update.loop" ⟨[.ref S, .ref I], []⟩) R s := by
  have hSw : S ∉ wr := fun h => hSf (W.sub _ h)
  have hsub : ∀ b ∈ wr, b ∈ S :: wr := fun b hb => List.mem_cons_of_mem _ hb
  intro k
  induction k with
  | zero =>
    intro i s hk hi hst hS hR
    have hin : i = n := by omega
    subst hin
    refine codeAny_builtin PyProof.Rows.F.entry_set_update_loop ?_
    rw [Around.under_plainId PyProof.Rows.F.plain_set_update_loop _]
    show wpAny _ A.in1 (pyNext (.ref I) >>= _) _ _ s
    refine wpAny_bind (W.done s _ _ hst fun s' hm => ?_)
    show wpAny _ A.in1 (ret Value.none) _ _ s'
    exact wpAny_pure (hR s' (hm.mono hsub) (by
      obtain ⟨o, es, ep, t, ho, rest⟩ := hS
      exact ⟨o, es, ep, t, hm.heap S _ hSw ho, rest⟩))
  | succ k ih =>
    intro i s hk hi hst hS hR
    have hlt : i < n := by omega
    have hlx : i < xs.length := by omega
    have hx : xs.getD i Str.empty = xs[i] := by rw [List.getD_eq_getElem?_getD, List.getElem?_eq_getElem hlx]; all_goals rfl
    refine codeAny_builtin PyProof.Rows.F.entry_set_update_loop ?_
    rw [Around.under_plainId PyProof.Rows.F.plain_set_update_loop _]
    show wpAny _ A.in1 (pyNext (.ref I) >>= _) _ _ s
    refine wpAny_bind (W.item i s _ _ hlt hst fun v s' hP hst' hm => ?_)
    obtain ⟨t, rfl⟩ := hval i v hP
    have hS' : s'.heap.SetOf (PySem.strKind prog w) S (fun k' => (xs.take i).any (· == k')) i := by
      obtain ⟨o, es, ep, tb, ho, rest⟩ := hS
      exact ⟨o, es, ep, tb, hm.heap S _ hSw ho, rest⟩
    show wpAny _ A.in1 (holding [Value.str (xs.getD i Str.empty) t] (setAdd S (.str (xs.getD i Str.empty) t)) >>= _) _ _ s'
    refine wpAny_bind (wpAny_holding ?_)
    unfold setAdd
    refine wpAny_holding ?_
    refine wpAny_bind ((PySem.strKind prog w).pyHash (k := xs.getD i Str.empty) (strKind_is _ _ _ _) ?_)
    refine wpAny_setAddHashed_of (knd := PySem.strKind prog w) (s := { s' with toks := s'.toks + 1 }) (strKind_is _ _ _ _) rfl hS' (by omega) fun h' hsb hS2 => ?_
    have hno : (xs.take i).any (· == xs[i]) = false := by
      rw [List.any_eq_false]
      intro y hy e
      have e' : y = xs[i] := by simpa using e
      obtain ⟨j, hj, q⟩ := List.getElem_of_mem hy
      rw [List.getElem_take] at q
      have hji : j < i := by simp at hj; omega
      exact (List.pairwise_iff_getElem.mp hnd) j i (by omega) hlx hji (q.trans e')
    have hSi : h'.SetOf (PySem.strKind prog w) S (fun k' => (xs.take (i + 1)).any (· == k')) (i + 1) := by
      refine SetOf_congr hS2 (fun k' => ?_) (by rw [hx, hno]; simp)
      rw [hx, List.take_succ, List.getElem?_eq_getElem hlx, List.any_append]
      congr 1
      simp only [Option.toList_some, List.any_cons, List.any_nil, Bool.or_false]
      by_cases e : k' = xs[i]
      · subst e; simp
      · have hb : (xs[i] == k') = false := by simpa [beq_iff_eq] using (fun h' : xs[i] = k' => e h'.symm)
        simp [hb, e]
    refine wpAny_pure ⟨plainId_quiet PyProof.Rows.F.plain_set_update_loop _, ih (i + 1) _ (by omega) hlt (W.frame _ s' _ _ hst' (Nat.le_succ _) fun b hb o e => ?_) hSi fun s'' hm'' hS'' => ?_⟩
    · rw [hsb.2 b (fun h : b = S => hSf (by rw [← h]; exact hb))]; exact e
    · refine hR s'' (Moved.trans W.gtrans ((hm.mono hsub).then_heap (Nat.le_succ _) fun b o hb e => ?_) hm'') hS''
      rw [hsb.2 b (fun h : b = S => hb (by rw [h]; exact List.mem_cons_self))]; exact e
end
section
variable {prog : Program} {w : World} {A : Around} {E : Value → Shared → Prop} {s : Shared}
theorem call_setN {l : Addr} {items : Array Value} {xs : List Str} {Q : Value → Shared → Prop}
    (hh : A.handled = none) (hl : s.heap.IsList l items) (hi : PyProof.Rows.StrsAre items.toList xs) (hnd : xs.Nodup) (hn1 : xs.length + 1 < scanBound)
    (h : ∀ (h' : Heap) (tk : Nat), h'.SetOf (PySem.strKind prog w) s.heap.objs.size (fun k' => (xs.take items.size).any (· == k')) items.size →
      (∀ b o, b < s.heap.objs.size → s.heap.get? b = some o → h'.get? b = some o) → Q (.ref s.heap.objs.size) { s with heap := h', toks := tk }) :
    wpAny (model prog w) A (call (.type "set") [.ref l]) Q E s := by
  obtain ⟨c, tl, hmro⟩ := PySem.F.called_set.mro
  have hmade := PySem.F.called_set.made
  have hsub := PySem.F.called_set.sub
  refine wpAny_call (codeAny_of_tree ?_)
  show wpAny _ _ (callAny (.type "set") _) _ _ _
  refine wpAny_pure ⟨Code.quiet_builtin _ (by decide +kernel), codeAny_builtin PySem.F.entry_type_call ?_⟩
  rw [Around.under_plain (weight_type_call_type "set" [.ref l] []) rfl]
  have h1 := PySem.F.called_set.notType
  have h2 := PySem.F.called_set.canCreate
  have hct := PySem.F.typeCall_set_1 (.ref l)
  repeat (any_goals (first | assumption | wp_step))
  refine codeAny_mono (code_set_new_1 (.ref l) (E := E) (Q₁ := fun obj s₁ => ∃ led : Bool, obj = .ref s.heap.objs.size ∧ s₁ = { s with heap := s.heap.push { cls := .type "set", dict := none, data := .set #[] 0 (.fresh 0 0 led) } }) fun led => ⟨led, rfl, rfl⟩) fun r s₁ hr => ?_
  cases r with
  | error e => exact hr
  | ok fl =>
    cases fl with
    | ret obj =>
      obtain ⟨led, rfl, rfl⟩ := hr
      have hS : (s.heap.push { cls := .type "set", dict := none, data := .set #[] 0 (.fresh 0 0 led) }).get? s.heap.objs.size = some { cls := .type "set", dict := none, data := .set #[] 0 (.fresh 0 0 led) } := Heap.get?_push_size _ rfl
      have hT : Shared.TypeIs { s with heap := s.heap.push { cls := .type "set", dict := none, data := .set #[] 0 (.fresh 0 0 led) } } (.ref s.heap.objs.size) "set" := ⟨_, hS, rfl⟩
      have hli := PySem.F.called_set.init.lookup
      have hbi := PySem.F.called_set.init.bind (.ref s.heap.objs.size)
      repeat (any_goals (first | assumption | wp_step))
      refine codeAny_mono (codeAny_call_builtin (R := wants (fun r s₂ => r = .none ∧ ∃ h' tk, s₂ = { s with heap := h', toks := tk } ∧
          h'.SetOf (PySem.strKind prog w) s.heap.objs.size (fun k' => (xs.take items.size).any (· == k')) items.size ∧
          (∀ b o, b < s.heap.objs.size → s.heap.get? b = some o → h'.get? b = some o)) E) PySem.F.called_set.init.plain PySem.F.entry_set_init (check_set_init_1 hT ?_)) fun r₂ s₂ hr₂ => ?_
      · obtain ⟨ol, hol, hcl, nl, hdl⟩ := hl
        obtain ⟨ocls, odict, odata, oslots⟩ := ol
        simp only at hcl hdl
        subst hcl; subst hdl
        have hol' : (s.heap.push { cls := .type "set", dict := none, data := .set #[] 0 (.fresh 0 0 led) }).get? l = some { cls := .type "list", dict := odict, data := .seq items nl, slots := oslots } := Heap.get?_push_of_some _ hol
        have hsls := PySem.F.sub_list_set
        have hslf := PySem.F.sub_list_frozenset
        have hne : (Value.type "list" == Value.type "dict") = false := by decide
        have hl1 : (s.heap.push { cls := .type "set", dict := none, data := .set #[] 0 (.fresh 0 0 led) }).IsList l items := ⟨_, hol', rfl, nl, rfl⟩
        unfold Builtin.«set.__init__» noKeywords Builtin.Frozenset.updateFrom
        generalize hPI : pyIter = PI
        wp_walk
        subst hPI
        refine wpAny_pyIter_list hl1 ?_
        refine wpAny_bind (wpAny_runValue ?_)
        have hlS : l < s.heap.objs.size := Heap.lt_size hol
        have hh3 : A.in1.in1.in1.handled = none := by simp [hh]
        have hneI : l ≠ (s.heap.push { cls := .type "set", dict := none, data := .set #[] 0 (.fresh 0 0 led) }).objs.size := by
          rw [Heap.size_push]; exact Nat.ne_of_lt (Nat.lt_succ_of_lt hlS)
        have hSf : s.heap.objs.size ∉ [(s.heap.push { cls := .type "set", dict := none, data := .set #[] 0 (.fresh 0 0 led) }).objs.size, l] := by
          rw [Heap.size_push]; simp only [List.mem_cons, List.mem_singleton, List.not_mem_nil, or_false, not_or]
          exact ⟨Nat.ne_of_lt (Nat.lt_succ_self _), Nat.ne_of_gt hlS⟩
        have hsz : xs.length = items.size := by rw [← StrsAre.len_eq hi, Array.length_toList]
        have hval : ∀ (i : Nat) (v : Value), items[i]? = some v → ∃ t, v = .str (xs.getD i Str.empty) t := fun i v hv => SS.strs_at hi i v (by rw [Array.getElem?_toList]; exact hv)
        refine loopN ((Walks.list hh3 _ l hneI items).toS) s.heap.objs.size
          hSf xs hsz hnd (by rw [← hsz]; exact hn1) hval (items.size - 0) 0 _ (by omega) (Nat.zero_le _)
          ⟨⟨_, Heap.get?_push_size _ rfl, rfl, rfl⟩, (hl1.push _)⟩ ?hS0 ?hR
        case hS0 =>
          have hget : ((s.heap.push { cls := .type "set", dict := none, data := .set #[] 0 (.fresh 0 0 led) }).push { cls := .type "list_iterator", data := .fields #[.ref l, .int 0 0] }).get? s.heap.objs.size
              = some { cls := .type "set", dict := none, data := .set #[] 0 (.fresh 0 0 led) } := Heap.get?_push_of_some _ hS
          exact PyProof.Rows.SetOf_congr ((PyProof.Rows.setObjOf_fresh (knd := PySem.strKind prog w) led).setOf hget (by unfold scanBound; omega)) (fun _ => rfl) rfl
        case hR =>
          intro s' hm hS'
          obtain ⟨h', g', d', tk', os'⟩ := s'
          have eg : g' = s.gens := hm.gens
          have ed : d' = s.drawn := hm.drawn
          have eo : os' = s.os := hm.os
          subst eg; subst ed; subst eo
          show wpAny _ _ _ _ _ _
          refine wpAny_pure ?_
          show wpAny _ _ (ret Value.none) _ _ _
          refine wpAny_pure ⟨rfl, h', tk', rfl, hS', fun b o hb e => ?_⟩
          have hb1 : b ≠ s.heap.objs.size := Nat.ne_of_lt hb
          have hb2 : b ≠ (s.heap.push { cls := .type "set", dict := none, data := .set #[] 0 (.fresh 0 0 led) }).objs.size := by
            rw [Heap.size_push]; exact Nat.ne_of_lt (Nat.lt_succ_of_lt hb)
          exact hm.heap b o (by simp only [List.mem_cons, List.mem_singleton, List.not_mem_nil, or_false, not_or]; exact ⟨hb1, hb2⟩) (Heap.get?_push_of_some _ (Heap.get?_push_of_some _ e))
      · cases r₂ with
        | error e => exact hr₂
        | ok fl₂ =>
          cases fl₂ with
          | ret r =>
            obtain ⟨rfl, h', tk, rfl, hS', hk'⟩ := hr₂
            repeat (any_goals (first | assumption | wp_step))
            exact h _ _ hS' hk'
          | _ => exact hr₂.elim
    | _ => exact hr.elim
end
end MhSet
namespace Mh
open PySem L2
def tLenSetN (K : PySem.W.Frag) (ta : TE) : TE := fun σ H Q => ta σ H fun x H1 => ∃ l, ∃ xs : List Str, x = .ref l ∧ SqL K H1 l (xs.map V.str) ∧ xs.Nodup ∧ xs.length ≤ 4000 ∧ Q (.int xs.length) H1
theorem pe_lenSetN {X : Cx} {a : Expr} {ta : TE} {p p2 q pos : Pos} (hc : X.calm = true) (hg : Gl X "len") (hm : X.mg "len" = none) (hg2 : Gl X "set") (hm2 : X.mg "set" = none) (ha : PE X a ta)
    (na : starEach [a] X.env = (false, eval a X.env) :: starEach [] X.env := by rfl) : PE X (.Call (.Name "len" p) [.Call (.Name "set" p2) [a] [] q] [] pos) (tLenSetN X.K ta) := by
  refine ⟨fun pins s σ H Q I h => ?_⟩
  refine PyProof.Rows.Call_ (ld_blt I hg hm boot_len ?_)
  refine PyProof.Rows.callWith_builtin1 (PyProof.Rows.args_cons ?_ rfl) rfl rfl
  refine PyProof.Rows.Call_ (ld_blt I hg2 hm2 PyProof.Rows.boot_set ?_)
  refine PyProof.Rows.callWith_type1 (PyProof.Rows.args_cons (thn (ha.run pins s σ H _ I h) fun v s1 ⟨x, H1, I1, r1, q1⟩ => PyProof.Rows.args_nil ?_) na) na rfl
  obtain ⟨l, xs, rfl, hq, hnd, h1, q1⟩ := q1
  cases r1
  obtain ⟨its, r, pl, hz⟩ := I1.list hq
  refine MhSet.call_setN (I1.ok.hd hc) pl.isList (by simpa using strsAre_of r) hnd (by unfold scanBound; omega) fun h' tk hS hk => ?_
  refine PyProof.Rows.args_nil ?_
  have hl : its.toArray.size = xs.length := by rw [List.size_toArray, ← r.length, List.length_map]
  rw [hl] at hS
  obtain ⟨o, es, ep, t, ho, hex, hd, _, _, _, hf, hn⟩ := hS
  have I2 : Inv X pins σ H1 { s1 with heap := h', toks := tk } := I1.kept fun b o e => hk b o (Heap.lt_size e) e
  exact call_len_set ho hex hd hf (by rw [hn] <;> omega) ⟨.int xs.length, H1, I2.tok _, ⟨_, by rw [hn]⟩, q1⟩
def xLenSet (f : EF) : EF := fun ms => (f ms).bind fun a => match frz a.1 with
  | .lst ds => (strsD ds).bind fun xs => if xs.Nodup ∧ xs.length ≤ 4000 then some (.p (.int xs.length), a.2) else none
  | _ => none
section
variable {X : Cx} {cl : Nat → Addr} {P : List Nat}
theorem xe_lenSet {a : Expr} {f : EF} {p p2 q pos : Pos} (hc : X.calm = true) (hm : X.mg "len" = none) (hm2 : X.mg "set" = none) (ha : XE X cl P a f) (hg : Gl X "len" := by rfl) (hg2 : Gl X "set" := by rfl)
    (na : starEach [a] X.env = (false, eval a X.env) :: starEach [] X.env := by rfl) : XE X cl P (.Call (.Name "len" p) [.Call (.Name "set" p2) [a] [] q] [] pos) (xLenSet f) := fun E hE =>
  PE.weak (pe_lenSetN hc hg hm hg2 hm2 (ha E hE) na) fun σ H Q ⟨T, ms, m, ms', s, z, k⟩ => by
    unfold xLenSet at z
    obtain ⟨a, e1, z⟩ := Option.bind_eq_some_iff.mp z
    refine ⟨T, ms, a.1, a.2, s, e1, fun v H1 s1 => ?_⟩
    have s2 := s1.frz
    generalize frz a.1 = fa at z s2
    cases fa with
    | lst ds =>
      obtain ⟨xs, e2, z⟩ := Option.bind_eq_some_iff.mp z
      split at z
      · rename_i h
        cases z
        have e3 := strsD_eq e2
        subst e3
        obtain ⟨l, vs, rfl, hs, rl⟩ := s2.rep.lst_of
        rw [rl.strs] at hs
        exact ⟨l, xs, rfl, hs, h.1, h.2, k _ _ (s2.pop.scal fun _ => .int _)⟩
      · cases z
    | _ => cases z
end
end Mh
namespace Mh
open PySem L2
/-! ### list + list -/
def rCatL (K : PySem.W.Frag) : R2 := fun x y H Q => ∃ l b xs zs, x = .ref l ∧ y = .ref b ∧ SqL K H l xs ∧ SqL K H b zs ∧ xs.length + zs.length ≤ sizeLine ∧ ∀ p, H p = none → Q (.ref p) (upd H p (.lst (xs ++ zs)))
open PyProof.Rows in
theorem op_catL {X : Cx} : OpR X (binaryOp .Add) (rCatL X.K) := by
  intro pins s σ H x y v u Q I rx ry h
  obtain ⟨l, b, xs, zs, rfl, rfl, hH, hB, hz, q⟩ := h
  cases rx
  cases ry
  obtain ⟨its, r, pl, _⟩ := I.list hH
  obtain ⟨its2, r2, pl2, _⟩ := I.list hB
  obtain ⟨⟨cls, dd, data, sl⟩, ho, hc, n, hd⟩ := pl.isList
  obtain ⟨⟨cls2, dd2, data2, sl2⟩, ho2, hc2, n2, hd2⟩ := pl2.isList
  simp only at hc hd hc2 hd2
  subst hc hd hc2 hd2
  have e : its.toArray ++ its2.toArray = (its ++ its2).toArray := by simp
  refine concat_meets ⟨_, ho, rfl⟩ ⟨_, ho2, rfl⟩ noFill_list_add seq_list_add PySem.F.slot_list_add PySem.F.entry_list_add (PySem.F.args_list_add_2 _ _) (list_addW l b its.toArray its2.toArray n n2 dd dd2 sl sl2 (by rw [List.size_toArray, List.size_toArray, ← r.length, ← r2.length]; exact hz)) ⟨ho, ho2, ?_⟩
  rw [e]
  exact ⟨.ref _, _, I.lnew (t' := s.toks) (r.append r2) (by rw [List.length_append]; exact hz), rfl, q _ I.fresh⟩
/-! ### sorted -/
def pdD (d : D) : PyData := (toPD d).getD .none
def leD (a b : D) : Bool := PySem.W.dataLe false pdD a b
def isPairS : D → Bool
  | .tup [.str _, .str _] => true
  | _ => false
def dSorted : D → Option M
  | .lst ds => if ds.all isStrD = true ∨ ds.all isPairS = true then some (.l (ds.mergeSort leD)) else none
  | _ => none

def okSort (ds : List D) : Prop := ds.all isStrD = true ∨ ds.all isPairS = true
theorem pair_of {d : D} (h : isPairS d = true) : ∃ x y, d = .tup [.str x, .str y] := by
  unfold isPairS at h
  split at h
  · exact ⟨_, _, rfl⟩
  · cases h
theorem str_of {d : D} (h : isStrD d = true) : ∃ x, d = .str x := by
  cases d with
  | str x => exact ⟨x, rfl⟩
  | _ => cases h
theorem pdD_str (x : Str) : pdD (.str x) = .str x := by simp [pdD, toPD]
theorem pdD_pair (x y : Str) : pdD (.tup [.str x, .str y]) = .tuple [.str x, .str y] := by simp [pdD, toPD, toPDs]
theorem okSort_pd {ds : List D} (h : okSort ds) : ∀ d ∈ ds, toPD d = some (pdD d) := by
  intro d hd
  rcases h with h | h
  · obtain ⟨x, rfl⟩ := str_of (List.all_eq_true.mp h d hd)
    simp [pdD, toPD]
  · obtain ⟨x, y, rfl⟩ := pair_of (List.all_eq_true.mp h d hd)
    simp [pdD, toPD, toPDs]
theorem okSort_alike {ds : List D} (h : okSort ds) : PySem.W.AllAlike (ds.map pdD) := by
  intro a ha b hb
  obtain ⟨d, hd, rfl⟩ := List.mem_map.mp ha
  obtain ⟨e, he, rfl⟩ := List.mem_map.mp hb
  rcases h with h | h
  · obtain ⟨x, rfl⟩ := str_of (List.all_eq_true.mp h d hd)
    obtain ⟨y, rfl⟩ := str_of (List.all_eq_true.mp h e he)
    rw [pdD_str, pdD_str]
    simp [PySem.W.alike]
  · obtain ⟨x, y, rfl⟩ := pair_of (List.all_eq_true.mp h d hd)
    obtain ⟨x', y', rfl⟩ := pair_of (List.all_eq_true.mp h e he)
    rw [pdD_pair, pdD_pair]
    simp [PySem.W.alike, PySem.W.alikeAll]
theorem okSort_sortable {ds : List D} (h : okSort ds) : PySem.W.Sortable (ds.map pdD) := by
  rcases h with h | h
  · refine .inr fun a ha => ?_
    obtain ⟨d, hd, rfl⟩ := List.mem_map.mp ha
    obtain ⟨x, rfl⟩ := str_of (List.all_eq_true.mp h d hd)
    rw [pdD_str]
    exact ⟨(fun z => nomatch z), fun xs z => nomatch z⟩
  · refine .inl fun a ha => ?_
    obtain ⟨d, hd, rfl⟩ := List.mem_map.mp ha
    obtain ⟨x, y, rfl⟩ := pair_of (List.all_eq_true.mp h d hd)
    rw [pdD_pair]
    exact ⟨_, _, rfl⟩
theorem okSort_depth {ds : List D} (h : okSort ds) : ∀ d ∈ ds, (pdD d).depth ≤ 2 := by
  intro d hd
  rcases h with h | h
  · obtain ⟨x, rfl⟩ := str_of (List.all_eq_true.mp h d hd)
    rw [pdD_str]
    simp [PyData.depth]
  · obtain ⟨x, y, rfl⟩ := pair_of (List.all_eq_true.mp h d hd)
    rw [pdD_pair]
    simp [PyData.depth, PyData.depthAll]
def rSortD (K : PySem.W.Frag) : List V → Hp → VK → Prop := fun xs H Q => ∃ a, ∃ bs : List (V × D), xs = [.ref a] ∧ SqL K H a (bs.map (·.1)) ∧ (∀ p ∈ bs, Dp K H p.1 (pdD p.2)) ∧ okSort (bs.map (·.2)) ∧
  ∀ p, H p = none → Q (.ref p) (upd H p (.lst ((bs.mergeSort fun a b => leD a.2 b.2).map (·.1))))
theorem each_vals {bs : List (V × D)} : ∀ {us : List Value}, Vals (bs.map (·.1)) us → PySem.W.EachIs (fun u (p : V × D) => RelV p.1 u) us bs := by
  induction bs with
  | nil => intro us h; cases h; exact .nil
  | cons b bs ih =>
    intro us h
    cases h with
    | cons r t => exact .cons r (ih t)
theorem vals_each {bs : List (V × D)} : ∀ {us : List Value}, PySem.W.EachIs (fun u (p : V × D) => RelV p.1 u) us bs → Vals (bs.map (·.1)) us := by
  induction bs with
  | nil => intro us h; cases h; exact .nil
  | cons b bs ih =>
    intro us h
    cases h with
    | cons r t => exact .cons r (ih t)
theorem each_reads {X : Cx} {pins : List (Addr × Obj)} {σ : L2.St} {H : Hp} {s : Shared} (I : Inv X pins σ H s) {bs : List (V × D)} : ∀ {us : List Value}, (∀ p ∈ bs, Dp X.K H p.1 (pdD p.2)) → Vals (bs.map (·.1)) us → PySem.W.EachIs (fun u (p : V × D) => ∃ as, Reads s.heap u (pdD p.2) as) us bs := by
  induction bs with
  | nil => intro us _ h; cases h; exact .nil
  | cons b bs ih =>
    intro us hd h
    cases h with
    | cons r t => exact .cons (Dp.reads I _ _ _ (hd b List.mem_cons_self) r) (ih (fun p hp => hd p (List.mem_cons_of_mem _ hp)) t)
theorem call_sortedD {X : Cx} (hu : X.A.units + 64 < cLine) : CallR X (.builtin "sorted") (rSortD X.K) := by
  intro pins s σ H xs us Q I r h
  obtain ⟨a, bs, rfl, hs, hd, ok, q⟩ := h
  obtain ⟨u, rfl, ru⟩ := vals1 r
  obtain rfl : u = Value.ref a := ru
  obtain ⟨its, rv, pl, hz⟩ := I.list hs
  have hl : bs.length ≤ sizeLine := by rw [← List.length_map (as := bs) (f := (·.1))]; exact hz
  have em : bs.map (fun p => pdD p.2) = (bs.map (·.2)).map pdD := by rw [List.map_map]; rfl
  refine PySem.W.sorted_data (vs := its) (enc := fun p : V × D => pdD p.2) (R := fun u (p : V × D) => RelV p.1 u) pl.isList (each_vals rv) (each_reads I hd rv) (by rw [em]; exact okSort_alike ok) (by rw [em]; exact okSort_sortable ok) hl
    (fun b hb => by have := okSort_depth ok b.2 (List.mem_map.mpr ⟨b, hb, rfl⟩); omega) fun out ho eo => ?_
  have e2 : bs.mergeSort (PySem.W.dataLe false fun p : V × D => pdD p.2) = bs.mergeSort fun a b => leD a.2 b.2 := rfl
  rw [e2] at eo
  obtain ⟨c, hc⟩ := PyProof.Rows.sortedAll_at s.heap its out.toArray
  have ho2 : ObjOk X.prog X.w (upd H (s.heap.objs.size + 1) (.lst ((bs.mergeSort fun a b => leD a.2 b.2).map (·.1)))) (PyProof.Rows.sortedAll s.heap its out.toArray) (s.heap.objs.size + 1) (.lst ((bs.mergeSort fun a b => leD a.2 b.2).map (·.1))) :=
    ⟨by rw [List.length_map, List.length_mergeSort]; exact hl, out, c, vals_each eo, hc⟩
  exact ⟨.ref _, _, I.laid (t' := s.toks) (fun b o e => PyProof.Rows.sortedAll_old e) (Nat.le_succ _) ho2, rfl, q _ (I.hok.fresh (Nat.le_succ _))⟩
theorem cas_sorted {Y : Tx} : CaS Y (rSortD Y.K) (o1 dSorted) := CaS.one fun E T σ ms H v d m Q s e k => by
  unfold dSorted at e
  split at e
  · rename_i ds
    split at e
    · rename_i ok
      cases e
      obtain ⟨B, hB, rp, _, _, kl, _⟩ := s.pure
      obtain ⟨a, vs, rfl, hs, rl⟩ := (rp v _ List.mem_cons_self).lst_of
      have hl := rl.len
      have e1 : (vs.zip ds).map (·.1) = vs := List.map_fst_zip (by omega)
      have e2 : (vs.zip ds).map (·.2) = ds := List.map_snd_zip (by omega)
      have rz : ∀ {vs : List V} {ds : List D}, RepL Y B vs ds → ∀ p ∈ vs.zip ds, Rep Y B p.1 p.2 := by
        intro vs ds r
        induction ds generalizing vs with
        | nil => cases r; intro p hp; simp at hp
        | cons d ds ih =>
          cases r with
          | cons h t =>
            intro p hp
            rw [List.zip_cons_cons] at hp
            rcases List.mem_cons.mp hp with e | e
            · subst e; exact h
            · exact ih t p e
      refine ⟨a, vs.zip ds, rfl, by rw [e1]; exact ex_l hB hs, fun p hp => ?_, by rw [e2]; exact ok, fun p hp => k _ _ ?_⟩
      · have hd2 : p.2 ∈ ds := by rw [← e2]; exact List.mem_map.mpr ⟨p, hp, rfl⟩
        exact ((rz rl p hp).mono hB.le).dp (okSort_pd ok p.2 hd2)
      · have es : ds.mergeSort leD = ((vs.zip ds).mergeSort fun a b => leD a.2 b.2).map (·.2) := by
          rw [List.map_mergeSort (s := leD) (fun a _ b _ => rfl), e2]
        rw [es]
        have perm := List.mergeSort_perm (vs.zip ds) (fun a b => leD a.2 b.2)
        have mk : ∀ L : List (V × D), (∀ p ∈ L, Rep Y B p.1 p.2) → RepL Y B (L.map (·.1)) (L.map (·.2)) := by
          intro L
          induction L with
          | nil => intro _; exact .nil
          | cons x L ih => intro h; exact .cons (h x List.mem_cons_self) (ih fun p hp => h p (List.mem_cons_of_mem _ hp))
        exact (kl p _ _ hp (mk _ fun p hp => rz rl p (perm.mem_iff.mp hp))).swap.pop
    · cases e
  · cases e
def dCat : D → D → Option M
  | .lst a, .lst b => if a.length + b.length ≤ sizeLine then some (.l (a ++ b)) else none
  | _, _ => none
/-- operators that give something of one's own -/
def f2M (op : D → D → Option M) (f g : EF) : EF := fun ms => (f ms).bind fun a => (g a.2).bind fun b => (op (frz a.1) (frz b.1)).bind fun m => some (m, b.2)
def isNotKey (neg : Bool) (b : Bool) : Bool := if neg then !b else b
def xKIn (neg : Bool) (tb : Str → Option Int) (f : EF) : EF := fun ms => (f ms).bind fun a => match frz a.1 with | .str z => some (.p (.bl (isNotKey neg (tb z).isSome)), a.2) | _ => none
def xKIx (tb : Str → Option Int) (f : EF) : EF := fun ms => (f ms).bind fun a => match frz a.1 with | .str z => (tb z).map fun i => (.p (.int i), a.2) | _ => none
/-- a written dict, text to int -/
structure KTb (K : PySem.W.Frag) (w : World) (d : Addr) (es : Array DictEntry) (n : Nat) (tb : Str → Option Int) : Prop where
  kd : KDict K w d es n
  at_ : ∀ z, ∃ r, PySem.W.nsIn K d z = some r ∧ r.isSome = (tb z).isSome ∧ ∀ i, tb z = some i → ∃ u, r = some u ∧ RelV (.int i) u
section
variable {X : Cx} {cl : Nat → Addr} {P : List Nat}
theorem xe_cat {a b : Expr} {pos : Pos} {f g : EF} (ha : XE X cl P a f) (hb : XE X cl P b g) : XE X cl P (.BinOp a .Add b pos) (f2M dCat f g) := fun E hE =>
  PE.weak (pe_op op_catL (ha E hE) (hb E hE)) fun σ H Q ⟨T, ms, m, ms', s, z, k⟩ => by
    unfold f2M at z
    obtain ⟨a, e1, z⟩ := Option.bind_eq_some_iff.mp z
    obtain ⟨b, e2, z⟩ := Option.bind_eq_some_iff.mp z
    obtain ⟨n, e3, z⟩ := Option.bind_eq_some_iff.mp z
    cases z
    refine ⟨T, ms, a.1, a.2, s, e1, fun x H1 s1 => ⟨(x, a.1) :: T, a.2, b.1, b.2, s1, e2, fun y H2 s2 => ?_⟩⟩
    have s3 := s2.frz2
    generalize frz a.1 = fa at e3 s3
    generalize frz b.1 = fb at e3 s3
    unfold dCat at e3
    split at e3
    · split at e3
      · rename_i hz
        cases e3
        obtain ⟨B, hB, rp, _, _, kl, _⟩ := s3.pure
        obtain ⟨a2, v2, rfl, h2, r2⟩ := (rp y _ List.mem_cons_self).lst_of
        obtain ⟨a1, v1, rfl, h1, r1⟩ := (rp x _ (List.mem_cons_of_mem _ List.mem_cons_self)).lst_of
        exact ⟨a1, a2, v1, v2, rfl, rfl, ex_l hB h1, ex_l hB h2, by rw [r1.len, r2.len]; exact hz, fun p hp => k _ _ (kl p _ _ hp (r1.app r2)).swap.pop.swap.pop⟩
      · cases e3
    · cases e3
theorem xt_knin {d : Addr} {es : Array DictEntry} {n : Nat} {tb : Str → Option Int} {a : Expr} {x : Str} {p pos : Pos} {f : EF} (D : KTb X.K X.w d es n tb) (hm : X.mg x = some (.ref d)) (ha : XE X cl P a f) (hg : Gl X x := by rfl) (hd : (x == ("__debug__" : Str)) = false := by decide)
    (h1 : behindInMarks .NotIn (.Name x p) = false := by first | exact nomark _ | rfl) : XT X cl P (.Compare a [.NotIn] [.Name x p] pos) (fB (xKIn true tb f)) := fun E hE =>
  PT.weak (pt_cmpR (op_notIn_kd D.kd) (ha E hE) (pe_glob (v := .ref d) hg hm rfl hd) h1) (fB_in fun σ H Q ⟨T, ms, m, ms', s, z, k⟩ => by
    unfold xKIn at z
    obtain ⟨a, e1, z⟩ := Option.bind_eq_some_iff.mp z
    refine ⟨T, ms, a.1, a.2, s, e1, fun v H1 s1 => ?_⟩
    have s2 := s1.frz
    generalize frz a.1 = fa at z s2
    cases fa with
    | str y =>
      cases z
      obtain rfl := s2.rep.str_of
      obtain ⟨r, h3, h4, _⟩ := D.at_ y
      refine ⟨y, r, rfl, rfl, h3, ?_⟩
      rw [h4]
      exact k _ _ (s2.pop.scal fun _ => .bl _)
    | _ => cases z)
theorem xe_kix {d : Addr} {es : Array DictEntry} {n : Nat} {tb : Str → Option Int} {b : Expr} {x : Str} {p pos : Pos} {f : EF} (D : KTb X.K X.w d es n tb) (hm : X.mg x = some (.ref d)) (hb : XE X cl P b f) (hg : Gl X x := by rfl) (hd : (x == ("__debug__" : Str)) = false := by decide)
    (hs : PlainIx b := by exact fun _ _ => rfl) : XE X cl P (.Subscript (.Name x p) b pos) (xKIx tb f) := fun E hE =>
  PE.weak (pe_ix ix_kdict (pe_glob (v := .ref d) hg hm rfl hd) (hb E hE) hs) fun σ H Q ⟨T, ms, m, ms', s, z, k⟩ => by
    unfold xKIx at z
    obtain ⟨a, e1, z⟩ := Option.bind_eq_some_iff.mp z
    refine ⟨T, ms, a.1, a.2, s, e1, fun v H1 s1 => ?_⟩
    have s2 := s1.frz
    generalize frz a.1 = fa at z s2
    cases fa with
    | str y =>
      obtain ⟨i, e2, z⟩ := Option.map_eq_some_iff.mp z
      cases z
      obtain rfl := s2.rep.str_of
      obtain ⟨r, h3, _, h5⟩ := D.at_ y
      obtain ⟨u, rfl, ru⟩ := h5 i e2
      exact ⟨d, y, .int i, rfl, rfl, ⟨es, n, u, D.kd.at_, D.kd.lit, h3, ru⟩, k _ _ (s2.pop.scal fun _ => .int _)⟩
    | _ => cases z
/-! ### a star in a display -/
def aSt (f : EF) (g : AF) : AF := fun ms => (f ms).bind fun a => (seqD (frz a.1)).bind fun ds => (g a.2).bind fun b => some (ds.map .p ++ b.1, b.2)
theorem tmps_app : ∀ {xs ys : List V} {l r : List M} {T : List (V × M)}, xs.length = l.length → tmps (xs ++ ys) (l ++ r) T = tmps ys r (tmps xs l T)
  | [], _, [], _, _, _ => rfl
  | [], _, _ :: _, _, _, h => by cases h
  | _ :: _, _, [], _, _, h => by cases h
  | x :: xs, ys, m :: l, r, T, h => tmps_app (T := (x, m) :: T) (by simpa using h)
theorem xa_star {e : Expr} {es : List Expr} {p : Pos} {f : EF} {g : AF} (ha : XE X cl P e f) (hr : XA X cl P es g) (hs : starEach (.Starred e p :: es) X.env = (true, eval e X.env) :: starEach es X.env := by rfl) : XA X cl P (.Starred e p :: es) (aSt f g) := fun E hE =>
  PA.weak (StX.pa_star (ha E hE) (hr E hE) hs) fun σ H Q ⟨T, ms, m, ms', s, e, k⟩ => by
    unfold aSt at e
    obtain ⟨a, e1, e⟩ := Option.bind_eq_some_iff.mp e
    obtain ⟨ds, e2, e⟩ := Option.bind_eq_some_iff.mp e
    obtain ⟨b, e3, e⟩ := Option.bind_eq_some_iff.mp e
    cases e
    refine ⟨T, ms, a.1, a.2, s, e1, fun x H1 s1 => ?_⟩
    obtain ⟨q, xs, rfl, hsq, hl, s2⟩ := seqD_in s1.frz e2
    refine ⟨q, xs, rfl, hsq, tmps xs (ds.map .p) T, a.2, b.1, b.2, s2.of (s2.rel.perm ((tmps_perm xs (ds.map .p) T).symm.append_right _)), e3, fun ys H2 hl2 s3 => k (xs ++ ys) H2 (by simp [hl, hl2]) ?_⟩
    rw [tmps_app (by simp [hl])]
    exact s3
end
end Mh
namespace Mh
open PySem L2
/-! ### operators by what stands there -/
def dAddA : D → D → Option M
  | .int i, .int j => some (.p (.int (i + j)))
  | .str i, .str j => if i.length + j.length ≤ sizeLine then some (.p (.str (i ++ j))) else none
  | .lst a, .lst b => if a.length + b.length ≤ sizeLine then some (.l (a ++ b)) else none
  | .tup a, .tup b => if a.length + b.length ≤ sizeLine then some (.p (.tup (a ++ b))) else none
  | _, _ => none
def dInA (neg : Bool) : D → D → Option D
  | .str i, .str j => some (.bl (if neg then !inS i j else inS i j))
  | x, y => dIn neg x y
section
variable {X : Cx} {cl : Nat → Addr} {P : List Nat}
theorem ops_inA {Y : Tx} : OpS Y (fun x y H Q => rInS2 x y H Q ∨ rIn Y.K false x y H Q) (dInA false) := by
  intro E T σ ms H x y dx dy d Q s e k
  unfold dInA at e
  split at e
  · exact .inl (ops_inS E T σ ms H x y _ _ d Q s (by unfold dInS; exact e) k)
  · exact .inr (ops_in E T σ ms H x y _ _ d Q s e k)
theorem ops_notInA {Y : Tx} : OpS Y (fun x y H Q => rNotInS2 x y H Q ∨ rIn Y.K true x y H Q) (dInA true) := by
  intro E T σ ms H x y dx dy d Q s e k
  unfold dInA at e
  split at e
  · exact .inl (ops_notInS E T σ ms H x y _ _ d Q s (by unfold dInS; exact e) k)
  · exact .inr (ops_in E T σ ms H x y _ _ d Q s e k)
theorem xe_addA {a b : Expr} {pos : Pos} {f g : EF} (ha : XE X cl P a f) (hb : XE X cl P b g) : XE X cl P (.BinOp a .Add b pos) (f2M dAddA f g) := fun E hE =>
  PE.weak (pe_op (((op_add.or op_add_str).or op_catL).or op_catA) (ha E hE) (hb E hE)) fun σ H Q ⟨T, ms, m, ms', s, z, k⟩ => by
    unfold f2M at z
    obtain ⟨a, e1, z⟩ := Option.bind_eq_some_iff.mp z
    obtain ⟨b, e2, z⟩ := Option.bind_eq_some_iff.mp z
    obtain ⟨n, e3, z⟩ := Option.bind_eq_some_iff.mp z
    cases z
    refine ⟨T, ms, a.1, a.2, s, e1, fun x H1 s1 => ⟨(x, a.1) :: T, a.2, b.1, b.2, s1, e2, fun y H2 s2 => ?_⟩⟩
    have s3 := s2.frz2
    generalize frz a.1 = fa at e3 s3
    generalize frz b.1 = fb at e3 s3
    unfold dAddA at e3
    split at e3
    · cases e3
      obtain rfl := s3.rep.int_of
      obtain rfl := s3.pop.rep.int_of
      exact .inl (.inl (.inl ⟨_, _, rfl, rfl, k _ _ (s3.pop.pop.scal fun _ => .int _)⟩))
    · split at e3
      · rename_i hz
        cases e3
        obtain rfl := s3.rep.str_of
        obtain rfl := s3.pop.rep.str_of
        exact .inl (.inl (.inr ⟨_, _, rfl, rfl, hz, k _ _ (s3.pop.pop.scal fun _ => .str _)⟩))
      · cases e3
    · split at e3
      · rename_i hz
        cases e3
        obtain ⟨B, hB, rp, _, _, kl, _⟩ := s3.pure
        obtain ⟨a2, v2, rfl, h2, r2⟩ := (rp y _ List.mem_cons_self).lst_of
        obtain ⟨a1, v1, rfl, h1, r1⟩ := (rp x _ (List.mem_cons_of_mem _ List.mem_cons_self)).lst_of
        exact .inl (.inr ⟨a1, a2, v1, v2, rfl, rfl, ex_l hB h1, ex_l hB h2, by rw [r1.len, r2.len]; exact hz, fun p hp => k _ _ (kl p _ _ hp (r1.app r2)).swap.pop.swap.pop⟩)
      · cases e3
    · split at e3
      · rename_i hz
        cases e3
        obtain ⟨B, hB, rp, kp, kt, _⟩ := s3.pure
        obtain ⟨a2, v2, rfl, h2, r2⟩ := (rp y _ List.mem_cons_self).tup_of
        obtain ⟨a1, v1, rfl, h1, r1⟩ := (rp x _ (List.mem_cons_of_mem _ List.mem_cons_self)).tup_of
        refine .inr ⟨a1, a2, v1, v2, rfl, rfl, ex_t hB h1, ex_t hB h2, by rw [r1.len, r2.len]; exact hz, fun e => ?_, fun _ e => ?_, fun _ _ p hp => k _ _ (kt p _ _ hp (r1.app r2)).swap.pop.swap.pop⟩
        · subst e
          cases r1
          exact k _ _ (by rw [List.nil_append]; exact s3.swap.pop)
        · subst e
          cases r2
          exact k _ _ (by rw [List.append_nil]; exact s3.pop)
      · cases e3
    · cases e3
/-- - x -/
def xNeg (f : EF) : EF := fun ms => (f ms).bind fun a => match frz a.1 with | .int i => some (.p (.int (-i)), a.2) | _ => none
theorem xe_neg {a : Expr} {pos : Pos} {f : EF} (ha : XE X cl P a f) : XE X cl P (.UnaryOp .USub a pos) (xNeg f) := fun E hE =>
  PE.weak (pe_un un_neg (ha E hE)) fun σ H Q ⟨T, ms, m, ms', s, z, k⟩ => by
    unfold xNeg at z
    obtain ⟨a, e1, z⟩ := Option.bind_eq_some_iff.mp z
    refine ⟨T, ms, a.1, a.2, s, e1, fun v H1 s1 => ?_⟩
    have s2 := s1.frz
    generalize frz a.1 = fa at z s2
    cases fa with
    | int i => cases z; exact ⟨i, s2.rep.int_of, k _ _ (s2.pop.scal fun _ => .int _)⟩
    | _ => cases z
/-- data of the module -/
def GD (cl : Nat → Addr) (K : PySem.W.Frag) (mg : Str → Option Value) (x : Str) (d : D) : Prop := ∃ v u, mg x = some u ∧ RelV v u ∧ ∀ B, Rep ⟨cl, K⟩ B v d
theorem xe_gd {x : Str} {d : D} {pos : Pos} (h : GD cl X.K X.mg x d) (hg : Gl X x := by rfl) (hd : (x == ("__debug__" : Str)) = false := by decide) : XE X cl P (.Name x pos) (xC d) := by
  obtain ⟨v, u, hm, r, rp⟩ := h
  exact xe_glob hm r rp hg hd
end
theorem vals_ext : ∀ {xs : List V} {us : List Value}, xs.length = us.length → (∀ (j : Nat) v x, us[j]? = some v → xs[j]? = some x → RelV x v) → Vals xs us
  | [], [], _, _ => .nil
  | [], _ :: _, h, _ => by cases h
  | _ :: _, [], h, _ => by cases h
  | x :: xs, u :: us, h, k => .cons (k 0 u x rfl rfl) (vals_ext (by simpa using h) fun j v y h1 h2 => k (j + 1) v y (by simpa using h1) (by simpa using h2))
/-! ### list(text) -/
def dListA : D → Option M
  | .str x => if x.length ≤ sizeLine then some (.l (chars x)) else none
  | d => dList d
def rListS : List V → Hp → VK → Prop := fun xs H Q => ∃ x : Str, xs = [.str x] ∧ x.length ≤ sizeLine ∧ ∀ l, H l = none → Q (.ref l) (upd H l (.lst (x.cps.toList.map fun c => V.str ⟨#[c]⟩)))
theorem call_listS {X : Cx} (hc : X.calm = true) : CallR X (.type "list") rListS := by
  intro pins s σ H xs us Q I r h
  obtain ⟨x, rfl, hz, q⟩ := h
  obtain ⟨u, rfl, t, rfl⟩ := vals1 r
  refine call_list_str (I.ok.hd hc) x t (hn := hz) fun h' tk acc' c' hk hS' hacc => ?_
  have hv : Vals (x.cps.toList.map fun c => V.str ⟨#[c]⟩) acc'.toList := by
    refine vals_ext (by simpa using hacc.1.symm) fun j v y hj hy => ?_
    obtain ⟨c, u, h1, rfl⟩ := hacc.2 j v (by simpa using hj)
    rw [List.getElem?_map, Array.getElem?_toList, h1] at hy
    cases hy
    exact ⟨u, rfl⟩
  refine ⟨.ref _, _, I.laid (t' := tk) hk (Nat.le_refl _) (show ObjOk X.prog X.w _ h' _ (.lst _) from ⟨?_, acc'.toList, c', hv, by simpa using hS'⟩), rfl, q _ (I.hok.fresh (Nat.le_refl _))⟩
  simpa using (show x.cps.size ≤ sizeLine from hz)

theorem chars_rep {Y : Tx} {B : Hp} (x : Str) : RepL Y B (x.cps.toList.map fun c => V.str ⟨#[c]⟩) (chars x) := by
  unfold chars
  generalize x.cps.toList = cs
  induction cs with
  | nil => exact .nil
  | cons c cs ih => exact .cons (.str _) ih
def rListA (K : PySem.W.Frag) : List V → Hp → VK → Prop := fun xs H Q => rListS xs H Q ∨ rList2 K xs H Q
theorem cas_listA {Y : Tx} : CaS Y (rListA Y.K) (o1 dListA) := CaS.one fun E T σ ms H v d m Q s e k => by
  unfold dListA at e
  split at e
  · split at e
    · rename_i hz
      cases e
      obtain rfl := s.rep.str_of
      refine .inl ⟨_, rfl, hz, fun l hl => ?_⟩
      obtain ⟨B, hB, rp, _, _, kl, _⟩ := s.pop.pure
      exact k _ _ (kl l _ _ hl (chars_rep _))
    · cases e
  · exact .inr (cas_list E T σ ms H [v] [d] m Q rfl s e k)
/-! ### the program's own defs, as facts -/
section
variable {Pg : Program} {w : World} {K : PySem.W.Frag} {mg : Str → Option Value} {base : Heap} {cl : Nat → Addr}
structure Cal (Pg : Program) (w : World) (K : PySem.W.Frag) (mg : Str → Option Value) (base : Heap) (cl : Nat → Addr) (x : Str) (k n : Nat) (ff : FF) : Prop where
  ex : ∃ f fd ps, mg x = some (.ref f) ∧ PySem.W.keepIn K (.ref f) = true ∧ FnOk Pg w K mg base CX0 k f fd ps (spF ⟨cl, K⟩ n ff) ∧ Binds K fd ps []
/-- a method m of the class at cl c -/
structure CalM (Pg : Program) (w : World) (K : PySem.W.Frag) (mg : Str → Option Value) (base : Heap) (cl : Nat → Addr) (c : Nat) (m : Str) (k n : Nat) (ff : FF) : Prop where
  cls : Cls K (cl c)
  ex : ∃ f fd ps, Meth K (cl c) m f ∧ FnOk Pg w K mg base CX0 k f fd ps (spF ⟨cl, K⟩ n ff) ∧ Binds K fd ps []
/-- the class at cl c, under the name x, is made -/
structure CalC (Pg : Program) (w : World) (K : PySem.W.Frag) (mg : Str → Option Value) (base : Heap) (cl : Nat → Addr) (c : Nat) (x : Str) (k n : Nat) (ff : FF) : Prop where
  ex : ∃ f fd ps, mg x = some (.ref (cl c)) ∧ Mk K (cl c) f ∧ FnOk Pg w K mg base CX0 k f fd ps (spF ⟨cl, K⟩ n ff) ∧ Binds K fd ps []
/-- a classmethod -/
structure CalK (Pg : Program) (w : World) (K : PySem.W.Frag) (mg : Str → Option Value) (base : Heap) (cl : Nat → Addr) (c : Nat) (x m : Str) (k n : Nat) (ff : FF) : Prop where
  ex : ∃ f fd ps mc pa, mg x = some (.ref (cl c)) ∧ ClX.CRead K (cl c) mc ∧ ClX.CMet K (cl c) mc m pa f ∧ FnOk Pg w K mg base CX0 k f fd ps (spF ⟨cl, K⟩ n ff) ∧ Binds K fd ps []
/-- its own == -/
structure CalE (Pg : Program) (w : World) (K : PySem.W.Frag) (mg : Str → Option Value) (base : Heap) (cl : Nat → Addr) (c k : Nat) (ff : FF) : Prop where
  ex : ∃ f fd ps, EqC K (cl c) f ∧ FnOk Pg w K mg base CX0 k f fd ps (spF ⟨cl, K⟩ 2 ff) ∧ Binds K fd ps []
/-- its own str -/
structure CalS (Pg : Program) (w : World) (K : PySem.W.Frag) (mg : Str → Option Value) (base : Heap) (cl : Nat → Addr) (c k : Nat) (ff : FF) : Prop where
  ex : ∃ f fd ps, StC K (cl c) f ∧ FnOk Pg w K mg base CX0 k f fd ps (spF ⟨cl, K⟩ 1 ff) ∧ Binds K fd ps []
end
section
variable {X : Cx} {cl : Nat → Addr} {P : List Nat}
theorem xe_cal {k n : Nat} {ff : FF} {x : Str} {p pos : Pos} {e : Expr} {es : List Expr} {a : AF} {bs : List (Option Nat)} (c : Cal X.prog X.w X.K X.mg X.base cl x k n ff) (hr : Room k X.A) (hn : bs.length = n)
    (ha : XAb X cl P (e :: es) bs a) (hg : Gl X x := by rfl) (hdb : (x == ("__debug__" : Str)) = false := by decide) (he : starEach (e :: es) X.env = (false, eval e X.env) :: starEach es X.env := by rfl) (hpl : (backTo pos (starEach es X.env)).any (·.1) = false := by rfl) :
    XE X cl P (.Call (.Name x p) (e :: es) [] pos) (xFn ff [] bs a) := by
  obtain ⟨f, fd, ps, hm, hk, F, hb⟩ := c.ex
  exact xe_call (dvs := []) F hr hm hk hb .nil (fun _ => .nil) hn ha hg hdb he hpl
theorem xe_calM {k n c : Nat} {ff : FF} {o e : Expr} {es : List Expr} {m : Str} {apos pos : Pos} {fo : EF} {a : AF} {bs : List (Option Nat)} {pl : Sem Bool} (cm : CalM X.prog X.w X.K X.mg X.base cl c m k n ff) (hr : Room k X.A) (hn : bs.length + 1 = n)
    (ho : XE X cl P o fo) (ha : XAb X cl P (e :: es) bs a) (hst : starEach (e :: es) X.env = (false, eval e X.env) :: starEach es X.env := by rfl) (hpl : (backTo pos (starEach es X.env)).any (·.1) = false := by rfl)
    (ht : eval (.Call (.Attribute o m apos) (e :: es) [] pos) X.env = (do
      let ov ← eval o X.env
      standAt apos.atName
      let (f, first) ← holding [ov] (getMethod ov m pl)
      callWith pos f first (backTo pos (starEach (e :: es) X.env)) (backToKw pos (keywordEach [] X.env))) := by rfl) :
    XE X cl P (.Call (.Attribute o m apos) (e :: es) [] pos) (xMth ff [] bs c m fo a) := by
  obtain ⟨f, fd, ps, hm, F, hb⟩ := cm.ex
  exact xe_mth (dvs := []) F hr cm.cls hm hb .nil (fun _ => .nil) (by simpa using hn) ho ha hst hpl ht
theorem xe_calC {k n c j : Nat} {ff : FF} {x : Str} {e : Expr} {es : List Expr} {p pos : Pos} {a : AF} (cc : CalC X.prog X.w X.K X.mg X.base cl c x k n ff) (hr : Room (k + 1) X.A) (hj : (e :: es).length = j) (hn : j + 1 = n)
    (hlen : ∀ ms l ms', a ms = some (l, ms') → l.length = j) (ha : XA X cl P (e :: es) a) (hg : Gl X x := by rfl) (hdb : (x == ("__debug__" : Str)) = false := by decide) (he : starEach (e :: es) X.env = (false, eval e X.env) :: starEach es X.env := by rfl) (hpl : (backTo pos (starEach es X.env)).any (·.1) = false := by rfl) :
    XE X cl P (.Call (.Name x p) (e :: es) [] pos) (xMk ff [] c a) := by
  obtain ⟨f, fd, ps, hm, M, F, hb⟩ := cc.ex
  exact xe_mk (dvs := []) F M hr hm hb .nil (fun _ => .nil) hj (by simpa using hn) hlen ha hg hdb he hpl
theorem xe_calS1 {k n c j : Nat} {ff : FF} {x : Str} {e : Expr} {p q pos : Pos} {g : EF} (cc : CalC X.prog X.w X.K X.mg X.base cl c x k n ff) (hr : Room (k + 1) X.A) (hn : j + 1 = n)
    (he : XE X cl P e g) (hg : Gl X x := by rfl) (hdb : (x == ("__debug__" : Str)) = false := by decide) (hst : starEach [.Starred e q] X.env = [(true, eval e X.env)] := by rfl) :
    XE X cl P (.Call (.Name x p) [.Starred e q] [] pos) (xMkS ff [] c (cntD j g)) := by
  obtain ⟨f, fd, ps, hm, M, F, hb⟩ := cc.ex
  exact xe_mkS (dvs := []) F M hr hm hb .nil (fun _ => .nil) (by simpa using hn) he hg hdb hst
theorem xe_calV1 {k n c j : Nat} (i : Nat) {ff : FF} {x y : Str} {e : Expr} {p q pos : Pos} {g : EF} (cc : CalC X.prog X.w X.K X.mg X.base cl c y k n ff) (hr : Room (k + 1) X.A) (hn : j + 1 = n)
    (he : XE X cl P e g) (hN : X.N[i]? = some x := by rfl) (hv : Vis X.env.scope x := by first | exact Or.inl rfl | exact Or.inr (Or.inl rfl) | exact Or.inr (Or.inr rfl))
    (hdb : (x == ("__debug__" : Str)) = false := by decide) (hcd : (x == ("__classdict__" : Str)) = false := by decide) (hst : starEach [.Starred e q] X.env = [(true, eval e X.env)] := by rfl) :
    XE X cl P (.Call (.Name x p) [.Starred e q] [] pos) (xMkC ff [] c i (cntD j g)) := by
  obtain ⟨f, fd, ps, hm, M, F, hb⟩ := cc.ex
  exact xe_mkC (dvs := []) F M hr hb .nil (fun _ => .nil) (by simpa using hn) he hN hv hdb hcd hst
theorem xe_calK {k n c j : Nat} {ff : FF} {x m : Str} {e : Expr} {es : List Expr} {q apos pos : Pos} {a : AF} {pl : Sem Bool} (cc : CalK X.prog X.w X.K X.mg X.base cl c x m k n ff) (hr : Room k X.A) (hj : (e :: es).length = j) (hn : j + 1 = n)
    (hlen : ∀ ms l ms', a ms = some (l, ms') → l.length = j) (ha : XA X cl P (e :: es) a) (hg : Gl X x := by rfl) (hdb : (x == ("__debug__" : Str)) = false := by decide)
    (hst : starEach (e :: es) X.env = (false, eval e X.env) :: starEach es X.env := by rfl) (hpl : (backTo pos (starEach es X.env)).any (·.1) = false := by rfl)
    (ht : eval (.Call (.Attribute (.Name x q) m apos) (e :: es) [] pos) X.env = (do
      let ov ← eval (.Name x q) X.env
      standAt apos.atName
      let (f, first) ← holding [ov] (getMethod ov m pl)
      callWith pos f first (backTo pos (starEach (e :: es) X.env)) (backToKw pos (keywordEach [] X.env))) := by rfl) :
    XE X cl P (.Call (.Attribute (.Name x q) m apos) (e :: es) [] pos) (xCm ff [] c a) := by
  obtain ⟨f, fd, ps, mc, pa, hm, cr, cm, F, hb⟩ := cc.ex
  exact xe_cm (dvs := []) F hr hm cr cm hb .nil (fun _ => .nil) hj (by simpa using hn) hlen ha hg hdb hst hpl ht
/-- str(o), o an instance of one's own -/
theorem xe_calStr {k c : Nat} {ff : FF} {p pos : Pos} {e : Expr} {f : EF} (cc : CalS X.prog X.w X.K X.mg X.base cl c k ff) (hr : Room (k + 2) X.A) (hm : X.mg "str" = none) (he : XE X cl P e f) (hg : Gl X "str" := by rfl)
    (hs : starEach [e] X.env = [(false, eval e X.env)] := by rfl) : XE X cl P (.Call (.Name "str" p) [e] [] pos) (xCall (o1 (dStrO ff c)) (aC f aN)) := by
  obtain ⟨g, fd, ps, st, F, hb⟩ := cc.ex
  exact xe_callTy (r := rStrC (cl c) (spF ⟨cl, X.K⟩ 1 ff) fun _ _ _ => False) (call_strC st F hr hb pass0) cas_strO hm (xa_cons he xa_nil hs) hg (he := hs)
theorem op_neC {k c : Nat} {ff : FF} (cc : CalE X.prog X.w X.K X.mg X.base cl c k ff) (hr : Room (k + 1) X.A) : OpR X (compareOp .NotEq) (rNeO (cl c) (spF ⟨cl, X.K⟩ 2 ff) fun _ _ _ => False) := by
  obtain ⟨g, fd, ps, ec, F, hb⟩ := cc.ex
  exact op_neO ec F hr hb pass0
theorem op_eqC {k c : Nat} {ff : FF} (cc : CalE X.prog X.w X.K X.mg X.base cl c k ff) (hr : Room k X.A) : OpR X (compareOp .Eq) (fun x y H Q => rEqA X.K x y H Q ∨ rStrO (cl c) (spF ⟨cl, X.K⟩ 2 ff) (fun _ _ _ => False) x y H Q) := by
  obtain ⟨g, fd, ps, ec, F, hb⟩ := cc.ex
  exact (op_eqA hr.units).or (op_strO ec F hr hb pass0)
theorem xe_listA {p pos : Pos} {e : Expr} {f : EF} (hc : X.calm = true) (hm : X.mg "list" = none) (he : XE X cl P e f) (hg : Gl X "list" := by rfl) (hs : starEach [e] X.env = [(false, eval e X.env)] := by rfl) :
    XE X cl P (.Call (.Name "list" p) [e] [] pos) (xCall (o1 dListA) (aC f aN)) :=
  xe_callTy (r := rListA X.K) ((call_listS hc).or call_list_of) cas_listA hm (xa_cons he xa_nil hs) hg (he := hs)
end
end Mh
namespace Mh
open PySem L2
def clsBody : Stmt → List Stmt
  | .ClassDef _ _ _ body .. => body
  | _ => []
theorem fn_none {Pg : Program} {w : World} {K : PySem.W.Frag} {mg : Str → Option Value} {base : Heap} {cl : Nat → Addr} {k n : Nat} {f : Addr} {fd : FuncData} {ps : List Str} : FnOk Pg w K mg base CX0 k f fd ps (spF ⟨cl, K⟩ n fun _ => none) := by
  constructor
  · intro vs H Q E ⟨_, _, _, _, _, _, _, _, h, _⟩; cases h
  · intro A outer s H args us vs Q E _ _ _ _ ⟨_, _, _, _, _, _, _, _, h, _⟩; cases h
def dStrA : D → Option M
  | .int i => if i.natAbs.log2 < 1920 then some (.p (.str (toString i))) else none
  | .str x => some (.p (.str x))
  | _ => none
def rStrA : List V → Hp → VK → Prop := fun xs H Q => rStr2 xs H Q ∨ ∃ a, xs = [.str a] ∧ Q (.str a) H
theorem cas_strA {Y : Tx} : CaS Y rStrA (o1 dStrA) := CaS.one fun E T σ ms H v d m Q s e k => by
  have r := s.rep
  unfold dStrA at e
  split at e
  · obtain rfl := r.int_of
    split at e
    · rename_i h
      cases e
      exact .inl ⟨_, rfl, h, k _ _ (s.pop.scal fun _ => .str _)⟩
    · cases e
  · cases e
    obtain rfl := r.str_of
    exact .inr ⟨_, rfl, k _ _ s⟩
  · cases e
theorem call_strA {X : Cx} : CallR X (.type "str") rStrA := call_str_int.or SkE.call_str_str
section
variable {Pg : Program} {w : World} {K : PySem.W.Frag} {mg : Str → Option Value} {base : Heap} {cl : Nat → Addr}
/-- .. a def with defaults -/
theorem fn_okD {x qual : Str} {st : Stmt} {f : Addr} {fd : FuncData} {N ps : List Str} {k : Nat} {P : List Nat} {b : SF} {dvs : List V} (F : FunD K x qual (defArgs st) (defBody st) (defScope st) dvs [] f fd) (S : FnScope N ps (defScope st)) (hP : ∀ i ∈ P, i < ps.length)
    (hbody : ∀ (cdv : Value) (A : Around) (outer : List Env) (s : Shared) (H : Hp) (E : XK), Room k (A.deeper (PyProof.Rows.envOfC qual (defScope st) s.heap.objs.size f cdv)) → XB (cxOf CX0 Pg w K mg base N qual (defScope st) f cdv A outer s H E).nox cl P (defBody st) b) :
    FnOk Pg w K mg base CX0 (k + 1) f fd ps (spF ⟨cl, K⟩ ps.length (fnF N.length ps.length P b)) :=
  F.ok S (fun vs H Q E ⟨_, _, _, h, _⟩ => h) (fun cdv A outer s H vs Q E hr h => by
    obtain ⟨t, h1, q⟩ := fn_body S hP (hbody cdv A outer s H E hr) h
    exact ⟨t, h1.nox, q⟩)
end
/-- a comprehension over a list of one's own, that stays one's own -/
def xLcO (i : Nat) (tg : GF) (tt : TF) (te : EF) (vs : List Nat) : EF := fun ms => (slL ms i).bind fun ds => (lcF tg tt te vs ds (wpM (ms.set i none) vs) []).bind fun r => if isHole r.2[i]? = true then some (.l r.1, r.2.set i (some (.l ds))) else none
theorem ito_ok {K : PySem.W.Frag} {a : Addr} {ds : List D} {cl : Nat → Addr} : IterOk ⟨cl, K⟩ (Itl K a) [(.ref a, .l ds)] ds := fun i E T σ ms H s => by
  obtain ⟨b, B, vs, e, hB, ha, rl, q, w, w0⟩ := s.ownL
  cases e
  have hs : SqL K H a vs := SqL.of ha
  refine ⟨fun h => ⟨vs, hs, by rw [rl.len]; exact h⟩, fun d h => ?_⟩
  obtain ⟨v, h1, h2⟩ := rl.get i d h
  refine ⟨⟨vs, v, hs, h1⟩, fun x H' ⟨e1, e2⟩ => ?_⟩
  subst e1
  have := e2 vs hs
  rw [h1] at this
  cases this
  exact w0 [(_, d)] (by simpa using h2)
section
variable {X : Cx} {cl : Nat → Addr} {P : List Nat}
theorem xe_lcO (i : Nat) {elt : Expr} {tg : Expr} {x : Str} {p : Pos} {ifs : List Expr} {scope : Scope} {own : List (Str × Nat)} {pos : Pos} {W : List Nat} {t : GF} {tt : TF} {te : EF} (hc : X.calm = true) (hN : X.N.Nodup) (ok : BlkOk X.N X.env.scope scope own)
    (hg : Blk X scope fun Z => XG Z cl P tg W t) (ht : Blk X scope fun Z => XTs Z cl P ifs tt) (he : Blk X scope fun Z => XE Z cl P elt te) (hW : ∀ j ∈ W, j ∈ own.map (·.2) := by decide) (hP : ∀ j ∈ own.map (·.2), j ∉ P := by decide)
    (hx : X.N[i]? = some x := by rfl) (hv : Vis X.env.scope x := by first | exact Or.inl rfl | exact Or.inr (Or.inl rfl) | exact Or.inr (Or.inr rfl)) (hd : (x == ("__debug__" : Str)) = false := by decide) (hcd : (x == ("__classdict__" : Str)) = false := by decide)
    (hs : ∀ y, foldedSetIterable (.Name x p) X.env y = pure y := by intro _; rfl) : XE X cl P (.ListComp elt [⟨tg, .Name x p, ifs, 0⟩] scope pos) (xLcO i t tt te (own.map (·.2))) := fun E hE =>
  PE.weak (pe_lc hc hN (pi_list (pe_var hx hv hd hcd)) ok (fun s H C cs fp => hg s H C cs fp E hE) (fun s H C cs fp => ht s H C cs fp E hE) (fun s H C cs fp => he s H C cs fp E hE) hs) fun σ H Q ⟨T, ms, m, ms', s, z, k⟩ => by
    unfold xLcO at z
    obtain ⟨ds, e1, z⟩ := Option.bind_eq_some_iff.mp z
    obtain ⟨r, e2, z⟩ := Option.bind_eq_some_iff.mp z
    split at z
    · rename_i hh
      cases z
      have h := slL_eq e1
      obtain ⟨v, h1⟩ := s.cov i _ h
      have s1 := s.take h1 h
      obtain ⟨a, B, vs, rfl, hB, ha, rl, q, w, w0⟩ := s1.ownL
      refine ⟨.ref a, h1, a, rfl, ⟨vs, SqL.of ha⟩, ?_⟩
      exact lc_cor (H1 := H) (U := [(.ref a, .l ds)]) hW (fun v hv => by rw [hE]; exact hP v hv) s.prot ito_ok s1 e2 fun v H' s' => k v H' (by
        have s2 : Stt ⟨cl, X.K⟩ E ((.ref a, .l ds) :: (v, .l r.1) :: T) σ r.2 H' := s'.of (s'.rel.perm (List.Perm.swap _ _ _))
        exact s2.put h1 (isHole_eq hh))
    · cases z
theorem xe_lcV (own : List (Str × Nat)) {vs : List Nat} {elt tg iter : Expr} {ifs : List Expr} {scope : Scope} {pos : Pos} {it : IF} {W : List Nat} {t : GF} {tt : TF} {te : EF} (hc : X.calm = true) (hN : X.N.Nodup) (hi : XI X cl P tg iter it) (ok : BlkOk X.N X.env.scope scope own)
    (hg : Blk X scope fun Z => XG Z cl P tg W t) (ht : Blk X scope fun Z => XTs Z cl P ifs tt) (he : Blk X scope fun Z => XE Z cl P elt te) (hvs : own.map (·.2) = vs := by rfl) (hW : ∀ j ∈ W, j ∈ own.map (·.2) := by decide) (hP : ∀ j ∈ own.map (·.2), j ∉ P := by decide)
    (hs : ∀ x, foldedSetIterable iter X.env x = pure x := by intro _; rfl) : XE X cl P (.ListComp elt [⟨tg, iter, ifs, 0⟩] scope pos) (xLc it t tt te vs) := by
  subst hvs
  exact xe_lc hc hN hi ok hg ht he hW hP hs
theorem xs_setLcV (i : Nat) (own : List (Str × Nat)) {vs : List Nat} {y : Str} {py : Pos} {elt tg iter : Expr} {ifs : List Expr} {scope : Scope} {pos spos : Pos} {it : IF} {W : List Nat} {t : GF} {tt : TF} {te : EF} (hc : X.calm = true) (hN : X.N.Nodup)
    (hi : XI X cl P tg iter it) (ok : BlkOk X.N X.env.scope scope own)
    (hg : Blk X scope fun Z => XG Z cl P tg W t) (ht : Blk X scope fun Z => XTs Z cl P ifs tt) (he : Blk X scope fun Z => XE Z cl P elt te) (hvs : own.map (·.2) = vs := by rfl) (hW : ∀ j ∈ W, j ∈ own.map (·.2) := by decide) (hP : ∀ j ∈ own.map (·.2), j ∉ P := by decide) (hPi : i ∉ P := by decide)
    (hy : X.N[i]? = some y := by rfl) (hyl : X.env.scope.names.lookup y = some .local := by rfl)
    (hsw : swapsWith (.ListComp elt [⟨tg, iter, ifs, 0⟩] scope pos) (some (.Name y py)) spos.line X.env = pure true := by exact sw_true rfl rfl rfl (by decide +kernel))
    (hs : ∀ x, foldedSetIterable iter X.env x = pure x := by intro _; rfl) : XS X cl P (.Assign [.Name y py] (.ListComp elt [⟨tg, iter, ifs, 0⟩] scope pos) spos) (sSet i (xLc it t tt te vs)) := by
  subst hvs
  exact xs_setLc i hc hN hi ok hg ht he hW hP hPi hy hyl hsw hs
theorem xe_lcOV (i : Nat) (own : List (Str × Nat)) {vs : List Nat} {elt : Expr} {tg : Expr} {x : Str} {p : Pos} {ifs : List Expr} {scope : Scope} {pos : Pos} {W : List Nat} {t : GF} {tt : TF} {te : EF} (hc : X.calm = true) (hN : X.N.Nodup) (ok : BlkOk X.N X.env.scope scope own)
    (hg : Blk X scope fun Z => XG Z cl P tg W t) (ht : Blk X scope fun Z => XTs Z cl P ifs tt) (he : Blk X scope fun Z => XE Z cl P elt te) (hvs : own.map (·.2) = vs := by rfl) (hW : ∀ j ∈ W, j ∈ own.map (·.2) := by decide) (hP : ∀ j ∈ own.map (·.2), j ∉ P := by decide)
    (hx : X.N[i]? = some x := by rfl) (hv : Vis X.env.scope x := by first | exact Or.inl rfl | exact Or.inr (Or.inl rfl) | exact Or.inr (Or.inr rfl)) (hd : (x == ("__debug__" : Str)) = false := by decide) (hcd : (x == ("__classdict__" : Str)) = false := by decide)
    (hs : ∀ y, foldedSetIterable (.Name x p) X.env y = pure y := by intro _; rfl) : XE X cl P (.ListComp elt [⟨tg, .Name x p, ifs, 0⟩] scope pos) (xLcO i t tt te vs) := by
  subst hvs
  exact xe_lcO i hc hN ok hg ht he hW hP hx hv hd hcd hs
end
end Mh
namespace Mh
open PySem L2
@[simp] theorem xV_ap (i : Nat) (ms : En) : xV i ms = (match ms[i]? with
  | some (some m) => some (.p (frz m), ms.set i (some (.p (frz m))))
  | _ => none) := by unfold xV; rfl
@[simp] theorem xC_ap (d : D) (ms : En) : xC d ms = (some (.p d, ms)) := by unfold xC; rfl
@[simp] theorem xTk_ap (i : Nat) (ms : En) : xTk i ms = (match ms[i]? with
  | some (some m) => some (m, ms.set i none)
  | _ => none) := by unfold xTk; rfl
@[simp] theorem f2_ap (op : D → D → Option D) (f g : EF) (ms : En) : f2 op f g ms = ((f ms).bind fun a => (g a.2).bind fun b => (op (frz a.1) (frz b.1)).bind fun d => some (.p d, b.2)) := by unfold f2; rfl
@[simp] theorem fB_ap (f : EF) (ms : En) : fB f ms = ((f ms).bind fun a => match a.1 with | .p (.bl b) => some (b, a.2) | _ => none) := by unfold fB; rfl
@[simp] theorem f3_ap (op op' : D → D → Option D) (f g h : EF) (ms : En) : f3 op op' f g h ms = ((f ms).bind fun a => (g a.2).bind fun b => (op (frz a.1) (frz b.1)).bind fun d => match d with
  | .bl true => (h b.2).bind fun c => (op' (frz b.1) (frz c.1)).bind fun d' => some (.p d', c.2)
  | .bl false => some (.p (.bl false), b.2)
  | _ => none) := by unfold f3; rfl
@[simp] theorem tfAnd_ap (f g : TF) (ms : En) : tfAnd f g ms = ((f ms).bind fun a => if a.1 = true then g a.2 else some (false, a.2)) := by unfold tfAnd; rfl
@[simp] theorem tfOr_ap (f g : TF) (ms : En) : tfOr f g ms = ((f ms).bind fun a => if a.1 = true then some (true, a.2) else g a.2) := by unfold tfOr; rfl
@[simp] theorem tfNot_ap (f : TF) (ms : En) : tfNot f ms = ((f ms).bind fun a => some (!a.1, a.2)) := by unfold tfNot; rfl
@[simp] theorem xAnd_ap (f g : EF) (ms : En) : xAnd f g ms = ((fB f ms).bind fun a => if a.1 = true then g a.2 else some (.p (.bl false), a.2)) := by unfold xAnd; rfl
@[simp] theorem xOr_ap (f g : EF) (ms : En) : xOr f g ms = ((fB f ms).bind fun a => if a.1 = true then some (.p (.bl true), a.2) else g a.2) := by unfold xOr; rfl
@[simp] theorem xNot_ap (f : EF) (ms : En) : xNot f ms = ((fB f ms).bind fun a => some (.p (.bl (!a.1)), a.2)) := by unfold xNot; rfl
@[simp] theorem xIf_ap (c : TF) (f g : EF) (ms : En) : xIf c f g ms = ((c ms).bind fun a => if a.1 = true then f a.2 else g a.2) := by unfold xIf; rfl
@[simp] theorem aN_ap (ms : En) : aN  ms = (some ([], ms)) := by unfold aN; rfl
@[simp] theorem aC_ap (f : EF) (g : AF) (ms : En) : aC f g ms = ((f ms).bind fun a => (g a.2).bind fun b => some (a.1 :: b.1, b.2)) := by unfold aC; rfl
@[simp] theorem xCall_ap (op : List D → Option M) (a : AF) (ms : En) : xCall op a ms = ((a ms).bind fun l => (op (l.1.map frz)).bind fun m => some (m, l.2)) := by unfold xCall; rfl
@[simp] theorem xFld_ap (c : Nat) (f : Str) (g : EF) (ms : En) : xFld c f g ms = ((g ms).bind fun a => (dFld c f (frz a.1)).bind fun d => some (.p d, a.2)) := by unfold xFld; rfl
@[simp] theorem sSeq_ap (f g : SF) (ms : En) : sSeq f g ms = ((f ms).bind fun o => match o.1 with
  | .nx => g o.2
  | _ => some o) := by unfold sSeq; rfl
@[simp] theorem sNx_ap (ms : En) : sNx  ms = (some (.nx, ms)) := by unfold sNx; rfl
@[simp] theorem sBk_ap (ms : En) : sBk  ms = (some (.bk, ms)) := by unfold sBk; rfl
@[simp] theorem sCt_ap (ms : En) : sCt  ms = (some (.ct, ms)) := by unfold sCt; rfl
@[simp] theorem sEx_ap (f : EF) (ms : En) : sEx f ms = ((f ms).bind fun a => some (.nx, a.2)) := by unfold sEx; rfl
@[simp] theorem sRet_ap (f : EF) (ms : En) : sRet f ms = ((f ms).bind fun a => some (.rt a.1, a.2)) := by unfold sRet; rfl
@[simp] theorem sRetN_ap (ms : En) : sRetN  ms = (some (.rt (.p .non), ms)) := by unfold sRetN; rfl
@[simp] theorem sIf_ap (c : TF) (f g : SF) (ms : En) : sIf c f g ms = ((c ms).bind fun a => if a.1 = true then f a.2 else g a.2) := by unfold sIf; rfl
@[simp] theorem sSet_ap (i : Nat) (f : EF) (ms : En) : sSet i f ms = ((f ms).bind fun a => if i < a.2.length then some (.nx, a.2.set i (some a.1)) else none) := by unfold sSet; rfl
@[simp] theorem sNo_ap (ms : En) : sNo  ms = (none) := by unfold sNo; rfl
@[simp] theorem xNo_ap (ms : En) : xNo  ms = (none) := by unfold xNo; rfl
@[simp] theorem gSet_ap (i : Nat) (m : M) (ms : En) : gSet i m ms = (if i < ms.length then some (ms.set i (some m)) else none) := by unfold gSet; rfl
@[simp] theorem sAsg_ap (f : EF) (t : GF) (ms : En) : sAsg f t ms = ((f ms).bind fun a => (t a.1 a.2).bind fun ms' => some (.nx, ms')) := by unfold sAsg; rfl
@[simp] theorem gsN_ap (ds : List D) (ms : En) : gsN  ds ms = (match ds with | [] => some ms | _ => none) := by unfold gsN; rfl
@[simp] theorem gsC_ap (t : GF) (u : GsF) (ds : List D) (ms : En) : gsC t u ds ms = (match ds with | d :: ds => (t (.p d) ms).bind fun m1 => u ds m1 | [] => none) := by unfold gsC; rfl
@[simp] theorem gTupF_ap (n : Nat) (u : GsF) (m : M) (ms : En) : gTupF n u m ms = (match frz m with | .tup ds => if ds.length = n then u ds ms else none | _ => none) := by unfold gTupF; rfl
@[simp] theorem iL_ap (f : EF) (ms : En) : iL f ms = ((f ms).bind fun a => match frz a.1 with | .lst ds => some (ds, a.2) | _ => none) := by unfold iL; rfl
@[simp] theorem iT_ap (f : EF) (ms : En) : iT f ms = ((f ms).bind fun a => match frz a.1 with | .tup ds => some (ds, a.2) | _ => none) := by unfold iT; rfl
@[simp] theorem iS_ap (f : EF) (ms : En) : iS f ms = ((f ms).bind fun a => match frz a.1 with | .str x => some (chars x, a.2) | _ => none) := by unfold iS; rfl
@[simp] theorem sFor_ap (it : IF) (tg : GF) (body : SF) (ms : En) : sFor it tg body ms = ((it ms).bind fun l => forF tg body l.1 l.2) := by unfold sFor; rfl
@[simp] theorem sWh_ap (n : Nat) (c : TF) (body : SF) (ms : En) : sWh n c body ms = (whF c body n ms) := by unfold sWh; rfl
@[simp] theorem xLc_ap (it : IF) (tg : GF) (tt : TF) (te : EF) (vs : List Nat) (ms : En) : xLc it tg tt te vs ms = ((it ms).bind fun l => (lcF tg tt te vs l.1 (wpM l.2 vs) []).bind fun r => some (.l r.1, r.2)) := by unfold xLc; rfl
@[simp] theorem tfY_ap (ms : En) : tfY  ms = (some (true, ms)) := by unfold tfY; rfl
@[simp] theorem xFn_ap (ff : FF) (dd : List D) (bs : List (Option Nat)) (a : AF) (ms : En) : xFn ff dd bs a ms = ((a ms).bind fun l => (ff (l.1 ++ dd.map .p)).bind fun r => (putB bs r.2 l.2).bind fun ms' => some (r.1, ms')) := by unfold xFn; rfl
@[simp] theorem xIxO_ap (i : Nat) (g : EF) (ms : En) : xIxO i g ms = ((slL ms i).bind fun _ => (g ms).bind fun a => (slL a.2 i).bind fun ds => match frz a.1 with
  | .int k => (atI ds k).bind fun d => some (.p d, a.2)
  | _ => none) := by unfold xIxO; rfl
@[simp] theorem sSetIx_ap (i : Nat) (f g : EF) (ms : En) : sSetIx i f g ms = ((f ms).bind fun a => (slL a.2 i).bind fun _ => (g a.2).bind fun b => (slL b.2 i).bind fun ds => match frz b.1 with
  | .int k => (ixN ds.length k).bind fun j => some (.nx, b.2.set i (some (.l (ds.set j (frz a.1)))))
  | _ => none) := by unfold sSetIx; rfl
@[simp] theorem xApp_ap (i : Nat) (f : EF) (ms : En) : xApp i f ms = ((slL ms i).bind fun _ => (f ms).bind fun a => (slL a.2 i).bind fun ds => if ds.length < sizeLine then some (.p .non, a.2.set i (some (.l (ds ++ [frz a.1])))) else none) := by unfold xApp; rfl
@[simp] theorem xPopAt_ap (i : Nat) (f : EF) (ms : En) : xPopAt i f ms = ((slL ms i).bind fun _ => (f ms).bind fun a => (slL a.2 i).bind fun ds => match frz a.1 with
  | .int k => if 0 ≤ k ∧ k < ds.length ∧ ds.length ≤ sizeLine then (ds[k.toNat]?).bind fun d => some (.p d, a.2.set i (some (.l (ds.eraseIdx k.toNat)))) else none
  | _ => none) := by unfold xPopAt; rfl
@[simp] theorem xPop_ap (i : Nat) (ms : En) : xPop i ms = ((slL ms i).bind fun ds => (ds[ds.length - 1]?).bind fun d => some (.p d, ms.set i (some (.l ds.dropLast)))) := by unfold xPop; rfl
@[simp] theorem xLenO_ap (i : Nat) (ms : En) : xLenO i ms = ((slL ms i).bind fun ds => some (.p (.int ds.length), ms)) := by unfold xLenO; rfl
@[simp] theorem sPar_ap (i j : Nat) (f g : EF) (ms : En) : sPar i j f g ms = ((f ms).bind fun a => (g a.2).bind fun b => if i < b.2.length ∧ j < b.2.length then some (.nx, (b.2.set i (some a.1)).set j (some b.1)) else none) := by unfold sPar; rfl
@[simp] theorem pN_ap (ms : En) : pN  ms = (some (none, ms)) := by unfold pN; rfl
@[simp] theorem pS_ap (f : EF) (ms : En) : pS f ms = ((f ms).bind fun a => match frz a.1 with | .int i => some (some i, a.2) | _ => none) := by unfold pS; rfl
@[simp] theorem xSl_ap (f : EF) (l h : PF) (ms : En) : xSl f l h ms = ((f ms).bind fun a => (l a.2).bind fun b => (h b.2).bind fun c => (dSl b.1 c.1 (frz a.1)).bind fun m => some (m, c.2)) := by unfold xSl; rfl
@[simp] theorem xRev_ap (f : EF) (ms : En) : xRev f ms = ((f ms).bind fun a => match frz a.1 with | .lst ds => some (.l ds.reverse, a.2) | _ => none) := by unfold xRev; rfl
@[simp] theorem xM1_ap (op : D → D → Option M) (f g : EF) (ms : En) : xM1 op f g ms = ((f ms).bind fun a => if isStrD (frz a.1) = true then (g a.2).bind fun b => (op (frz a.1) (frz b.1)).bind fun m => some (m, b.2) else none) := by unfold xM1; rfl
@[simp] theorem xFmt_ap (f : EF) (ms : En) : xFmt f ms = ((f ms).bind fun a => (dFmt (frz a.1)).bind fun y => some (.p (.str y), a.2)) := by unfold xFmt; rfl
@[simp] theorem xJs_ap (fs : List EF) (ms : En) : xJs fs ms = ((jsF fs Str.empty ms).bind fun r => some (.p (.str r.1), r.2)) := by unfold xJs; rfl
@[simp] theorem xIsi_ap (N : String) (f : EF) (ms : En) : xIsi N f ms = ((f ms).bind fun a => (tyOf (frz a.1)).bind fun t => (kitB t N).bind fun b => some (.p (.bl b), a.2)) := by unfold xIsi; rfl
@[simp] theorem xIs2_ap (M N : String) (f : EF) (ms : En) : xIs2 M N f ms = ((f ms).bind fun a => (tyOf (frz a.1)).bind fun t => (kitB t M).bind fun b => (kitB t N).bind fun c => some (.p (.bl (b || c)), a.2)) := by unfold xIs2; rfl
@[simp] theorem xDGet_ap (f g : EF) (ms : En) : xDGet f g ms = ((f ms).bind fun a => (g a.2).bind fun b => match frz a.1 with
  | .dct kvs => (keyD (frz b.1)).bind fun k => (getK kvs k).bind fun d => some (.p d, b.2)
  | _ => none) := by unfold xDGet; rfl
@[simp] theorem xDIn_ap (neg : Bool) (f g : EF) (ms : En) : xDIn neg f g ms = ((f ms).bind fun a => (g a.2).bind fun b => match frz b.1 with
  | .dct kvs => (keyD (frz a.1)).bind fun k => some (.p (.bl (if neg then !(getK kvs k).isSome else (getK kvs k).isSome)), b.2)
  | _ => none) := by unfold xDIn; rfl
@[simp] theorem xD0_ap (ms : En) : xD0  ms = (some (.dk [], ms)) := by unfold xD0; rfl
@[simp] theorem sDPutF_ap (i : Nat) (f g : EF) (ms : En) : sDPutF i f g ms = ((f ms).bind fun a => (slK a.2 i).bind fun _ => (g a.2).bind fun b => (slK b.2 i).bind fun kvs => (keyD (frz b.1)).bind fun k =>
  if kvs.length < sizeLine then some (.nx, b.2.set i (some (.dk (putKD kvs k (frz a.1))))) else none) := by unfold sDPutF; rfl
@[simp] theorem iKD_ap (f : EF) (ms : En) : iKD f ms = ((f ms).bind fun a => match frz a.1 with | .dct kvs => some (kvs.map fun kv => kD kv.1, a.2) | _ => none) := by unfold iKD; rfl
@[simp] theorem xFldO_ap (i c : Nat) (f : Str) (ms : En) : xFldO i c f ms = ((slO ms i c).bind fun fs => ((fs.lookup f).bind pM).bind fun d => some (.p d, ms)) := by unfold xFldO; rfl
@[simp] theorem sFldO_ap (i c : Nat) (f : Str) (g : EF) (ms : En) : sFldO i c f g ms = ((g ms).bind fun a => (slO a.2 i c).bind fun fs => if fs.length < 1000 then some (.nx, a.2.set i (some (.o c (putM f a.1 fs)))) else none) := by unfold sFldO; rfl
@[simp] theorem xMth_ap (ff : FF) (dd : List D) (bs : List (Option Nat)) (c : Nat) (m : Str) (f : EF) (a : AF) (ms : En) : xMth ff dd bs c m f a ms = ((f ms).bind fun x => if isO c m (frz x.1) = true then (a x.2).bind fun l => (ff (.p (frz x.1) :: l.1 ++ dd.map .p)).bind fun r =>
  (putB bs r.2.tail l.2).bind fun ms' => some (r.1, ms') else none) := by unfold xMth; rfl
@[simp] theorem xMk_ap (ff : FF) (dd : List D) (c : Nat) (a : AF) (ms : En) : xMk ff dd c a ms = ((a ms).bind fun l => mkG ff c (l.1 ++ dd.map .p) l.2) := by unfold xMk; rfl
@[simp] theorem xMkS_ap (ff : FF) (dd : List D) (c : Nat) (f : EF) (ms : En) : xMkS ff dd c f ms = ((f ms).bind fun a => (seqD (frz a.1)).bind fun ds => mkG ff c (ds.map .p ++ dd.map .p) a.2) := by unfold xMkS; rfl
@[simp] theorem xMkC_ap (ff : FF) (dd : List D) (c i : Nat) (f : EF) (ms : En) : xMkC ff dd c i f ms = (match ms[i]? with
  | some (some (.p (.cls c'))) => if c' = c then xMkS ff dd c f ms else none
  | _ => none) := by unfold xMkC; rfl
@[simp] theorem xCm_ap (ff : FF) (dd : List D) (c : Nat) (a : AF) (ms : En) : xCm ff dd c a ms = ((a ms).bind fun l => (ff (.p (.cls c) :: l.1 ++ dd.map .p)).bind fun r => some (r.1, l.2)) := by unfold xCm; rfl
@[simp] theorem cntD_ap (j : Nat) (f : EF) (ms : En) : cntD j f ms = ((f ms).bind fun a => (seqD (frz a.1)).bind fun ds => if ds.length = j then some a else none) := by unfold cntD; rfl
@[simp] theorem xIsO_ap (c : Nat) (f : EF) (ms : En) : xIsO c f ms = ((f ms).bind fun a => (isoD c (frz a.1)).bind fun b => some (.p (.bl b), a.2)) := by unfold xIsO; rfl
@[simp] theorem xLenSet_ap (f : EF) (ms : En) : xLenSet f ms = ((f ms).bind fun a => match frz a.1 with
  | .lst ds => (strsD ds).bind fun xs => if xs.Nodup ∧ xs.length ≤ 4000 then some (.p (.int xs.length), a.2) else none
  | _ => none) := by unfold xLenSet; rfl
@[simp] theorem f2M_ap (op : D → D → Option M) (f g : EF) (ms : En) : f2M op f g ms = ((f ms).bind fun a => (g a.2).bind fun b => (op (frz a.1) (frz b.1)).bind fun m => some (m, b.2)) := by unfold f2M; rfl
@[simp] theorem xKIn_ap (neg : Bool) (tb : Str → Option Int) (f : EF) (ms : En) : xKIn neg tb f ms = ((f ms).bind fun a => match frz a.1 with | .str z => some (.p (.bl (isNotKey neg (tb z).isSome)), a.2) | _ => none) := by unfold xKIn; rfl
@[simp] theorem xKIx_ap (tb : Str → Option Int) (f : EF) (ms : En) : xKIx tb f ms = ((f ms).bind fun a => match frz a.1 with | .str z => (tb z).map fun i => (.p (.int i), a.2) | _ => none) := by unfold xKIx; rfl
@[simp] theorem aSt_ap (f : EF) (g : AF) (ms : En) : aSt f g ms = ((f ms).bind fun a => (seqD (frz a.1)).bind fun ds => (g a.2).bind fun b => some (ds.map .p ++ b.1, b.2)) := by unfold aSt; rfl
@[simp] theorem xNeg_ap (f : EF) (ms : En) : xNeg f ms = ((f ms).bind fun a => match frz a.1 with | .int i => some (.p (.int (-i)), a.2) | _ => none) := by unfold xNeg; rfl
@[simp] theorem xLcO_ap (i : Nat) (tg : GF) (tt : TF) (te : EF) (vs : List Nat) (ms : En) : xLcO i tg tt te vs ms = ((slL ms i).bind fun ds => (lcF tg tt te vs ds (wpM (ms.set i none) vs) []).bind fun r => if isHole r.2[i]? = true then some (.l r.1, r.2.set i (some (.l ds))) else none) := by unfold xLcO; rfl
@[simp] theorem frz_p (d : D) : frz (.p d) = d := rfl
@[simp] theorem frz_l (d : List D) : frz (.l d) = .lst d := rfl
@[simp] theorem frz_dk (d : List (Key × D)) : frz (.dk d) = .dct d := rfl
@[simp] theorem frz_o (c : Nat) (fs : List (Str × M)) : frz (.o c fs) = .obj c (frzF fs) := rfl
theorem iR1_of {a : AF} {ms ms' : En} {n : Nat} (h : a ms = some ([.p (.int n)], ms')) (hn : n < 1000000) : iR1 a ms = some (rngD 0 n, ms') := by
  unfold iR1
  rw [h]
  exact if_pos (sml_nat hn)
theorem iR2_of {a : AF} {ms ms' : En} {i n : Nat} (h : a ms = some ([.p (.int i), .p (.int n)], ms')) (hi : i < 1000000) (hn : n < 1000000) : iR2 a ms = some (rngD i (n - i), ms') := by
  unfold iR2
  rw [h]
  have e : rngD i (n - i) = rngD (i : Int) ((n : Int) - (i : Int)).toNat := by
    congr 1
    omega
  rw [e]
  exact if_pos ⟨sml_nat hi, sml_nat hn⟩
@[simp] theorem frzF_nil : frzF [] = [] := rfl
@[simp] theorem frzF_cons (k : Str) (m : M) (r : List (Str × M)) : frzF ((k, m) :: r) = (k, frz m) :: frzF r := rfl
@[simp] theorem putB_nil (cs ms : En) : putB [] cs ms = some ms := rfl
@[simp] theorem putB_none (bs : List (Option Nat)) (c : Option M) (cs ms : En) : putB (none :: bs) (c :: cs) ms = putB bs cs ms := rfl
@[simp] theorem putB_none0 (bs : List (Option Nat)) (ms : En) : putB (none :: bs) [] ms = putB bs [] ms := rfl
@[simp] theorem putB_some (i : Nat) (bs : List (Option Nat)) (m : M) (cs ms : En) : putB (some i :: bs) (some m :: cs) ms = if isHole ms[i]? = true then putB bs cs (ms.set i (some m)) else none := rfl
@[simp] theorem putB_some0 (i : Nat) (bs : List (Option Nat)) (cs ms : En) : putB (some i :: bs) (none :: cs) ms = putB bs cs ms := rfl
@[simp] theorem isHole_a (m : M) : isHole (some (some m)) = false := rfl
@[simp] theorem isHole_b : isHole (some none) = true := rfl
@[simp] theorem isHole_c : isHole none = false := rfl
@[simp] theorem kp_nil (P : List Nat) (i : Nat) : kp P i [] = [] := rfl
@[simp] theorem kp_cons (P : List Nat) (i : Nat) (m : Option M) (ms : En) : kp P i (m :: ms) = (if i ∈ P then m else none) :: kp P (i + 1) ms := rfl
@[simp] theorem wpM_nil (ms : En) : wpM ms [] = ms := rfl
@[simp] theorem wpM_cons (ms : En) (v : Nat) (vs : List Nat) : wpM ms (v :: vs) = (wpM ms vs).set v none := rfl
@[simp] theorem o1_ap (op : D → Option M) (d : D) : o1 op [d] = op d := rfl
@[simp] theorem o2_ap (op : D → D → Option M) (d e : D) : o2 op [d, e] = op d e := rfl
@[simp] theorem keyD_str (x : Str) : keyD (.str x) = some (.inr x) := rfl
@[simp] theorem keyD_int (x : Int) : keyD (.int x) = some (.inl x) := rfl
@[simp] theorem tyOf_non : tyOf .non = some "NoneType" := rfl
@[simp] theorem tyOf_bl (b : Bool) : tyOf (.bl b) = some "bool" := rfl
@[simp] theorem tyOf_int (b : Int) : tyOf (.int b) = some "int" := rfl
@[simp] theorem tyOf_str (b : Str) : tyOf (.str b) = some "str" := rfl
@[simp] theorem tyOf_tup (b : List D) : tyOf (.tup b) = some "tuple" := rfl
@[simp] theorem tyOf_lst (b : List D) : tyOf (.lst b) = some "list" := rfl
@[simp] theorem dAddA_i (i j : Int) : dAddA (.int i) (.int j) = some (.p (.int (i + j))) := rfl
@[simp] theorem dAddA_s (i j : Str) : dAddA (.str i) (.str j) = if i.length + j.length ≤ sizeLine then some (.p (.str (i ++ j))) else none := rfl
@[simp] theorem dAddA_l (i j : List D) : dAddA (.lst i) (.lst j) = if i.length + j.length ≤ sizeLine then some (.l (i ++ j)) else none := rfl
@[simp] theorem dII_ap (g : Int → Int → Option D) (i j : Int) : dII g (.int i) (.int j) = g i j := rfl
@[simp] theorem dInt_i (i : Int) : dInt (.int i) = some (.p (.int i)) := rfl
@[simp] theorem dAbs_i (i : Int) : dAbs (.int i) = some (.p (.int (if i < 0 then -i else i))) := rfl
@[simp] theorem dIx_l (ds : List D) (i : Int) : dIx (.lst ds) (.int i) = atI ds i := rfl
@[simp] theorem dIx_t (ds : List D) (i : Int) : dIx (.tup ds) (.int i) = atI ds i := rfl
@[simp] theorem dLen_l (ds : List D) : dLen (.lst ds) = some (.p (.int ds.length)) := rfl
@[simp] theorem dLen_t (ds : List D) : dLen (.tup ds) = some (.p (.int ds.length)) := rfl
@[simp] theorem seqD_l (ds : List D) : seqD (.lst ds) = some ds := rfl
@[simp] theorem seqD_t (ds : List D) : seqD (.tup ds) = some ds := rfl
@[simp] theorem eqB_int (i j : Int) : eqB (.int i) (.int j) = some (decide (i = j)) := by simp [eqB, eqS, flatD, scal]
@[simp] theorem eqB_str (i j : Str) : eqB (.str i) (.str j) = some (decide (i = j)) := by simp [eqB, eqS, flatD, scal]
@[simp] theorem eqB_bl (i j : Bool) : eqB (.bl i) (.bl j) = some (decide (i = j)) := by simp [eqB, eqS, flatD, scal]
@[simp] theorem eqB_sn (i : Str) : eqB (.str i) .non = some false := by simp [eqB, eqS, flatD, scal]
@[simp] theorem eqB_ns (i : Str) : eqB .non (.str i) = some false := by simp [eqB, eqS, flatD, scal]
@[simp] theorem eqB_nn : eqB .non .non = some true := by simp [eqB, eqS, flatD, scal]
@[simp] theorem eqB_si (i : Str) (j : Int) : eqB (.str i) (.int j) = some false := by simp [eqB, eqS, flatD, scal]
@[simp] theorem eqB_sb (i : Str) (j : Bool) : eqB (.str i) (.bl j) = some false := by simp [eqB, eqS, flatD, scal]
@[simp] theorem dEq_ap (neg : Bool) (x y : D) : dEq neg x y = (eqB x y).map fun b => .bl (if neg then !b else b) := by unfold dEq; rfl
end Mh
/-! sets of texts: made, filled, sorted -/
namespace MhT
open PySem PySem.Spec PyProof.Rows L2
/-- an entry that holds the text k -/
def Ent (w : World) (k : Str) (e : Int × Value) : Prop := (∃ t, e.2 = .str k t) ∧ e.1 = hashStr w k
def kt (e : Int × Value) : Str := match e.2 with
  | .str k _ => k
  | _ => Str.empty
def OkT (w : World) (l : List (Int × Value)) : Prop := ∀ e ∈ l, Ent w (kt e) e
/-- the set of texts at a: just those of ks, each once; its table can be walked -/
def SetT (w : World) (h : Heap) (a : Addr) (ks : Str → Prop) (n : Nat) : Prop :=
  ∃ o es ep t, (h.get? a = some o ∧ o.ExactSet ∧ o.data = .set es ep t) ∧ OkT w es.toList ∧ (es.toList.map kt).Nodup ∧ (∀ k, ks k ↔ k ∈ es.toList.map kt) ∧
    (es.size < scanBound ∧ t.fits es.size = true ∧ es.size = n) ∧ Ris t.place.toList ∧ (w.params.followText "set-order" = true ∨ t.led = true)
section
variable {P : Program} {w : World} {h h' : Heap} {a : Addr} {ks : Str → Prop} {n : Nat}
theorem SetT.at_ (R : SetT w h a ks n) (k : ∀ o, h.get? a = some o → h'.get? a = some o) : SetT w h' a ks n :=
  let ⟨o, es, ep, t, ⟨e1, e2⟩, r⟩ := R
  ⟨o, es, ep, t, ⟨k o e1, e2⟩, r⟩
theorem ent_kt {k : Str} {e : Int × Value} (h : Ent w k e) : kt e = k := by
  obtain ⟨⟨t, q⟩, _⟩ := h
  unfold kt; rw [q]
theorem ok_is {l : List (Int × Value)} (g : OkT w l) {e : Int × Value} (he : e ∈ l) (k : Str) : (PySem.strKind P w).is k e.2 = true ↔ kt e = k := by
  obtain ⟨⟨t, q⟩, _⟩ := g e he
  rw [q]
  show ((kt e == k) = true) ↔ _
  exact beq_iff_eq
theorem ok_elems {l : List (Int × Value)} (g : OkT w l) : ElemsOf (PySem.strKind P w) l := fun e he => by
  obtain ⟨⟨t, q⟩, q2⟩ := g e he
  exact ⟨⟨kt e, (ok_is (P := P) g he _).mpr rfl, q2⟩, by rw [q]; rfl⟩
theorem ok_mem {l : List (Int × Value)} (g : OkT w l) (k : Str) : k ∈ l.map kt ↔ ∃ e ∈ l, (PySem.strKind P w).is k e.2 = true := by
  simp only [List.mem_map]
  exact ⟨fun ⟨e, he, q⟩ => ⟨e, he, (ok_is g he k).mpr q⟩, fun ⟨e, he, q⟩ => ⟨e, he, (ok_is g he k).mp q⟩⟩
end
section
variable {P : Program} {w : World} {A : Around} {E : Value → Shared → Prop} {s : Shared} {a : Addr} {ks : Str → Prop} {n : Nat}
/-- the end of an addition: the entries stored, the table perhaps laid anew -/
theorem add_end {g : Bool → Sem Unit} (hg : ∀ (b : Bool) (u : Shared) (Z : Unit → Shared → Prop), Z () u → wpAny (model P w) A (g b) Z E u)
    {o : Obj} {es f1 : Array (Int × Value)} {ep : Nat} {t t2 : SetTable} {ks' : Str → Prop} (ho : s.heap.get? a = some o) (hex : o.ExactSet) (hd : o.data = .set es ep t)
    (g1 : OkT w f1.toList) (nd1 : (f1.toList.map kt).Nodup) (m1 : ∀ k, ks' k ↔ k ∈ f1.toList.map kt) (b1 : f1.size < scanBound) (ft : t2.fits f1.size = true) (rs : Ris t2.place.toList) (ld : w.params.followText "set-order" = true ∨ t2.led = true)
    {dm : Bool} {R : Option Bool → Shared → Prop} (hR : ∀ h', Heap.SameBut a s.heap h' → SetT w h' a ks' f1.size → R (some true) { s with heap := h' }) :
    wpAny (model P w) A (do
        storeSet a f1 t2
        if (!dm && t2.tooFull) = true then do
            g (relayAll t2 f1 (SetTable.grown f1.size)).2.2
            storeSet a (relayAll t2 f1 (SetTable.grown f1.size)).1 (relayAll t2 f1 (SetTable.grown f1.size)).2.1
            pure (some true)
          else pure (some true)) R E s := by
  have at1 := PpSet.storeB_at (es' := f1) (t' := t2) ho hd
  have sb1 := Heap.SameBut.update s.heap a (Obj.putSet f1 t2)
  refine wpAny_bind (wpAny_storeSet_of ho hd ?_ (fits_of_scanBound b1))
  split
  · obtain ⟨z, hz⟩ : ∃ z, z = relayAll t2 f1 (SetTable.grown f1.size) := ⟨_, rfl⟩
    obtain ⟨f2, t3, gv⟩ := z
    have pm : f2.toList.Perm f1.toList := by have q := relayAll_perm t2 f1 (SetTable.grown f1.size); rw [← hz] at q; exact q
    have fits3 : t3.fits f2.size = true := by have q := relayAll_fits t2 f1 (SetTable.grown f1.size); rw [← hz] at q; exact q
    have rs3 : Ris t3.place.toList := by have q := relayAll_ris t2 f1 (SetTable.grown f1.size); rw [← hz] at q; exact q
    have ld3 : t3.led = t2.led := by have q := relayAll_led t2 f1 (SetTable.grown f1.size); rw [← hz] at q; exact q
    rw [← hz]
    have sz : f2.size = f1.size := by rw [← Array.length_toList, ← Array.length_toList]; exact pm.length_eq
    refine wpAny_bind (hg _ _ _ (wpAny_bind (wpAny_storeSet_of at1 rfl ?_ (fits_of_scanBound (sz ▸ b1)))))
    have at2 := PpSet.storeB_at (es' := f2) (t' := t3) at1 rfl
    exact wpAny_pure (hR _ (sb1.trans (Heap.SameBut.update _ a _)) ⟨_, f2, _, t3, ⟨at2, hex, rfl⟩, fun e he => g1 e (pm.mem_iff.mp he), (pm.map kt).nodup_iff.mpr nd1, fun k => (m1 k).trans (pm.map kt).mem_iff.symm, ⟨sz ▸ b1, fits3, sz⟩, rs3,
      ld.imp id fun z => ld3.trans z⟩)
  · exact wpAny_pure (hR _ sb1 ⟨_, f1, _, t2, ⟨at1, hex, rfl⟩, g1, nd1, m1, ⟨b1, ft, rfl⟩, rs, ld⟩)
theorem gave_way {P : Program} {w : World} {A : Around} {E : Value → Shared → Prop} (b : Bool) (u : Shared) (Z : Unit → Shared → Prop) (q : Z () u) : wpAny (model P w) A (match b with | true => rule "set.scan.the-table-gave-way" | false => pure ()) Z E u := by
  cases b
  · exact wpAny_pure q
  · exact wpAny_rule q
theorem add_hashed {k : Str} {tk : Tok} {Q : Bool → Shared → Prop} (R : SetT w s.heap a ks n) (room : n + 1 < scanBound)
    (hQ : ∀ h' m b, m ≤ n + 1 → Heap.SameBut a s.heap h' → SetT w h' a (fun j => ks j ∨ j = k) m → Q b { s with heap := h' }) : wpAny (model P w) A (setAddHashed a (.str k tk) (hashStr w k)) Q E s := by
  obtain ⟨o, es, ep, t, ⟨ho, hex, hd⟩, g, nd, hm, ⟨hb, hf, hn⟩, rs, ld⟩ := R
  have isk : (PySem.strKind P w).is k (.str k tk) = true := by show (k == k) = true; exact beq_self_eq_true k
  have sc : (Value.str k tk).scannable = true := rfl
  have el : ElemsOf (PySem.strKind P w) es.toList := ok_elems g
  unfold setAddHashed setAddHashedIn
  refine wpAny_holding (wpAny_bind (wpAny_setState_of ho hd hf ?_))
  dsimp only
  rw [byScan_of sc hb el]
  simp only [↓reduceIte]
  unfold setAddByScan
  refine wpAny_bind (wpAny_bind (wpAny_rule (wpAny_bind (wpAny_setScan_of isk ho hd hf el ?_))))
  cases fi : List.findIdx? (fun e => (PySem.strKind P w).is k e.2) es.toList with
  | some j =>
    dsimp only
    obtain ⟨hj, pj, _⟩ := List.findIdx?_eq_some_iff_getElem.mp fi
    have hk : ks k := (hm k).mpr ((ok_mem (P := P) g k).mpr ⟨_, List.getElem_mem hj, pj⟩)
    refine wpAny_pure (wpAny_pure (hQ s.heap n _ (Nat.le_succ n) (Heap.SameBut.refl a s.heap) ⟨o, es, ep, t, ⟨ho, hex, hd⟩, g, nd, fun i => ?_, ⟨hb, hf, hn⟩, rs, ld⟩))
    rw [← hm i]
    exact ⟨fun z => z.elim id fun e => e ▸ hk, .inl⟩
  | none =>
    dsimp only
    have nk : k ∉ es.toList.map kt := fun z => by
      obtain ⟨e, he, q⟩ := (ok_mem (P := P) g k).mp z
      have c := List.findIdx?_eq_none_iff.mp fi e he
      rw [q] at c; cases c
    obtain ⟨z, hz⟩ : ∃ z, z = layNew t es (hashStr w k) (.str k tk) := ⟨_, rfl⟩
    obtain ⟨f1, t1, dm, gv⟩ := z
    have pm := layNew_perm t es (hashStr w k) (.str k tk)
    have ft1 := layNew_fits t es (hashStr w k) (.str k tk)
    have rs1 := layNew_ris t es (hashStr w k) (.str k tk) rs
    have ld1 := layNew_led t es (hashStr w k) (.str k tk)
    rw [← hz] at pm ft1 rs1 ld1 ⊢
    dsimp only at pm ft1 rs1 ld1 ⊢
    rw [Array.toList_push] at pm
    have pc : f1.toList.Perm ((hashStr w k, Value.str k tk) :: es.toList) := pm.trans (List.perm_append_singleton _ _)
    have pk : (f1.toList.map kt).Perm (k :: es.toList.map kt) := pc.map kt
    have g1 : OkT w f1.toList := fun e he => by
      rcases List.mem_cons.mp (pc.mem_iff.mp he) with z | z
      · rw [z]; exact ⟨⟨tk, rfl⟩, rfl⟩
      · exact g e z
    have nd1 : (f1.toList.map kt).Nodup := pk.nodup_iff.mpr (List.nodup_cons.mpr ⟨nk, nd⟩)
    have m1 : ∀ i, (ks i ∨ i = k) ↔ i ∈ f1.toList.map kt := fun i => by
      rw [hm i, pk.mem_iff, List.mem_cons]
      exact Or.comm
    have sz : f1.size = n + 1 := by rw [← Array.length_toList, pc.length_eq, List.length_cons, Array.length_toList, hn]
    have b1 : f1.size < scanBound := sz ▸ room
    have ldw : w.params.followText "set-order" = true ∨ t1.led = true := ld.imp id fun z => ld1.trans z
    have fin : ∀ h', Heap.SameBut a s.heap h' → SetT w h' a (fun j => ks j ∨ j = k) f1.size → Q true { s with heap := h' } := fun h' sb r => hQ h' f1.size true (Nat.le_of_eq sz) sb r
    refine wpAny_bind (gave_way _ _ _ ?_)
    split
    · refine wpAny_bind ?_
      rw [hashByValue_scannable 8 sc]
      refine wpAny_pure (add_end (fun b u Z q => gave_way b u Z q) ho hex hd g1 nd1 m1 b1 ?_ ?_ ?_ fun h' sb r => ?_)
      · first | (split <;> first | exact ft1 | exact SetTable.fits_plain_off ft1) | exact ft1
      · first | (split <;> exact rs1) | exact rs1
      · first | (split <;> exact ldw) | exact ldw
      · dsimp only; exact wpAny_pure (fin h' sb r)
    · refine wpAny_bind (wpAny_pure ?_)
      simp only [↓reduceIte]
      exact add_end (fun b u Z q => gave_way b u Z q) ho hex hd g1 nd1 m1 b1 ft1 rs1 ldw fun h' sb r => by dsimp only; exact wpAny_pure (fin h' sb r)
/-- S.add(k) -/
theorem add_ok {k : Str} {tk : Tok} {Q : Value → Shared → Prop} (R : SetT w s.heap a ks n) (room : n + 1 < scanBound)
    (hQ : ∀ h' m, m ≤ n + 1 → Heap.SameBut a s.heap h' → SetT w h' a (fun j => ks j ∨ j = k) m → Q .none { s with heap := h', toks := s.toks + 1 }) : wpAny (model P w) A (call (.builtin "set.add") [.ref a, .str k tk]) Q E s := by
  have hT : s.TypeIs (.ref a) "set" := by
    obtain ⟨o, _, _, _, ⟨ho, hex, _⟩, _⟩ := R
    exact ⟨o, ho, hex.1⟩
  refine wpAny_call_entry F.slot_set_add hT F.entry_set_add ?_ (F.args_set_add_2 _ _)
  unfold Builtin.«set.add» Builtin.Frozenset.oneOther
  simp only [List.isEmpty_nil, bind_assoc]
  unfold Builtin.Frozenset.addrOf setAdd
  refine wpAny_bind (wpAny_pure ?_)
  try dsimp only
  refine wpAny_bind (wpAny_pure ?_)
  try dsimp only
  refine wpAny_bind (wpAny_holding (wpAny_bind (wpAny_pyHash_str ?_)))
  refine add_hashed (s := { s with toks := s.toks + 1 }) R room fun h' m b hm sb r => ?_
  show wpAny _ _ (ret Value.none) _ _ _
  exact wpAny_pure ⟨_, rfl, hQ h' m hm sb r⟩
theorem fresh {h : Heap} (w : World) : SetT w (h.push { cls := .type "set", dict := none, data := .set #[] 0 (.fresh 0 0 (!w.params.followText "set-order")) }) h.objs.size (fun _ => False) 0 := by
  refine ⟨_, #[], 0, _, ⟨Heap.get?_push_size _ rfl, ⟨rfl, rfl, rfl⟩, rfl⟩, fun e he => by simp at he, by simp, fun k => by simp, ⟨by decide, by rfl, rfl⟩, List.Pairwise.nil, ?_⟩
  cases e : w.params.followText "set-order"
  · exact .inr rfl
  · exact .inl rfl
end
end MhT
/-! set comprehensions of two clauses, of texts -/
namespace MhT
open PySem PySem.Spec PyProof.Rows L2
def SetTO (w : World) (a : Addr) (ks : Str → Prop) (n : Nat) : HO := .ext fun h => SetT w h a ks n
theorem to_new {w : World} {P : Program} {H : Hp} {h : Heap} {a : Addr} {ks : Str → Prop} {n : Nat} (R : SetT w h a ks n) : ObjOk P w H h a (SetTO w a ks n) :=
  ⟨R, let ⟨o, _, _, _, ⟨ho, _⟩, _⟩ := R; ⟨o, ho⟩, fun _ _ p k => SetT.at_ p k⟩
section
variable {X : Cx} {pins : List (Addr × Obj)} {σ : L2.St} {H : Hp} {s : Shared}
theorem to_get {a : Addr} {ks : Str → Prop} {n : Nat} (I : Inv X pins σ H s) (ha : H a = some (SetTO X.w a ks n)) : SetT X.w s.heap a ks n := (I.hok a _ ha).1
theorem to_add {E : Value → Shared → Prop} {D : Addr} {ks : Str → Prop} {n : Nat} {z : Str} {v : Value} {Q : Value → Shared → Prop} (I : Inv X pins σ H s) (hD : H D = some (SetTO X.w D ks n)) (room : n + 1 < scanBound) (r : RelV (.str z) v)
    (h : ∀ s' m, m ≤ n + 1 → Inv X pins σ (upd H D (SetTO X.w D (fun j => ks j ∨ j = z) m)) s' → Q .none s') : wpAny (model X.prog X.w) X.A (call (.builtin "set.add") [.ref D, v]) Q E s := by
  obtain ⟨t, rfl⟩ := r
  refine add_ok (to_get I hD) room fun h' m hm sb new => h _ m hm (I.write (e := D) (t' := s.toks + 1) (by rw [hD]; trivial) (.inl rfl) (fun b u hb hu => (sb.2 b hb).trans hu) ?_ (to_new new))
  obtain ⟨o, _, _, _, ⟨ho, _⟩, _⟩ := new
  exact ⟨o, ho⟩
end
section
variable {prog : Program} {w : World} {A : Around} {R : Result → Shared → Prop} {s : Shared} {elt t0 i0 t1 i1 : Expr} {c0 c1 : List Expr} {scope : Scope} {pos : Pos} {it acc : Value} {env : Env}
abbrev two (elt t0 i0 t1 i1 : Expr) (c0 c1 : List Expr) (scope : Scope) (pos : Pos) : Expr := .SetComp elt [⟨t0, i0, c0, 0⟩, ⟨t1, i1, c1, 0⟩] scope pos
/-- what is raised in the block goes on -/
abbrev up (prog : Program) (w : World) (A : Around) (env : Env) (R : Result → Shared → Prop) : Value → Shared → Prop := notedBy (model prog w) A env fun e s' => R (.error e) s'
abbrev tests (prog : Program) (env : Env) (cs : List Expr) : Sem Bool := forIn cs true fun c r => if r = true then do let ok ← isTrue c env (eval c env); pure (ForInStep.yield ok) else pure (ForInStep.yield r)
/-- a block's end: K -/
def okR (Kp : Shared → Prop) : Result → Shared → Prop
  | .ok _, u => Kp u
  | .error _, _ => False
theorem turn_out : compTurn (two elt t0 i0 t1 i1 c0 c1 scope pos) 0 it acc env = (do
      standAt i0.pos
      match ← pyNext it with
      | none => pure (.done .next)
      | some v =>
        letOwnedTupleGo t0 it v; assign t0 env v
        let mut ok := true
        for c in c0 do
          if ok then ok ← isTrue c env (eval c env)
        if ok then
          let x ← eval i1 env
          standAt i1.pos
          let x ← foldedSetIterable i1 env x
          let _ ← runOwn (.compStart (two elt t0 i0 t1 i1 c0 c1 scope pos) 1 (← holding [x] (pyIter x)) acc env) env
        again (.compLoop (two elt t0 i0 t1 i1 c0 c1 scope pos) 0 it acc env)) := by rfl
theorem turn_in : compTurn (two elt t0 i0 t1 i1 c0 c1 scope pos) 1 it acc env = (do
      standAt i1.pos
      match ← pyNext it with
      | none => pure (.done .next)
      | some v =>
        letOwnedTupleGo t1 it v; assign t1 env v
        let mut ok := true
        for c in c1 do
          if ok then ok ← isTrue c env (eval c env)
        if ok then
          (do let v ← eval elt env; standAt elt.pos; let _ ← call (.builtin "set.add") [acc, v])
        again (.compLoop (two elt t0 i0 t1 i1 c0 c1 scope pos) 1 it acc env)) := by rfl
theorem loop_out (hs : ∀ x, foldedSetIterable i1 env x = pure x) (I : Nat → Shared → Prop)
    (turn : ∀ n s, I n s → wpAny (model prog w) A (pyNext it) (fun r u => match r with
      | none => R (.ok .next) u
      | some v => wpAny (model prog w) A (letOwnedTupleGo t0 it v) (fun _ u => wpAny (model prog w) A (assign t0 env v) (fun _ u => wpAny (model prog w) A (tests prog env c0) (fun ok u =>
            if ok = true then wpAny (model prog w) A (eval i1 env) (fun x u => wpAny (model prog w) A (pyIter x) (fun it1 u =>
              codeAny (model prog w) A (.compStart (two elt t0 i0 t1 i1 c0 c1 scope pos) 1 it1 acc env) (okR fun u => ∃ m, m < n ∧ I m u) u) (up prog w A env R) u) (up prog w A env R) u
            else ∃ m, m < n ∧ I m u) (up prog w A env R) u) (up prog w A env R) u) (up prog w A env R) u) (up prog w A env R) s)
    (n : Nat) (h : I n s) : codeAny (model prog w) A (.compLoop (two elt t0 i0 t1 i1 c0 c1 scope pos) 0 it acc env) R s := by
  refine codeAny_loop rfl I (fun n s hI => ?_) n h
  show wpAny _ A ((compTurn (two elt t0 i0 t1 i1 c0 c1 scope pos) 0 it acc env).onRaise (fun x => do noteFrame x env; theTreesLotGoes x)) _ _ s
  refine wpAny_noted ?_
  rw [turn_out]
  refine wpAny_bind (wpAny_standAt (wpAny_bind (wpAny_mono (turn n s hI) (fun r u h1 => ?_) fun _ _ z => z)))
  cases r with
  | none => exact wpAny_pure h1
  | some v =>
    refine wpAny_bind (wpAny_mono h1 (fun _ u h2 => wpAny_bind (wpAny_mono h2 (fun _ u h3 => wpAny_bind (wpAny_mono h3 (fun ok u h4 => ?_) fun _ _ z => z)) fun _ _ z => z)) fun _ _ z => z)
    cases ok with
    | false => exact wpAny_pure ⟨rfl, h4⟩
    | true =>
      refine wpAny_bind (wpAny_mono h4 (fun x u h5 => wpAny_bind (wpAny_standAt (wpAny_bind (wpAny_of_eq (hs x) (wpAny_bind (wpAny_holding (wpAny_mono h5 (fun it1 u h6 => ?_) fun _ _ z => z))))))) fun _ _ z => z)
      refine wpAny_bind (wpAny_runOwn ?_)
      rw [Around.mark_none]
      refine codeAny_mono h6 fun r u hr => ?_
      cases r with
      | error e => exact (show False from hr).elim
      | ok f =>
        have hr : ∃ m, m < n ∧ I m u := hr
        first | exact wpAny_pure ⟨rfl, hr⟩ | exact wpAny_bind (wpAny_pure (wpAny_pure ⟨rfl, hr⟩))
theorem loop_in (I : Nat → Shared → Prop)
    (turn : ∀ n s, I n s → wpAny (model prog w) A (pyNext it) (fun r u => match r with
      | none => R (.ok .next) u
      | some v => wpAny (model prog w) A (letOwnedTupleGo t1 it v) (fun _ u => wpAny (model prog w) A (assign t1 env v) (fun _ u => wpAny (model prog w) A (tests prog env c1) (fun ok u =>
            if ok = true then wpAny (model prog w) A (eval elt env) (fun x u => wpAny (model prog w) A (call (.builtin "set.add") [acc, x]) (fun _ u => ∃ m, m < n ∧ I m u) (up prog w A env R) u) (up prog w A env R) u
            else ∃ m, m < n ∧ I m u) (up prog w A env R) u) (up prog w A env R) u) (up prog w A env R) u) (up prog w A env R) s)
    (n : Nat) (h : I n s) : codeAny (model prog w) A (.compLoop (two elt t0 i0 t1 i1 c0 c1 scope pos) 1 it acc env) R s := by
  refine codeAny_loop rfl I (fun n s hI => ?_) n h
  show wpAny _ A ((compTurn (two elt t0 i0 t1 i1 c0 c1 scope pos) 1 it acc env).onRaise (fun x => do noteFrame x env; theTreesLotGoes x)) _ _ s
  refine wpAny_noted ?_
  rw [turn_in]
  refine wpAny_bind (wpAny_standAt (wpAny_bind (wpAny_mono (turn n s hI) (fun r u h1 => ?_) fun _ _ z => z)))
  cases r with
  | none => exact wpAny_pure h1
  | some v =>
    refine wpAny_bind (wpAny_mono h1 (fun _ u h2 => wpAny_bind (wpAny_mono h2 (fun _ u h3 => wpAny_bind (wpAny_mono h3 (fun ok u h4 => ?_) fun _ _ z => z)) fun _ _ z => z)) fun _ _ z => z)
    cases ok with
    | false => exact wpAny_pure ⟨rfl, h4⟩
    | true => exact wpAny_bind (wpAny_bind (wpAny_mono h4 (fun x u h5 => wpAny_bind (wpAny_standAt (wpAny_bind (wpAny_mono h5 (fun _ u h6 => wpAny_pure (wpAny_pure ⟨rfl, h6⟩)) fun _ _ z => z)))) fun _ _ z => z))
theorem start_in (h0 : codeAny (model prog w) A (.compLoop (two elt t0 i0 t1 i1 c0 c1 scope pos) 1 it acc env) R s)
    (h : wpAny (model prog w) A (pyIter it) (fun it' u => codeAny (model prog w) A (.compLoop (two elt t0 i0 t1 i1 c0 c1 scope pos) 1 it' acc env) R u) (up prog w A env R) s) :
    codeAny (model prog w) A (.compStart (two elt t0 i0 t1 i1 c0 c1 scope pos) 1 it acc env) R s := by
  refine codeAny_of_tree ?_
  show wpAny _ _ ((compStart (two elt t0 i0 t1 i1 c0 c1 scope pos) 1 it acc env).onRaise (fun x => do noteFrame x env; standAt theWindowsPlace)) _ _ s
  refine wpAny_notedAt ?_
  unfold compStart
  show wpAny _ _ (ask >>= _) _ _ s
  refine wpAny_bind (wpAny_askSetting (wpAny_ite ?_))
  split
  · first | exact wpAny_bind (wpAny_pure (wpAny_pure (And.intro rfl h0))) | exact wpAny_pure (And.intro rfl h0)
  · refine wpAny_bind (wpAny_rule ?_)
    first
      | exact wpAny_bind (wpAny_standAt (wpAny_bind (wpAny_mono h (fun _ _ z => wpAny_pure (And.intro rfl z)) fun _ _ z => z)))
      | (show wpAny _ _ (standAt i1.pos >>= _) _ _ s; exact wpAny_bind (wpAny_standAt (wpAny_bind (wpAny_mono h (fun _ _ z => wpAny_pure (And.intro rfl z)) fun _ _ z => z))))
end
end MhT
namespace MhT
open PySem PySem.Spec PyProof.Rows L2
/-- may be walked in: nobody's -/
def Free (Z : Cx) (pins : List (Addr × Obj)) (fp : List Addr) : Prop := ∀ H' : Hp, (∀ b ∈ fp, H' b = none) → ∀ b ∈ fp, FpOk Z pins H' b
theorem free_of {Z : Cx} {pins : List (Addr × Obj)} {fp : List Addr} {H : Hp} (h : ∀ b ∈ fp, FpOk Z pins H b) : Free Z pins fp := fun _ n b hb => ⟨n b hb, (h b hb).2⟩
/-- ONE TURN of a walk in a block: stop, or a store, tests, then B or on (Kp) -/
theorem go_turn {Z : Cx} (hc : Z.calm = true) (hx : ∀ e s, ¬ Z.xe e s) {tg : Expr} {cs : List Expr} {J : It} {fp : List Addr} {it : Addr} {tn : Nat → Heap → Prop} {g : TG} {tt : TT} (T : Turn Z.prog Z.w Z.K tg J fp it tn) (pg : PG Z tg g) (pt : PTs Z cs tt)
    {pins : List (Addr × Obj)} {σw : L2.St} {i : Nat} {s5 : Shared} {H5 : Hp} (hf : Free Z pins fp) (I5 : Inv Z pins σw H5 s5) (st5 : tn i s5.heap) (n5 : ∀ b ∈ fp, H5 b = none)
    {Stop Nx : Hp → Prop} {C : L2.St → Hp → Prop} {Ok : L2.St → Prop}
    (h : (J.stop i H5 ∧ Stop H5) ∨ (J.go i H5 ∧ ∀ x H', J.yld i H5 x H' → g x σw H' fun σ2 H2 => Ok σ2 ∧ tt σ2 H2 fun b H3 => if b = true then C σ2 H3 else Nx H3))
    {R : Result → Shared → Prop} {Kp B : Shared → Prop} {er : Value → Shared → Prop}
    (hstop : ∀ u, Inv Z pins σw H5 u → Stop H5 → R (.ok .next) u)
    (hend : ∀ u σ' H', Inv Z pins σ' H' u → tn (i + 1) u.heap → (∀ b ∈ fp, H' b = none) → Ok σ' → Nx H' → Kp u)
    (hbody : ∀ pins' u σ' H', Inv Z pins' σ' H' u → (∀ u' σ' H', Inv Z pins' σ' H' u' → Inv Z pins σ' H' u' ∧ tn (i + 1) u'.heap ∧ ∀ b ∈ fp, H' b = none) → Ok σ' → C σ' H' → B u) :
    wpAny (model Z.prog Z.w) Z.A (pyNext (.ref it)) (fun r u => match r with
      | none => R (.ok .next) u
      | some v => wpAny (model Z.prog Z.w) Z.A (letOwnedTupleGo tg (.ref it) v) (fun _ u => wpAny (model Z.prog Z.w) Z.A (assign tg Z.env v) (fun _ u => wpAny (model Z.prog Z.w) Z.A (tests Z.prog Z.env cs) (fun ok u => if ok = true then B u else Kp u) er u) er u) er u) er s5 := by
  rcases h with ⟨stop, qs⟩ | ⟨go, step⟩
  · exact thnF (T.done Z rfl rfl rfl hc i pins s5 σw H5 (fun _ _ => False) I5 (hf H5 n5) st5 stop) fun r u ⟨hr, I6⟩ => by
      subst hr
      exact hstop u I6 qs
  · refine thnF (T.item Z rfl rfl rfl hc i pins s5 σw H5 (fun _ _ => False) I5 (hf H5 n5) st5 go) fun r u ⟨v, hr, h6⟩ => ?_
    subst hr
    refine thnF h6 fun _ u7 ⟨x, H7, I7, r7, y7, st7, n7⟩ => ?_
    have I7' := I7.pinned (hf H7 n7) (T.obj _ _ st7)
    have back : ∀ u' σ' H', Inv Z (pins ++ pinsAt fp u7.heap) σ' H' u' → Inv Z pins σ' H' u' ∧ tn (i + 1) u'.heap ∧ ∀ b ∈ fp, H' b = none := fun u' σ' H' I' => by
      have pin : ∀ b ∈ fp, ∀ o, u7.heap.get? b = some o → u'.heap.get? b = some o ∧ H' b = none := fun b hb o e =>
        let z := I'.pin (b, o) (List.mem_append_right _ (List.mem_append_right _ (mem_pinsAt hb e)))
        ⟨z.1, z.2.1⟩
      refine ⟨I'.unpinned, T.keep _ _ _ st7 fun b hb o e => (pin b hb o e).1, fun b hb => ?_⟩
      obtain ⟨o, e, _⟩ := T.obj _ _ st7 b hb
      exact (pin b hb o e).2
    refine wpAny_mono (pg.run _ u7 σw H7 x v _ I7' r7 (step x H7 y7)) (fun _ u8 ⟨σ8, H8, I8, ok8, q8⟩ => ?_) fun e s z => (hx e s z).elim
    refine wpAny_mono (pt.run _ u8 σ8 H8 _ I8 q8) (fun b u9 ⟨H9, I9, q9⟩ => ?_) fun e s z => (hx e s z).elim
    cases b with
    | true =>
      simp only [if_true] at q9 ⊢
      exact hbody _ u9 σ8 H9 I9 back ok8 q9
    | false =>
      simp only [Bool.false_eq_true, if_false] at q9 ⊢
      obtain ⟨b1, b2, b3⟩ := back u9 σ8 H9 I9
      exact hend u9 σ8 H9 b1 b2 b3 ok8 q9
/-- the second clause: from slots σ, the set at D is filled; Nx behind it -/
def tInn (w : World) (wi1 : TI) (g1 : TG) (tt1 : TT) (te : TE) (vs1 : List Nat) (D : Addr) (σ : L2.St) (H : Hp) (Nx : Hp → Prop) : Prop := wi1 σ H fun J H4 => ∃ W : Nat → Nat → Hp → Prop, (∃ m, W 0 m H4) ∧ ∀ j k H, W j k H →
  (J.stop j H ∧ Nx H) ∨ (J.go j H ∧ ∃ Nx1 : Hp → Prop, (∀ H', Nx1 H' → ∃ k', k' < k ∧ W (j + 1) k' H') ∧ ∀ x H', J.yld j H x H' → g1 x (wipe σ vs1) H' fun σ3 H5 => wipe σ3 vs1 = wipe σ vs1 ∧ tt1 σ3 H5 fun b H6 =>
    if b = true then te σ3 H6 fun y H7 => ∃ (z : Str) (ks : Str → Prop) (n : Nat), y = .str z ∧ H7 D = some (SetTO w D ks n) ∧ n + 1 < scanBound ∧ ∀ m, m ≤ n + 1 → Nx1 (upd H7 D (SetTO w D (fun j => ks j ∨ j = z) m)) else Nx1 H6)
def tSc2 (w : World) (wi : TI) (g : TG) (tt : TT) (inn : Addr → L2.St → Hp → (Hp → Prop) → Prop) (vs : List Nat) : TE := fun σ H Q => wi σ H fun J H1 => ∀ D, H1 D = none → ∃ W : Nat → Nat → Hp → Prop, (∃ m, W 0 m (upd H1 D (SetTO w D (fun _ => False) 0))) ∧ ∀ i m H, W i m H →
  (J.stop i H ∧ Q (.ref D) H) ∨ (J.go i H ∧ ∃ Nx : Hp → Prop, (∀ H', Nx H' → ∃ m', m' < m ∧ W (i + 1) m' H') ∧ ∀ x H', J.yld i H x H' → g x (wipe σ vs) H' fun σ2 H2 => wipe σ2 vs = wipe σ vs ∧ tt σ2 H2 fun b H3 => if b = true then inn D σ2 H3 Nx else Nx H3)
section
variable {elt tg iter tg1 iter1 : Expr} {ifs ifs1 : List Expr} {scope : Scope} {pos : Pos} {wi wi1 : TI} {g g1 : TG} {tt tt1 : TT} {te : TE} {vs1 : List Nat}
theorem inn_run {Z : Cx} (hc : Z.calm = true) (hx : ∀ e s, ¬ Z.xe e s) (pi1 : PI Z tg1 iter1 wi1) (pg1 : PG Z tg1 g1) (pt1 : PTs Z ifs1 tt1) (pe : PE Z elt te) {pins : List (Addr × Obj)} {σ : L2.St} {H : Hp} {s : Shared} {D : Addr} {Nx : Hp → Prop} (I : Inv Z pins σ H s)
    (h : tInn Z.w wi1 g1 tt1 te vs1 D σ H Nx) {Kp : Shared → Prop} {er : Value → Shared → Prop} (hk : ∀ u H', Inv Z pins (wipe σ vs1) H' u → Nx H' → Kp u) :
    wpAny (model Z.prog Z.w) Z.A (eval iter1 Z.env) (fun x u => wpAny (model Z.prog Z.w) Z.A (pyIter x) (fun it1 u => codeAny (model Z.prog Z.w) Z.A (.compStart (two elt tg iter tg1 iter1 ifs ifs1 scope pos) 1 it1 (.ref D) Z.env) (okR Kp) u) er u) er s := by
  refine wpAny_mono (pi1.run pins s σ H _ I h) (fun xv u hx' => wpAny_mono hx' (fun itv u2 h2 => ?_) fun e s z => (hx e s z).elim) fun e s z => (hx e s z).elim
  obtain ⟨it, fp, tn, J, H2, rfl, I2, T, st2, f2, W, ⟨m0, w0⟩, turn⟩ := h2
  have hf := free_of f2
  have loop : codeAny (model Z.prog Z.w) Z.A (.compLoop (two elt tg iter tg1 iter1 ifs ifs1 scope pos) 1 (.ref it) (.ref D) Z.env) (okR Kp) u2 := by
    refine loop_in (fun k u => ∃ j H', Inv Z pins (wipe σ vs1) H' u ∧ tn j u.heap ∧ (∀ b ∈ fp, H' b = none) ∧ W j k H') ?_ m0 ⟨0, H2, I2.weak (wipe_length _ _) (fun j v e => (wipe_some e).1), st2, fun b hb => (f2 b hb).1, w0⟩
    rintro k s3 ⟨j, H3, I3, st3, n3, w3⟩
    have on : ∀ {Nx1 : Hp → Prop}, (∀ H', Nx1 H' → ∃ k', k' < k ∧ W (j + 1) k' H') → ∀ u σ' H', Inv Z pins σ' H' u → tn (j + 1) u.heap → (∀ b ∈ fp, H' b = none) → wipe σ' vs1 = wipe σ vs1 → Nx1 H' → ∃ m, m < k ∧ ∃ j H', Inv Z pins (wipe σ vs1) H' u ∧ tn j u.heap ∧ (∀ b ∈ fp, H' b = none) ∧ W j m H' := by
      intro Nx1 hN u σ' H' I' t' n' ew nx
      obtain ⟨m', hm, w'⟩ := hN H' nx
      exact ⟨m', hm, j + 1, H', I'.weak (by rw [← ew, wipe_length]) (fun q v e => by rw [← ew] at e; exact (wipe_some e).1), t', n', w'⟩
    rcases turn j k H3 w3 with ⟨stop, nx⟩ | ⟨go, Nx1, hN, step⟩
    · exact go_turn hc hx T pg1 pt1 hf I3 st3 n3 (R := okR Kp) (Nx := fun _ => False) (C := fun _ _ => False) (Ok := fun _ => False) (.inl ⟨stop, nx⟩) (fun u I' q => hk u H3 I' q) (fun _ _ _ _ _ _ z _ => z.elim) (fun _ _ _ _ _ _ z _ => z.elim)
    · refine go_turn hc hx T pg1 pt1 hf I3 st3 n3 (R := okR Kp) (er := up Z.prog Z.w Z.A Z.env (okR Kp)) (B := fun u => wpAny (model Z.prog Z.w) Z.A (eval elt Z.env) (fun x u => wpAny (model Z.prog Z.w) Z.A (call (.builtin "set.add") [.ref D, x]) (fun _ u => ∃ m, m < k ∧ ∃ j H', Inv Z pins (wipe σ vs1) H' u ∧ tn j u.heap ∧ (∀ b ∈ fp, H' b = none) ∧ W j m H') (up Z.prog Z.w Z.A Z.env (okR Kp)) u) (up Z.prog Z.w Z.A Z.env (okR Kp)) u) (Stop := fun _ => False) (Nx := Nx1) (Ok := fun σ3 => wipe σ3 vs1 = wipe σ vs1) (.inr ⟨go, step⟩) (fun _ _ z => z.elim) (on hN) fun pins' u σ' H' I' back ew q => ?_
      refine wpAny_mono (pe.run pins' u σ' H' _ I' q) (fun v u2 ⟨y, H4, I4, r4, z, ks, n, ey, hD, hz, nx⟩ => ?_) fun e s z => (hx e s z).elim
      subst ey
      exact to_add I4 hD hz r4 fun u3 m hm I5 => by
        obtain ⟨b1, b2, b3⟩ := back u3 _ _ I5
        exact on hN u3 _ _ b1 b2 b3 ew (nx m hm)
  exact start_in loop (T.self Z.A 0 _ _ _ st2 loop)
theorem pe_sc2 {X : Cx} {own : List (Str × Nat)} {inn : Addr → L2.St → Hp → (Hp → Prop) → Prop} (hc : X.calm = true) (hN : X.N.Nodup) (hi : PI X tg iter wi) (ok : BlkOk X.N X.env.scope scope own) (hv : ∀ i ∈ vs1, i ∈ own.map (·.2))
    (hinn : inn = tInn X.w wi1 g1 tt1 te vs1)
    (hb : ∀ (s : Shared) (H : Hp) (C : Addr) (cl : List (Str × Addr)) (fp : List Addr), let Z := X.blk s H scope (compEnvC scope cl C X.env) fp; PG Z tg g ∧ PTs Z ifs tt ∧ PI Z tg1 iter1 wi1 ∧ PG Z tg1 g1 ∧ PTs Z ifs1 tt1 ∧ PE Z elt te)
    (hs : ∀ x, foldedSetIterable iter X.env x = pure x := by intro _; rfl) (hs1 : ∀ env x, foldedSetIterable iter1 env x = pure x := by intro _ _; rfl) :
    PE X (two elt tg iter tg1 iter1 ifs ifs1 scope pos) (tSc2 X.w wi g tt inn (own.map (·.2))) := by
  subst hinn
  refine ⟨fun pins s σ H Q I h => ?_⟩
  have hfree : ∀ y ∈ scope.names, y.2 = .free → ∃ c, X.env.cells.lookup y.1 = some c := fun y hy e => (ok.free y hy e).elim (fun k => I.ok.has _ (.inl k)) fun k => I.ok.has _ (.inr k)
  show wpAny (model X.prog X.w) X.A (comprehension (two elt tg iter tg1 iter1 ifs ifs1 scope pos) scope X.env _ (newSet (.type "set")) false (eval iter X.env)) _ _ s
  refine wpAny_comprehension_free (use := none) rfl hs (closure_ok hfree) ok.kind (fun y hy e => by rw [ok.uniq y hy, e]) (thn (hi.run pins s σ H _ I h) fun xv s1 hx => thn hx fun itv s2 h2 => ?_)
  obtain ⟨it, fp, tn, J, H2, rfl, I2, T, st2, f2, q⟩ := h2
  refine PpSet.newSet_ok (newEnv_comp ?_)
  obtain ⟨D, hD⟩ : ∃ D, D = s2.heap.objs.size := ⟨_, rfl⟩
  rw [← hD]
  obtain ⟨W, ⟨m0, w0⟩, turn⟩ := q D (I2.hok.fresh (Nat.le_of_eq hD.symm))
  obtain ⟨s3, hs3⟩ : ∃ z : Shared, z = { s2 with heap := s2.heap.push { cls := .type "set", dict := none, data := .set #[] 0 (.fresh 0 0 (!X.w.params.followText "set-order")) } } := ⟨_, rfl⟩
  obtain ⟨H3, hH3⟩ : ∃ z, z = upd H2 D (SetTO X.w D (fun _ => False) 0) := ⟨_, rfl⟩
  rw [← hs3]
  rw [← hH3] at w0
  have I3 : Inv X pins σ H3 s3 := by
    rw [hH3, hs3, hD]
    exact I2.laid (t' := s2.toks) (fun b o e => Heap.get?_push_of_some _ e) (Nat.le_refl _) (to_new (fresh X.w))
  have old : ∀ b o, s2.heap.get? b = some o → s3.heap.get? b = some o := fun b o e => by rw [hs3]; exact Heap.get?_push_of_some _ e
  have f3 : ∀ b ∈ fp, FpOk X pins H3 b ∧ b < s3.heap.objs.size := fun b hb => by
    obtain ⟨o, e, _⟩ := T.obj _ _ st2 b hb
    have lt := Heap.lt_size e
    refine ⟨⟨?_, (f2 b hb).2⟩, Heap.lt_size (old b o e)⟩
    rw [hH3, upd_ne (by rw [hD]; exact Nat.ne_of_lt lt)]
    exact (f2 b hb).1
  have I4 := block_start I3 ok hN f3
  obtain ⟨pg, pt, pi1, pg1, pt1, pe⟩ := hb s3 H3 s3.heap.objs.size (cellsFrom (s3.heap.objs.size + 1) scope.names (cloFrom X.env.cells scope.names [])) fp
  obtain ⟨ce, hce⟩ : ∃ z, z = compEnvC scope (cellsFrom (s3.heap.objs.size + 1) scope.names (cloFrom X.env.cells scope.names [])) s3.heap.objs.size X.env := ⟨_, rfl⟩
  obtain ⟨s4, hs4⟩ : ∃ z : Shared, z = { s3 with heap := pushCells (s3.heap.push { cls := .type "dict", data := .dict #[] }) scope.names } := ⟨_, rfl⟩
  show codeAny _ _ (.compStart (two elt tg iter tg1 iter1 ifs ifs1 scope pos) 0 (.ref it) (.ref D) (compEnvC scope (cellsFrom (s3.heap.objs.size + 1) scope.names (cloFrom X.env.cells scope.names [])) s3.heap.objs.size X.env)) (compPost (model X.prog X.w) X.A X.xe none _ (.ref D) s3.heap.objs.size) { s3 with heap := pushCells (s3.heap.push { cls := .type "dict", data := .dict #[] }) scope.names }
  rw [← hce, ← hs4]
  rw [← hce] at I4 pg pt pi1 pg1 pt1 pe
  rw [← hs4] at I4
  have cL : ce.locals = s3.heap.objs.size := by rw [hce]; rfl
  have st4 : tn 0 s4.heap := T.keep _ _ _ (T.keep _ _ _ st2 fun b _ o e => old b o e) fun b _ o e => by rw [hs4]; exact pushCells_keeps _ _ _ _ (Heap.get?_push_of_some _ e)
  have hf : Free (X.blk s3 H3 scope ce fp) [] fp := fun H' n b hb =>
    ⟨n b hb, (I4.ok.exf b hb).1, I4.ok.exfs b hb, .inl hb, fun x c e => (I4.ok.exf b hb).2 x c e, fun p hp => absurd (show p ∈ ([] : List (Addr × Obj)) ++ [] from hp) (by simp)⟩
  have T' : Turn (X.blk s3 H3 scope ce fp).prog (X.blk s3 H3 scope ce fp).w (X.blk s3 H3 scope ce fp).K tg J fp it tn := T
  have loop : codeAny (model X.prog X.w) X.A (.compLoop (two elt tg iter tg1 iter1 ifs ifs1 scope pos) 0 (.ref it) (.ref D) ce) (compPost (model X.prog X.w) X.A X.xe none (EP X pins σ Q) (.ref D) s3.heap.objs.size) s4 := by
    refine loop_out (hs1 ce) (fun n u => ∃ i H', Inv (X.blk s3 H3 scope ce fp) [] (wipe σ (own.map (·.2))) H' u ∧ tn i u.heap ∧ (∀ b ∈ fp, H' b = none) ∧ W i n H') ?_ m0 ⟨0, H3, I4, st4, fun b hb => (f3 b hb).1.1, w0⟩
    rintro n s5 ⟨i, H5, I5, st5, n5, w5⟩
    have on : ∀ {Nx : Hp → Prop}, (∀ H', Nx H' → ∃ m', m' < n ∧ W (i + 1) m' H') → ∀ u σ' H', Inv (X.blk s3 H3 scope ce fp) [] σ' H' u → tn (i + 1) u.heap → (∀ b ∈ fp, H' b = none) → (wipe σ (own.map (·.2))).length = σ'.length → (∀ (j : Nat) v, (wipe σ (own.map (·.2)))[j]? = some (some v) → σ'[j]? = some (some v)) → Nx H' →
        ∃ m, m < n ∧ ∃ i H', Inv (X.blk s3 H3 scope ce fp) [] (wipe σ (own.map (·.2))) H' u ∧ tn i u.heap ∧ (∀ b ∈ fp, H' b = none) ∧ W i m H' := by
      intro Nx hN u σ' H' I' t' n' hl hk nx
      obtain ⟨m', hm, w'⟩ := hN H' nx
      exact ⟨m', hm, i + 1, H', I'.weak hl hk, t', n', w'⟩
    rcases turn i n H5 w5 with ⟨stop, qq⟩ | ⟨go, Nx, hNx, step⟩
    · refine go_turn (Z := X.blk s3 H3 scope ce fp) hc (fun _ _ z => z) T' pg pt hf I5 st5 n5 (Nx := fun _ => False) (C := fun _ _ => False) (Ok := fun _ => False) (.inl ⟨stop, qq⟩) (fun s6 I6 qq => ?_) (fun _ _ _ _ _ _ z _ => z.elim) (fun _ _ _ _ _ _ z _ => z.elim)
      have I7 : Inv X pins σ H5 s6 := I3.call' (ch := fp) I6.os I6.base I6.hok I6.bare fun b hb => ⟨(f3 b hb).1.2.2.2.1, (f3 b hb).1.2.1, (f3 b hb).1.2.2.2.2.1, (f3 b hb).1.2.2.2.2.2⟩
      have nC : H5 s3.heap.objs.size = none := by
        have z : H5 ce.locals = none := I6.free
        rw [cL] at z
        exact z
      obtain ⟨m, hn, _⟩ := I6.loc
      have hn : s6.heap.Ns ce.locals m := hn
      rw [cL] at hn
      refine ⟨m, hn, fun h'' sb => ?_⟩
      obtain ⟨k0, k1, k2, k3, k4, k5⟩ := I3.fpOk (Nat.le_refl _) nC
      exact ⟨.ref D, H5, I7.turned (t' := s6.toks) (fun b o hb e => (sb.2 b hb).trans e) k0 k1 k3 k4 k5, rfl, qq⟩
    · refine go_turn (Z := X.blk s3 H3 scope ce fp) hc (fun _ _ z => z) T' pg pt hf I5 st5 n5 (Stop := fun _ => False) (Nx := Nx) (Ok := fun σ2 => wipe σ2 (own.map (·.2)) = wipe σ (own.map (·.2))) (.inr ⟨go, step⟩) (fun _ _ z => z.elim)
        (fun u σ' H' I' t' n' ew nx => on hNx u σ' H' I' t' n' (by rw [← ew, wipe_length]) (fun j v e => by rw [← ew] at e; exact (wipe_some e).1) nx) fun pins' u σ' H' I' back ew qi => ?_
      exact inn_run (Z := X.blk s3 H3 scope ce fp) hc (fun _ _ z => z) pi1 pg1 pt1 pe I' qi fun u' H'' I'' nx => by
        obtain ⟨b1, b2, b3⟩ := back u' _ _ I''
        refine on hNx u' _ H'' b1 b2 b3 (by rw [← ew, wipe_length, wipe_length]) (fun j v e => ?_) nx
        rw [← ew] at e
        obtain ⟨e1, e2⟩ := wipe_some e
        rw [wipe_out fun z => e2 (hv j z)]
        exact e1
  exact PpSet.codeAny_compStart_set loop (T.self X.A 0 _ _ _ st4 loop)
end
end MhT
namespace MhT
open PySem PySem.Spec PyProof.Rows L2
theorem strs_vals : ∀ l : List Value, (∀ v ∈ l, ∃ k t, v = .str k t) → ∃ ys, StrsAre l ys
  | [], _ => ⟨[], .nil⟩
  | v :: l, h => by
    obtain ⟨k, t, rfl⟩ := h v List.mem_cons_self
    obtain ⟨ys, q⟩ := strs_vals l fun u hu => h u (List.mem_cons_of_mem _ hu)
    exact ⟨k :: ys, .cons k t q⟩
theorem strs_map {es : List (Int × Value)} {l : List Value} {ys : List Str} (q : StrsAre l ys) (e : l = es.map (·.2)) : ys = es.map kt := by
  induction q generalizing es with
  | nil => cases es with | nil => rfl | cons => cases e
  | cons k t q ih =>
    cases es with
    | nil => cases e
    | cons e0 es =>
      simp only [List.map_cons, List.cons.injEq] at e ⊢
      refine ⟨?_, ih e.2⟩
      unfold kt; rw [← e.1]
theorem strs_perm {l m : List Value} (p : l.Perm m) : ∀ {xs : List Str}, StrsAre l xs → ∃ ys, StrsAre m ys ∧ xs.Perm ys := by
  induction p with
  | nil => intro xs h; exact ⟨xs, h, .refl _⟩
  | cons v p ih =>
    intro xs h
    cases h with
    | cons k t h =>
      obtain ⟨ys, h1, h2⟩ := ih h
      exact ⟨k :: ys, .cons k t h1, h2.cons k⟩
  | swap a b l =>
    intro xs h
    cases h with
    | cons k t h =>
      cases h with
      | cons k2 t2 h => exact ⟨k2 :: k :: _, .cons k2 t2 (.cons k t h), .swap _ _ _⟩
  | trans p q i1 i2 =>
    intro xs h
    obtain ⟨ys, h1, h2⟩ := i1 h
    obtain ⟨zs, h3, h4⟩ := i2 h1
    exact ⟨zs, h3, h2.trans h4⟩
/-- sorted(a set of texts), fewer than 64 -/
theorem sort_ok {P : Program} {w : World} {A : Around} {E : Value → Shared → Prop} {s : Shared} {a : Addr} {ks : Str → Prop} {n : Nat} {Q : Value → Shared → Prop} (R : SetT w s.heap a ks n) (hh : A.handled = none) (h64 : n < 64)
    (hQ : ∀ s' p (out : Array Value) (c : Nat) (ys : List Str), (∀ b o, s.heap.get? b = some o → s'.heap.get? b = some o) → s'.gens = s.gens → s'.os = s.os → s.heap.objs.size ≤ p →
      s'.heap.get? p = some (seqObj "list" out c) → StrsAre out.toList ys → sortedS ys = true → ys.Nodup → (∀ k, k ∈ ys ↔ ks k) → ys.length = n → Q (.ref p) s') : wpAny (model P w) A (call (.builtin "sorted") [.ref a]) Q E s := by
  obtain ⟨o, es, ep, t, ⟨ho, hex, hd⟩, g, nd, hm, ⟨hb, hf, hn⟩, hr, hl⟩ := R
  refine Calls.call_function_entry kind_sorted plain_sorted entry_sorted (args_sorted1 _) ?_
  unfold Builtin.«sorted»
  refine wpAny_bind (m := checkCount "sorted" 1 1 _) (wpAny_pure (wpAny_bind (collect_set (A := A.in1) hh ⟨o, ho, hex.1, hd⟩ hf hb hr hl fun u vs k1 hz g1 o1 pm => ?_)))
  have vl : vs.length = n := by rw [pm.length_eq, List.length_map, Array.length_toList]; exact hn
  obtain ⟨es0, hS0⟩ := strs_vals (es.toList.map (·.2)) fun v hv => by
    obtain ⟨e, he, rfl⟩ := List.mem_map.mp hv
    obtain ⟨⟨t, q⟩, _⟩ := g e he
    exact ⟨_, t, q⟩
  have e0 : es0 = es.toList.map kt := strs_map hS0 rfl
  obtain ⟨xs, hS, px⟩ := strs_perm pm.symm hS0
  refine wpAny_bind (wpAny_newList ?_ (by rw [vl, sizeLine_eq]; omega))
  have hoL : (u.heap.push (seqObj "list" vs.toArray 0)).get? u.heap.objs.size = some (seqObj "list" vs.toArray 0) := Heap.get?_push_size _ rfl
  refine wpAny_bind (wpAny_holding (wpAny_call_entry slot_list_sort ⟨_, hoL, rfl⟩ entry_list_sort (list_sort_treeK strKind_oneLt hoL hS.keysOf (fun v1 v2 rest e => keyKind_strs (by rw [← e]; exact hS)) (by rw [vl]; exact h64) fun st' hp hs => ⟨_, rfl, ?_⟩) (args_list_sort _)))
  obtain ⟨ys, q1, q2, q3⟩ := sorted_out_str hS hp hs
  obtain ⟨c, hc⟩ := sortedHeap_at (vs := vs) (out := (arrOf st').map (·.2)) hoL
  have pn : ys.Perm (es.toList.map kt) := q2.trans (px.symm.trans (by rw [e0]))
  refine wpAny_pure ⟨_, rfl, hQ _ u.heap.objs.size ((arrOf st').map (·.2)) c ys (fun b v e => ?_) g1 o1 hz hc q1 q3 (pn.nodup_iff.mpr nd) (fun k => by rw [pn.mem_iff, ← hm k]) ?_⟩
  · have q := k1 b v e
    have lt := Heap.lt_size q
    show (sortedHeap (u.heap.push (seqObj "list" vs.toArray 0)) u.heap.objs.size vs ((arrOf st').map (·.2))).get? b = some v
    rw [sortedHeap_old (Nat.ne_of_lt lt) (by rw [size_push']; exact Nat.lt_succ_of_lt lt)]
    exact Heap.get?_push_of_some _ q
  · rw [pn.length_eq, List.length_map, Array.length_toList]; exact hn
def rSortT (w : World) : List V → Hp → VK → Prop := fun vs H Q => ∃ (a : Addr) (ks : Str → Prop) (n : Nat), vs = [V.ref a] ∧ H a = some (SetTO w a ks n) ∧ n < 64 ∧
  ∀ (ys : List Str) (p : Addr), sortedS ys = true → ys.Nodup → (∀ k, k ∈ ys ↔ ks k) → H p = none → Q (.ref p) (upd H p (.lst (ys.map V.str)))
theorem cr_sortT {X : Cx} (hc : X.calm = true) : CallR X (.builtin "sorted") (rSortT X.w) := by
  intro pins s σ H vs us Q I r h
  obtain ⟨a, ks, n, rfl, ha, h64, q⟩ := h
  rw [Vals.ref1 r]
  refine sort_ok (to_get I ha) (I.ok.hd hc) h64 fun u p out c ys k g o hp hg hi hs hnd hm hl => ?_
  have hn : H p = none := I.hok.fresh hp
  have hz : (ys.map V.str).length ≤ sizeLine := by rw [List.length_map, hl, sizeLine_eq]; omega
  have J : Inv X pins σ (upd H p (.lst (ys.map V.str))) { s with heap := u.heap, gens := u.gens, drawn := u.drawn, toks := u.toks } :=
    I.call (ch := []) (Un.laid k hp hn) (I.hok.laid k hp ⟨hz, out.toList, c, vals_of_strs hi, hg⟩) (by rw [g]; exact I.bare) fun _ z => nomatch z
  have e : u = { s with heap := u.heap, gens := u.gens, drawn := u.drawn, toks := u.toks } := by
    cases u; cases s; cases o; rfl
  rw [e]
  exact ⟨.ref p, _, J, rfl, q ys p hs hnd hm hn⟩
end MhT
/-! comprehensions of two clauses: lists; sorted sets of texts -/
namespace Mh
open PySem L2
def lc2F (tg : GF) (tt : TF) (it1 : IF) (tg1 : GF) (tt1 : TF) (te : EF) (vs vs1 : List Nat) : List D → En → List D → Option (List D × En)
  | [], ms, acc => some (acc, ms)
  | d :: ds, ms, acc => (tg (.p d) ms).bind fun m1 => (tt m1).bind fun b => if b.1 = true then (it1 b.2).bind fun l => (lcF tg1 tt1 te vs1 l.1 (wpM l.2 vs1) acc).bind fun r => lc2F tg tt it1 tg1 tt1 te vs vs1 ds (wpM r.2 vs) r.1
    else lc2F tg tt it1 tg1 tt1 te vs vs1 ds (wpM b.2 vs) acc
theorem lcF_pre {tg : GF} {tt : TF} {te : EF} {vs : List Nat} : ∀ {ds : List D} {ms : En} {acc : List D} {r : List D × En}, lcF tg tt te vs ds ms acc = some r → ∃ more, r.1 = acc ++ more
  | [], ms, acc, r, h => by cases h; exact ⟨[], by simp⟩
  | d :: ds, ms, acc, r, h => by
    unfold lcF at h
    obtain ⟨m1, _, h⟩ := Option.bind_eq_some_iff.mp h
    obtain ⟨b, _, h⟩ := Option.bind_eq_some_iff.mp h
    split at h
    · obtain ⟨y, _, h⟩ := Option.bind_eq_some_iff.mp h
      split at h
      · obtain ⟨more, e⟩ := lcF_pre h
        exact ⟨frz y.1 :: more, by rw [e]; simp⟩
      · cases h
    · exact lcF_pre h
theorem lc2F_pre {tg : GF} {tt : TF} {it1 : IF} {tg1 : GF} {tt1 : TF} {te : EF} {vs vs1 : List Nat} : ∀ {ds : List D} {ms : En} {acc : List D} {r : List D × En}, lc2F tg tt it1 tg1 tt1 te vs vs1 ds ms acc = some r → ∃ more, r.1 = acc ++ more
  | [], ms, acc, r, h => by cases h; exact ⟨[], by simp⟩
  | d :: ds, ms, acc, r, h => by
    unfold lc2F at h
    obtain ⟨m1, _, h⟩ := Option.bind_eq_some_iff.mp h
    obtain ⟨b, _, h⟩ := Option.bind_eq_some_iff.mp h
    split at h
    · obtain ⟨l, _, h⟩ := Option.bind_eq_some_iff.mp h
      obtain ⟨r1, e1, h⟩ := Option.bind_eq_some_iff.mp h
      obtain ⟨m, e⟩ := lcF_pre e1
      obtain ⟨m', e'⟩ := lc2F_pre h
      exact ⟨m ++ m', by rw [e', e, List.append_assoc]⟩
    · exact lc2F_pre h
/-- sorted, each once -/
def leS (a b : Str) : Bool := decide (a.cps.toList ≤ b.cps.toList)
def sortU (xs : List Str) : List Str := xs.eraseDups.mergeSort leS
theorem sorted_pair : ∀ {ys : List Str}, PyProof.Rows.sortedS ys = true → ys.Pairwise fun a b => leS a b = true
  | [], _ => List.Pairwise.nil
  | x :: ys, h => by
    have tr : ∀ (p : Str) (l : List Str), PyProof.Rows.risingS p l = true → (p :: l).Pairwise fun a b => leS a b = true := by
      intro p l
      induction l generalizing p with
      | nil => intro _; exact List.pairwise_singleton _ _
      | cons q l ih =>
        intro h
        have h2 : (!PySem.Spec.ltCps q.cps.toList p.cps.toList && PyProof.Rows.risingS q l) = true := h
        obtain ⟨h3, h4⟩ := Bool.and_eq_true_iff.mp h2
        have iq := ih q h4
        have hpq : leS p q = true := by
          unfold leS
          rw [decide_eq_true_eq]
          rw [PyProof.Rows.ltCps_eq] at h3
          exact List.not_lt.mp (by simpa using h3)
        refine List.pairwise_cons.mpr ⟨fun y hy => ?_, iq⟩
        rcases List.mem_cons.mp hy with rfl | hy
        · exact hpq
        · have hqy := (List.pairwise_cons.mp iq).1 y hy
          unfold leS at hpq hqy ⊢
          rw [decide_eq_true_eq] at hpq hqy ⊢
          exact List.le_trans hpq hqy
    exact tr x ys h
theorem leS_tr (a b c : Str) : leS a b = true → leS b c = true → leS a c = true := fun h1 h2 => by
  unfold leS at *
  rw [decide_eq_true_eq] at *
  exact List.le_trans h1 h2
theorem leS_to (a b : Str) : (leS a b || leS b a) = true := by
  unfold leS
  rw [Bool.or_eq_true, decide_eq_true_eq, decide_eq_true_eq]
  exact List.le_total _ _
theorem leS_an (a b : Str) : leS a b = true → leS b a = true → a = b := fun h1 h2 => by
  unfold leS at *
  rw [decide_eq_true_eq] at *
  exact TL.ext_tl (List.le_antisymm h1 h2)
theorem eraseDups_nd : ∀ (n : Nat) (l : List Str), l.length ≤ n → l.eraseDups.Nodup ∧ ∀ x, x ∈ l.eraseDups ↔ x ∈ l
  | n, [], _ => by simp
  | 0, x :: l, h => by simp at h
  | n + 1, x :: l, h => by
    rw [List.eraseDups_cons]
    have hl : (l.filter fun b => !b == x).length ≤ n := Nat.le_trans (List.length_filter_le _ _) (by simpa using h)
    obtain ⟨h1, h2⟩ := eraseDups_nd n _ hl
    refine ⟨List.nodup_cons.mpr ⟨fun hm => ?_, h1⟩, fun y => ?_⟩
    · have := (h2 x).mp hm
      simp at this
    · rw [List.mem_cons, h2, List.mem_filter, List.mem_cons]
      by_cases e : y = x
      · simp [e]
      · simp [e]
theorem sortU_nd (xs : List Str) : (sortU xs).Nodup := (List.mergeSort_perm _ _).nodup_iff.mpr (eraseDups_nd _ xs (Nat.le_refl _)).1
theorem sortU_mem (xs : List Str) (x : Str) : x ∈ sortU xs ↔ x ∈ xs := ((List.mergeSort_perm _ _).mem_iff).trans ((eraseDups_nd _ xs (Nat.le_refl _)).2 x)
theorem sortU_pw (xs : List Str) : (sortU xs).Pairwise fun a b => leS a b = true := List.pairwise_mergeSort leS_tr leS_to _
theorem perm_of_mem {xs ys : List Str} (h1 : xs.Nodup) (h2 : ys.Nodup) (h : ∀ x, x ∈ xs ↔ x ∈ ys) : xs.Perm ys := (List.perm_ext_iff_of_nodup h1 h2).mpr h
theorem sortU_is {xs ys : List Str} (hs : PyProof.Rows.sortedS ys = true) (hn : ys.Nodup) (hm : ∀ k, k ∈ ys ↔ k ∈ xs) : ys = sortU xs :=
  List.Perm.eq_of_pairwise (fun a b _ _ => leS_an a b) (sorted_pair hs) (sortU_pw xs) (perm_of_mem hn (sortU_nd xs) fun x => by rw [hm, sortU_mem])
def xLc2 (it : IF) (tg : GF) (tt : TF) (it1 : IF) (tg1 : GF) (tt1 : TF) (te : EF) (vs vs1 : List Nat) : EF := fun ms => (it ms).bind fun l => (lc2F tg tt it1 tg1 tt1 te vs vs1 l.1 (wpM l.2 vs) []).bind fun r => some (.l r.1, r.2)
def xSs2 (it : IF) (tg : GF) (tt : TF) (it1 : IF) (tg1 : GF) (tt1 : TF) (te : EF) (vs vs1 : List Nat) : EF := fun ms => (it ms).bind fun l => (lc2F tg tt it1 tg1 tt1 te vs vs1 l.1 (wpM l.2 vs) []).bind fun r => (strsD r.1).bind fun xs =>
  if xs.length < 64 then some (.l ((sortU xs).map .str), r.2) else none
/-! ### an object that nothing asks, written -/
structure Loo (Y : Tx) (E : Ent) (A : Addr) (o : HO) (T : List (V × M)) (σ : St) (ms : En) (H : Hp) : Prop where
  len : ms.length = σ.length
  cov : ∀ (i : Nat) (m : M), ms[i]? = some (some m) → ∃ v, σ[i]? = some (some v)
  prot : ∀ iv ∈ E.prot, σ[iv.1]? = some (some iv.2)
  rel : ∃ B fp, RelB Y E B fp (T ++ prs σ ms) H ∧ B A = none ∧ A ∉ fp ∧ E.H A = none
  at_ : H A = some o
section
variable {Y : Tx} {E : Ent} {A : Addr} {o : HO} {T : List (V × M)} {σ : St} {ms : En} {H : Hp}
theorem Loo.new (s : Stt Y E T σ ms H) (hA : H A = none) : Loo Y E A o T σ ms (upd H A o) := by
  obtain ⟨B, fp, r⟩ := s.rel
  exact ⟨s.len, s.cov, s.prot, ⟨B, fp, r.alloc hA, r.bnone hA, r.ne hA, r.grow.live A hA⟩, upd_same⟩
theorem Loo.stt (l : Loo Y E A o T σ ms H) : Stt Y E T σ ms H := by
  obtain ⟨B, fp, r, _⟩ := l.rel
  exact ⟨l.len, l.cov, r.rel, l.prot⟩
theorem Loo.run (l : Loo Y E A o T σ ms H) : ∃ E' : Ent, E'.prot = E.prot ∧ Stt Y E' T σ ms H ∧ ∀ {T' : List (V × M)} {σ' : St} {ms' : En} {H' : Hp}, Stt Y E' T' σ' ms' H' → Loo Y E A o T' σ' ms' H' := by
  obtain ⟨B, fp, r, b0, n0, h0⟩ := l.rel
  refine ⟨⟨B, H, fp, E.prot⟩, rfl, ⟨l.len, l.cov, ⟨B, fp, Grow.refl r.grow.sub, r.sep, r.nd, fun a ha => ⟨(r.own a ha).1, .inr ha⟩⟩, l.prot⟩, fun {T' σ' ms' H'} s => ?_⟩
  obtain ⟨B', fp', g, sp, nd, ow⟩ := s.rel
  have hA : H A ≠ none := by rw [l.at_]; exact fun z => nomatch z
  have nA : A ∉ fp' := fun z => (ow A z).2.elim hA n0
  have bA : B' A = none := g.new A hA n0 b0
  refine ⟨s.len, s.cov, s.prot, ⟨B', fp', ⟨r.grow.trans g fun x hx => (r.own x hx).2, sp, nd, fun a ha => ⟨(ow a ha).1, ?_⟩⟩, bA, nA, h0⟩, ?_⟩
  · rcases (ow a ha).2 with q | q
    · exact .inl (r.grow.live a q)
    · exact (r.own a q).2
  · rcases g.keep A o l.at_ n0 with q | ⟨_, q, _⟩
    · exact q
    · have q : B A = some o := q
      rw [b0] at q; cases q
theorem Loo.upd {o' : HO} (l : Loo Y E A o T σ ms H) : Loo Y E A o' T σ ms (L2.upd H A o') := by
  obtain ⟨B, fp, r, b0, n0, h0⟩ := l.rel
  have ne : ∀ a, a ∈ fp → a ≠ A := fun a ha z => n0 (z ▸ ha)
  refine ⟨l.len, l.cov, l.prot, ⟨B, fp, ⟨⟨r.grow.exB, r.grow.sub.mut b0, fun a u e n => ?_, r.grow.new, fun a e => ?_⟩, r.sep.mono (Le.refl _) fun a ha => upd_ne (ne a ha), r.nd, r.own⟩, b0, n0, h0⟩, upd_same⟩
  · have hn : a ≠ A := fun z => by rw [z, h0] at e; cases e
    rw [upd_ne hn]
    exact r.grow.keep a u e n
  · by_cases q : a = A
    · subst q; exact h0
    · rw [upd_ne q] at e; exact r.grow.live a e
theorem Loo.pops {U : List (V × M)} (l : Loo Y E A o (U ++ T) σ ms H) : Loo Y E A o T σ ms H := by
  obtain ⟨E', _, s, back⟩ := l.run
  have : ∀ U : List (V × M), Stt Y E' (U ++ T) σ ms H → Stt Y E' T σ ms H := by
    intro U
    induction U with
    | nil => exact fun s => s
    | cons u U ih => exact fun s => ih s.pop
  exact back (this U s)
theorem Loo.toWipe {vs : List Nat} (l : Loo Y E A o T σ ms H) (hv : ∀ v ∈ vs, v ∉ E.prot.map (·.1)) : Loo Y E A o T (wipe σ vs) (wpM ms vs) H := by
  obtain ⟨E', hp, s, back⟩ := l.run
  exact back (s.toWipe (by rw [hp]; exact hv))
end
/-! ### judgements at some entry -/
def anyE (Y : Tx) (P : List Nat) (f : EF) : TE := fun σ H Q => ∃ E : Ent, E.prot.map (·.1) = P ∧ tE Y E f σ H Q
def anyT (Y : Tx) (P : List Nat) (f : TF) : TT := fun σ H Q => ∃ E : Ent, E.prot.map (·.1) = P ∧ tT Y E f σ H Q
def anyG (Y : Tx) (P : List Nat) (W : List Nat) (f : GF) : TG := fun v σ H Q => ∃ E : Ent, E.prot.map (·.1) = P ∧ tG Y E W f v σ H Q
def anyI (Y : Tx) (P : List Nat) (f : IF) : TI := fun σ H R => ∃ E : Ent, E.prot.map (·.1) = P ∧ tI Y E f σ H R
section
variable {X : Cx} {cl : Nat → Addr} {P : List Nat}
theorem XE.any {e : Expr} {f : EF} (h : XE X cl P e f) : PE X e (anyE ⟨cl, X.K⟩ P f) := ⟨fun pins s σ H Q I ⟨E, hE, q⟩ => (h E hE).run pins s σ H Q I q⟩
theorem XTs.any {e : List Expr} {f : TF} (h : XTs X cl P e f) : PTs X e (anyT ⟨cl, X.K⟩ P f) := ⟨fun pins s σ H Q I ⟨E, hE, q⟩ => (h E hE).run pins s σ H Q I q⟩
theorem XG.any {e : Expr} {W : List Nat} {f : GF} (h : XG X cl P e W f) : PG X e (anyG ⟨cl, X.K⟩ P W f) := ⟨fun pins s σ H v u Q I r ⟨E, hE, q⟩ => (h E hE).run pins s σ H v u Q I r q⟩
theorem XI.any {tg e : Expr} {f : IF} (h : XI X cl P tg e f) : PI X tg e (anyI ⟨cl, X.K⟩ P f) := ⟨fun pins s σ H R I ⟨E, hE, q⟩ => (h E hE).run pins s σ H R I q⟩
theorem wipe_wipe {σ σ' : St} {vs vs1 : List Nat} (hv : ∀ v ∈ vs1, v ∈ vs) (h : wipe σ' vs1 = wipe σ vs1) : wipe σ' vs = wipe σ vs := by
  have hl : σ'.length = σ.length := by rw [← wipe_length σ' vs1, h, wipe_length]
  exact wipe_eq hl fun j hj => by
    have n : j ∉ vs1 := fun z => hj (hv j z)
    rw [← wipe_out n, h, wipe_out n]
theorem wipe_sub {σ : St} {vs vs1 : List Nat} (hv : ∀ v ∈ vs1, v ∈ vs) : wipe (wipe σ vs1) vs = wipe σ vs := wipe_eq (wipe_length σ vs1) fun j hj => wipe_out fun z => hj (hv j z)
open MhT in
theorem ss2_in {E : Ent} {it it1 : IF} {W W1 : List Nat} {t t1 : GF} {tt tt1 : TF} {te : EF} {vs vs1 : List Nat} (hE : E.prot.map (·.1) = P) (hW : ∀ j ∈ W, j ∈ vs) (hW1 : ∀ j ∈ W1, j ∈ vs1) (hv1 : ∀ v ∈ vs1, v ∈ vs) (hv : ∀ v ∈ vs, v ∉ P) :
    ∀ σ H Q, tE ⟨cl, X.K⟩ E (xSs2 it t tt it1 t1 tt1 te vs vs1) σ H Q →
    tSc2 X.w (tI ⟨cl, X.K⟩ E it) (anyG ⟨cl, X.K⟩ P W t) (anyT ⟨cl, X.K⟩ P tt) (tInn X.w (anyI ⟨cl, X.K⟩ P it1) (anyG ⟨cl, X.K⟩ P W1 t1) (anyT ⟨cl, X.K⟩ P tt1) (anyE ⟨cl, X.K⟩ P te) vs1) vs σ H (fun x H1 => rSortT X.w [x] H1 Q) := fun σ H Q ⟨T, ms, m, ms', s, z, k⟩ => by
  unfold xSs2 at z
  obtain ⟨l, e1, z⟩ := Option.bind_eq_some_iff.mp z
  obtain ⟨r, e2, z⟩ := Option.bind_eq_some_iff.mp z
  obtain ⟨xsF, e3, z⟩ := Option.bind_eq_some_iff.mp z
  split at z
  · rename_i h64
    cases z
    have hF := strsD_eq e3
    have hvE : ∀ v ∈ vs, v ∉ E.prot.map (·.1) := fun v h => by rw [hE]; exact hv v h
    have hv1E : ∀ v ∈ vs1, v ∉ E.prot.map (·.1) := fun v h => hvE v (hv1 v h)
    refine ⟨T, ms, l.1, l.2, s, e1, fun J U H1 hJ s1 D hD => ?_⟩
    have bound : ∀ {acc more : List Mh.D}, r.1 = acc ++ more → acc.length < 64 := fun {acc more} e => by
      have : (xsF.map Mh.D.str).length = acc.length + more.length := by rw [← hF, e, List.length_append]
      rw [List.length_map] at this
      omega
    have isStr : ∀ {acc more : List Mh.D} {d : Mh.D}, r.1 = (acc ++ [d]) ++ more → ∃ z, d = .str z := fun {acc more d} e => by
      have : d ∈ xsF.map Mh.D.str := by rw [← hF, e]; simp
      obtain ⟨z, _, q⟩ := List.mem_map.mp this
      exact ⟨z, q.symm⟩
    refine ⟨fun i m H => m = l.1.length - i ∧ i ≤ l.1.length ∧ ∃ (xs : List Str) (n : Nat) (msi : En), NoneAt vs msi ∧ Loo ⟨cl, X.K⟩ E D (SetTO X.w D (fun k => k ∈ xs) n) (U ++ T) (wipe σ vs) msi H ∧ n ≤ xs.length ∧ lc2F t tt it1 t1 tt1 te vs vs1 (l.1.drop i) msi (xs.map .str) = some r,
      ⟨_, rfl, Nat.zero_le _, [], 0, wpM l.2 vs, wpM_none _ _, ?_, Nat.le_refl _, e2⟩, ?_⟩
    · have e0 : (fun _ : Str => False) = fun k => k ∈ ([] : List Str) := by funext k; simp
      rw [e0]
      exact (Loo.new s1 hD).toWipe hvE
    · rintro i m H2 ⟨rfl, hi', xs, n, msi, hn, lo, hle, zi⟩
      by_cases hlt : i < l.1.length
      · have hd : l.1.drop i = l.1[i] :: l.1.drop (i + 1) := List.drop_eq_getElem_cons hlt
        rw [hd] at zi
        obtain ⟨go, _⟩ := (hJ i E _ _ msi H2 lo.stt).2 l.1[i] (List.getElem?_eq_getElem hlt)
        refine .inr ⟨go, fun H' => i + 1 ≤ l.1.length ∧ ∃ (xs : List Str) (n : Nat) (msi : En), NoneAt vs msi ∧ Loo ⟨cl, X.K⟩ E D (SetTO X.w D (fun k => k ∈ xs) n) (U ++ T) (wipe σ vs) msi H' ∧ n ≤ xs.length ∧ lc2F t tt it1 t1 tt1 te vs vs1 (l.1.drop (i + 1)) msi (xs.map .str) = some r,
          fun H' ⟨h1, h2⟩ => ⟨_, by omega, rfl, h1, h2⟩, fun x H3 y => ?_⟩
        unfold lc2F at zi
        obtain ⟨m1, f1, zi⟩ := Option.bind_eq_some_iff.mp zi
        obtain ⟨b, f2, zi⟩ := Option.bind_eq_some_iff.mp zi
        obtain ⟨E1, p1, t1', back1⟩ := lo.run
        have y1 := ((hJ i E1 _ _ msi H2 t1').2 l.1[i] (List.getElem?_eq_getElem hlt)).2 x H3 y
        refine ⟨E1, by rw [p1]; exact hE, _, msi, .p l.1[i], m1, y1, f1, fun σ3 H4 hj hl3 s3 => ?_⟩
        have hw : wipe σ3 vs = wipe σ vs := wipe_eq (hl3.trans (wipe_length σ vs)) fun j hjv => (hj j fun z => hjv (hW j z)).trans (wipe_out hjv)
        have lo3 := back1 s3
        obtain ⟨E2, p2, t2, back2⟩ := lo3.run
        refine ⟨hw, E2, by rw [p2]; exact hE, _, m1, b.1, b.2, t2, f2, fun H5 s5 => ?_⟩
        have lo5 := back2 s5
        dsimp only
        by_cases h : b.1 = true
        · rw [if_pos h] at zi ⊢
          obtain ⟨l1, f3, zi⟩ := Option.bind_eq_some_iff.mp zi
          obtain ⟨r1, f4, zi⟩ := Option.bind_eq_some_iff.mp zi
          obtain ⟨more2, hpre2⟩ := lc2F_pre zi
          obtain ⟨E3, p3, t3, back3⟩ := lo5.run
          refine ⟨E3, by rw [p3]; exact hE, _, b.2, l1.1, l1.2, t3, f3, fun J1 U1 H6 hJ1 s6 => ?_⟩
          have lo6 := back3 s6
          refine ⟨fun j k H => k = l1.1.length - j ∧ j ≤ l1.1.length ∧ ∃ (xs : List Str) (n : Nat) (mj : En), NoneAt vs1 mj ∧ Loo ⟨cl, X.K⟩ E D (SetTO X.w D (fun k => k ∈ xs) n) (U1 ++ (U ++ T)) (wipe σ3 vs1) mj H ∧ n ≤ xs.length ∧ lcF t1 tt1 te vs1 (l1.1.drop j) mj (xs.map .str) = some r1,
            ⟨_, rfl, Nat.zero_le _, xs, n, wpM l1.2 vs1, wpM_none _ _, lo6.toWipe hv1E, hle, f4⟩, ?_⟩
          rintro j k' H7 ⟨rfl, hj', xs, n, mj, hn1, lo7, hle7, zj⟩
          by_cases hlt1 : j < l1.1.length
          · have hd1 : l1.1.drop j = l1.1[j] :: l1.1.drop (j + 1) := List.drop_eq_getElem_cons hlt1
            rw [hd1] at zj
            obtain ⟨go1, _⟩ := (hJ1 j E _ _ mj H7 lo7.stt).2 l1.1[j] (List.getElem?_eq_getElem hlt1)
            refine .inr ⟨go1, fun H' => j + 1 ≤ l1.1.length ∧ ∃ (xs : List Str) (n : Nat) (mj : En), NoneAt vs1 mj ∧ Loo ⟨cl, X.K⟩ E D (SetTO X.w D (fun k => k ∈ xs) n) (U1 ++ (U ++ T)) (wipe σ3 vs1) mj H' ∧ n ≤ xs.length ∧ lcF t1 tt1 te vs1 (l1.1.drop (j + 1)) mj (xs.map .str) = some r1,
              fun H' ⟨h1, h2⟩ => ⟨_, by omega, rfl, h1, h2⟩, fun x1 H8 y8 => ?_⟩
            unfold lcF at zj
            obtain ⟨n1, g1, zj⟩ := Option.bind_eq_some_iff.mp zj
            obtain ⟨c, g2, zj⟩ := Option.bind_eq_some_iff.mp zj
            obtain ⟨E4, p4, t4, back4⟩ := lo7.run
            have y2 := ((hJ1 j E4 _ _ mj H7 t4).2 l1.1[j] (List.getElem?_eq_getElem hlt1)).2 x1 H8 y8
            refine ⟨E4, by rw [p4]; exact hE, _, mj, .p l1.1[j], n1, y2, g1, fun σ4 H9 hj4 hl4 s9 => ?_⟩
            have hw1 : wipe σ4 vs1 = wipe σ3 vs1 := wipe_eq (hl4.trans (wipe_length σ3 vs1)) fun q hq => (hj4 q fun z => hq (hW1 q z)).trans (wipe_out hq)
            have lo9 := back4 s9
            obtain ⟨E5, p5, t5, back5⟩ := lo9.run
            refine ⟨hw1, E5, by rw [p5]; exact hE, _, n1, c.1, c.2, t5, g2, fun H10 s10 => ?_⟩
            have lo10 := back5 s10
            dsimp only
            by_cases hc : c.1 = true
            · rw [if_pos hc] at zj ⊢
              obtain ⟨y, g3, zj⟩ := Option.bind_eq_some_iff.mp zj
              split at zj
              · obtain ⟨more1, hpre1⟩ := lcF_pre zj
                obtain ⟨zz, hz⟩ := isStr (acc := xs.map .str) (d := frz y.1) (more := more1 ++ more2) (by rw [hpre2, hpre1, List.append_assoc])
                have hb := bound (acc := xs.map .str ++ [frz y.1]) (more := more1 ++ more2) (by rw [hpre2, hpre1, List.append_assoc])
                rw [List.length_append, List.length_map, List.length_singleton] at hb
                obtain ⟨E6, p6, t6, back6⟩ := lo10.run
                refine ⟨E6, by rw [p6]; exact hE, _, c.2, y.1, y.2, t6, g3, fun u H11 s11 => ?_⟩
                have s12 := s11.frz
                rw [hz] at s12
                have lo12 := back6 s12.pop
                refine ⟨zz, _, n, s12.rep.str_of, lo12.at_, by unfold scanBound; omega, fun m hm => ⟨hlt1, xs ++ [zz], m, wpM y.2 vs1, wpM_none _ _, ?_, by rw [List.length_append, List.length_singleton]; omega, ?_⟩⟩
                · have e0 : (fun k => k ∈ xs ∨ k = zz) = fun k => k ∈ xs ++ [zz] := by funext k; simp
                  rw [e0]
                  have := (lo12.upd (o' := SetTO X.w D (fun k => k ∈ xs ++ [zz]) m)).toWipe hv1E
                  rw [hw1] at this
                  exact this
                · rw [List.map_append, List.map_cons, List.map_nil, ← hz]
                  exact zj
              · cases zj
            · rw [if_neg hc] at zj ⊢
              have := lo10.toWipe hv1E
              rw [hw1] at this
              exact ⟨hlt1, xs, n, _, wpM_none _ _, this, hle7, zj⟩
          · have e : j = l1.1.length := by omega
            subst e
            rw [List.drop_length] at zj
            cases zj
            refine .inl ⟨(hJ1 _ E _ _ _ H7 lo7.stt).1 (Nat.le_refl _), hlt, xs, n, wpM mj vs, wpM_none _ _, ?_, hle7, zi⟩
            have := lo7.pops.toWipe hvE
            rw [wipe_sub hv1, hw] at this
            exact this
        · rw [if_neg h] at zi ⊢
          have := lo5.toWipe hvE
          rw [hw] at this
          exact ⟨hlt, xs, n, _, wpM_none _ _, this, hle, zi⟩
      · have e : i = l.1.length := by omega
        subst e
        rw [List.drop_length] at zi
        cases zi
        refine .inl ⟨(hJ _ E _ _ _ H2 lo.stt).1 (Nat.le_refl _), D, _, n, rfl, lo.at_, ?_, fun ys p hs hnd hm hp => ?_⟩
        · have := bound (acc := xs.map .str) (more := []) (by simp)
          rw [List.length_map] at this
          omega
        · have hx : xs = xsF := by
            have : xs.map Mh.D.str = xsF.map Mh.D.str := hF
            exact List.map_inj_right (f := Mh.D.str) (fun a b h => by cases h; rfl) |>.mp this
          subst hx
          have ey := sortU_is hs hnd hm
          subst ey
          have s2 := (lo.stt.ofWipe hn s.prot)
          have s3 : Stt ⟨cl, X.K⟩ E T σ msi H2 := by
            have pp : ∀ U : List (V × M), Stt ⟨cl, X.K⟩ E (U ++ T) σ msi H2 → Stt ⟨cl, X.K⟩ E T σ msi H2 := by
              intro U
              induction U with
              | nil => exact fun s => s
              | cons u U ih => exact fun s => ih s.pop
            exact pp U s2
          obtain ⟨B, _, _, _, _, kl, _⟩ := s3.pure
          exact k _ _ (kl p _ _ hp (RepL.of_strs _))
  · cases z
end
end Mh
namespace Mh
open PySem L2
section
variable {X : Cx} {cl : Nat → Addr} {P : List Nat}
theorem lc2_in {E : Ent} {it it1 : IF} {W W1 : List Nat} {t t1 : GF} {tt tt1 : TF} {te : EF} {vs vs1 : List Nat} (hW : ∀ j ∈ W, j ∈ vs) (hW1 : ∀ j ∈ W1, j ∈ vs1) (hv1 : ∀ v ∈ vs1, v ∈ vs) (hv : ∀ v ∈ vs, v ∉ E.prot.map (·.1)) :
    ∀ σ H Q, tE ⟨cl, X.K⟩ E (xLc2 it t tt it1 t1 tt1 te vs vs1) σ H Q →
    tLc2 (tI ⟨cl, X.K⟩ E it) (tG ⟨cl, X.K⟩ E W t) (tT ⟨cl, X.K⟩ E tt) (tI ⟨cl, X.K⟩ E it1) (tG ⟨cl, X.K⟩ E W1 t1) (tT ⟨cl, X.K⟩ E tt1) (tE ⟨cl, X.K⟩ E te) vs vs1 σ H Q := fun σ H Q ⟨T, ms, m, ms', s, z, k⟩ => by
  unfold xLc2 at z
  obtain ⟨l, e1, z⟩ := Option.bind_eq_some_iff.mp z
  obtain ⟨r, e2, z⟩ := Option.bind_eq_some_iff.mp z
  cases z
  have hv' : ∀ v ∈ vs1, v ∉ E.prot.map (·.1) := fun v h => hv v (hv1 v h)
  refine ⟨T, ms, l.1, l.2, s, e1, fun J U H1 hJ s1 D hD => ?_⟩
  have s2 : Stt ⟨cl, X.K⟩ E ((.ref D, .l []) :: (U ++ T)) σ l.2 (upd H1 D (.lst [])) := by
    obtain ⟨B, _, _, _, _, kl, _⟩ := s1.pure
    exact kl D [] [] hD .nil
  have inn : ∀ {x : V × M} {U T : List (V × M)} {σ : St} {ms : En} {H : Hp}, Stt ⟨cl, X.K⟩ E (x :: (U ++ T)) σ ms H → Stt ⟨cl, X.K⟩ E (U ++ x :: T) σ ms H := fun s => s.of (s.rel.perm (List.Perm.append_right _ List.perm_middle.symm))
  have out : ∀ {x : V × M} {U T : List (V × M)} {σ : St} {ms : En} {H : Hp}, Stt ⟨cl, X.K⟩ E (U ++ x :: T) σ ms H → Stt ⟨cl, X.K⟩ E (x :: (U ++ T)) σ ms H := fun s => s.of (s.rel.perm (List.Perm.append_right _ List.perm_middle))
  refine ⟨fun i m H => m = l.1.length - i ∧ i ≤ l.1.length ∧ ∃ acc msi, NoneAt vs msi ∧ Stt ⟨cl, X.K⟩ E ((.ref D, .l acc) :: (U ++ T)) (wipe σ vs) msi H ∧ lc2F t tt it1 t1 tt1 te vs vs1 (l.1.drop i) msi acc = some r,
    ⟨_, rfl, Nat.zero_le _, [], wpM l.2 vs, wpM_none _ _, s2.toWipe hv, e2⟩, ?_⟩
  rintro i m H2 ⟨rfl, hi', acc, msi, hn, si, zi⟩
  by_cases hlt : i < l.1.length
  · have hd : l.1.drop i = l.1[i] :: l.1.drop (i + 1) := List.drop_eq_getElem_cons hlt
    rw [hd] at zi
    obtain ⟨go, yl⟩ := (hJ i E _ _ msi H2 (inn si)).2 l.1[i] (List.getElem?_eq_getElem hlt)
    refine .inr ⟨go, fun H' => i + 1 ≤ l.1.length ∧ ∃ acc msi, NoneAt vs msi ∧ Stt ⟨cl, X.K⟩ E ((.ref D, .l acc) :: (U ++ T)) (wipe σ vs) msi H' ∧ lc2F t tt it1 t1 tt1 te vs vs1 (l.1.drop (i + 1)) msi acc = some r, fun H' ⟨h1, h2⟩ => ⟨_, by omega, rfl, h1, h2⟩, fun x H3 y => ?_⟩
    unfold lc2F at zi
    obtain ⟨m1, f1, zi⟩ := Option.bind_eq_some_iff.mp zi
    obtain ⟨b, f2, zi⟩ := Option.bind_eq_some_iff.mp zi
    refine ⟨_, msi, .p l.1[i], m1, yl x H3 y, f1, fun σ3 H4 hj hl3 s3 => ?_⟩
    have hw : wipe σ3 vs = wipe σ vs := wipe_eq (hl3.trans (wipe_length σ vs)) fun j hjv => (hj j fun z => hjv (hW j z)).trans (wipe_out hjv)
    refine ⟨hw, _, m1, b.1, b.2, s3, f2, fun H5 s5 => ?_⟩
    dsimp only
    by_cases h : b.1 = true
    · rw [if_pos h] at zi ⊢
      obtain ⟨l1, f3, zi⟩ := Option.bind_eq_some_iff.mp zi
      obtain ⟨r1, f4, zi⟩ := Option.bind_eq_some_iff.mp zi
      have s5' : Stt ⟨cl, X.K⟩ E ((.ref D, .l acc) :: (U ++ T)) σ3 b.2 H5 := out s5
      refine ⟨_, b.2, l1.1, l1.2, s5', f3, fun J1 U1 H6 hJ1 s6 => ?_⟩
      refine ⟨fun j k H => k = l1.1.length - j ∧ j ≤ l1.1.length ∧ ∃ acc mj, NoneAt vs1 mj ∧ Stt ⟨cl, X.K⟩ E ((.ref D, .l acc) :: (U1 ++ (U ++ T))) (wipe σ3 vs1) mj H ∧ lcF t1 tt1 te vs1 (l1.1.drop j) mj acc = some r1,
        ⟨_, rfl, Nat.zero_le _, acc, wpM l1.2 vs1, wpM_none _ _, (out s6).toWipe hv', f4⟩, ?_⟩
      rintro j k' H7 ⟨rfl, hj', acc, mj, hn1, s7, zj⟩
      by_cases hlt1 : j < l1.1.length
      · have hd1 : l1.1.drop j = l1.1[j] :: l1.1.drop (j + 1) := List.drop_eq_getElem_cons hlt1
        rw [hd1] at zj
        obtain ⟨go1, yl1⟩ := (hJ1 j E _ _ mj H7 (inn s7)).2 l1.1[j] (List.getElem?_eq_getElem hlt1)
        refine .inr ⟨go1, fun H' => j + 1 ≤ l1.1.length ∧ ∃ acc mj, NoneAt vs1 mj ∧ Stt ⟨cl, X.K⟩ E ((.ref D, .l acc) :: (U1 ++ (U ++ T))) (wipe σ3 vs1) mj H' ∧ lcF t1 tt1 te vs1 (l1.1.drop (j + 1)) mj acc = some r1, fun H' ⟨h1, h2⟩ => ⟨_, by omega, rfl, h1, h2⟩, fun x1 H8 y8 => ?_⟩
        unfold lcF at zj
        obtain ⟨n1, g1, zj⟩ := Option.bind_eq_some_iff.mp zj
        obtain ⟨c, g2, zj⟩ := Option.bind_eq_some_iff.mp zj
        refine ⟨_, mj, .p l1.1[j], n1, yl1 x1 H8 y8, g1, fun σ4 H9 hj4 hl4 s9 => ?_⟩
        have hw1 : wipe σ4 vs1 = wipe σ3 vs1 := wipe_eq (hl4.trans (wipe_length σ3 vs1)) fun q hq => (hj4 q fun z => hq (hW1 q z)).trans (wipe_out hq)
        refine ⟨hw1, _, n1, c.1, c.2, s9, g2, fun H10 s10 => ?_⟩
        dsimp only
        by_cases hc : c.1 = true
        · rw [if_pos hc] at zj ⊢
          obtain ⟨y, g3, zj⟩ := Option.bind_eq_some_iff.mp zj
          refine ⟨_, c.2, y.1, y.2, s10, g3, fun u H11 s11 => ?_⟩
          split at zj
          · rename_i hz
            have s12 := (s11.toWipe (vs := vs1) hv').frz
            rw [hw1] at s12
            have s13 : Stt ⟨cl, X.K⟩ E ((u, .p (frz y.1)) :: (.ref D, .l acc) :: (U1 ++ (U ++ T))) (wipe σ3 vs1) (wpM y.2 vs1) H11 := s12.of (by
              refine Rel.perm s12.rel (List.Perm.cons _ ?_)
              exact List.Perm.append_right _ List.perm_middle)
            obtain ⟨vs', h1, h2, h3⟩ := s13.snoc
            exact ⟨vs', h1, by rw [h2]; exact hz, hlt1, _, _, wpM_none _ _, h3, zj⟩
          · cases zj
        · rw [if_neg hc] at zj ⊢
          have s12 := s10.toWipe (vs := vs1) hv'
          rw [hw1] at s12
          exact ⟨hlt1, acc, _, wpM_none _ _, out s12, zj⟩
      · have e : j = l1.1.length := by omega
        subst e
        rw [List.drop_length] at zj
        cases zj
        refine .inl ⟨(hJ1 _ E _ _ _ H7 (inn s7)).1 (Nat.le_refl _), hlt, acc, wpM mj vs, wpM_none _ _, ?_, zi⟩
        have pp : ∀ U1 : List (V × M), Stt ⟨cl, X.K⟩ E (U1 ++ (.ref D, .l acc) :: (U ++ T)) (wipe σ3 vs1) mj H7 → Stt ⟨cl, X.K⟩ E ((.ref D, .l acc) :: (U ++ T)) (wipe σ3 vs1) mj H7 := by
          intro U1
          induction U1 with
          | nil => exact fun s => s
          | cons u U1 ih => exact fun s => ih s.pop
        have s8 := (pp U1 (inn s7)).toWipe (vs := vs) hv
        rw [wipe_sub hv1, hw] at s8
        exact s8
    · rw [if_neg h] at zi ⊢
      have s7 := s5.toWipe (vs := vs) hv
      rw [hw] at s7
      exact ⟨hlt, acc, _, wpM_none _ _, out s7, zi⟩
  · have e : i = l.1.length := by omega
    subst e
    rw [List.drop_length] at zi
    cases zi
    exact .inl ⟨(hJ _ E _ _ _ H2 (inn si)).1 (Nat.le_refl _), k _ _ (si.ofWipe hn s.prot).under⟩
theorem xe_lc2V (own : List (Str × Nat)) {vs vs1 : List Nat} {elt tg iter tg1 iter1 : Expr} {ifs ifs1 : List Expr} {scope : Scope} {pos : Pos} {it it1 : IF} {W W1 : List Nat} {t t1 : GF} {tt tt1 : TF} {te : EF} (hc : X.calm = true) (hN : X.N.Nodup) (hi : XI X cl P tg iter it) (ok : BlkOk X.N X.env.scope scope own)
    (hg : Blk X scope fun Z => XG Z cl P tg W t) (ht : Blk X scope fun Z => XTs Z cl P ifs tt) (hi1 : Blk X scope fun Z => XI Z cl P tg1 iter1 it1) (hg1 : Blk X scope fun Z => XG Z cl P tg1 W1 t1) (ht1 : Blk X scope fun Z => XTs Z cl P ifs1 tt1) (he : Blk X scope fun Z => XE Z cl P elt te)
    (hvs : own.map (·.2) = vs := by rfl) (hW : ∀ j ∈ W, j ∈ vs := by decide) (hW1 : ∀ j ∈ W1, j ∈ vs1 := by decide) (hv1 : ∀ v ∈ vs1, v ∈ vs := by decide) (hP : ∀ j ∈ vs, j ∉ P := by decide)
    (hs : ∀ x, foldedSetIterable iter X.env x = pure x := by intro _; rfl) (hs1 : ∀ env x, foldedSetIterable iter1 env x = pure x := by intro _ _; rfl) : XE X cl P (.ListComp elt [⟨tg, iter, ifs, 0⟩, ⟨tg1, iter1, ifs1, 0⟩] scope pos) (xLc2 it t tt it1 t1 tt1 te vs vs1) := fun E hE => by
  subst hvs
  exact PE.weak (pe_lc2 hc hN (hi E hE) ok hv1 (fun s H C cs fp => hg s H C cs fp E hE) (fun s H C cs fp => ht s H C cs fp E hE) (fun s H C cs fp => hi1 s H C cs fp E hE) (fun s H C cs fp => hg1 s H C cs fp E hE) (fun s H C cs fp => ht1 s H C cs fp E hE) (fun s H C cs fp => he s H C cs fp E hE) hs hs1)
    (lc2_in hW hW1 hv1 fun v hv => by rw [hE]; exact hP v hv)
theorem xe_ss2V (own : List (Str × Nat)) {vs vs1 : List Nat} {elt tg iter tg1 iter1 : Expr} {ifs ifs1 : List Expr} {scope : Scope} {p pos pos2 : Pos} {it it1 : IF} {W W1 : List Nat} {t t1 : GF} {tt tt1 : TF} {te : EF} (hc : X.calm = true) (hm : X.mg "sorted" = none) (hN : X.N.Nodup) (hi : XI X cl P tg iter it) (ok : BlkOk X.N X.env.scope scope own)
    (hg : Blk X scope fun Z => XG Z cl P tg W t) (ht : Blk X scope fun Z => XTs Z cl P ifs tt) (hi1 : Blk X scope fun Z => XI Z cl P tg1 iter1 it1) (hg1 : Blk X scope fun Z => XG Z cl P tg1 W1 t1) (ht1 : Blk X scope fun Z => XTs Z cl P ifs1 tt1) (he : Blk X scope fun Z => XE Z cl P elt te)
    (hvs : own.map (·.2) = vs := by rfl) (hW : ∀ j ∈ W, j ∈ vs := by decide) (hW1 : ∀ j ∈ W1, j ∈ vs1 := by decide) (hv1 : ∀ v ∈ vs1, v ∈ vs := by decide) (hP : ∀ j ∈ vs, j ∉ P := by decide) (hgl : Gl X "sorted" := by rfl)
    (hs : ∀ x, foldedSetIterable iter X.env x = pure x := by intro _; rfl) (hs1 : ∀ env x, foldedSetIterable iter1 env x = pure x := by intro _ _; rfl)
    (hst : starEach [.SetComp elt [⟨tg, iter, ifs, 0⟩, ⟨tg1, iter1, ifs1, 0⟩] scope pos2] X.env = (false, eval (.SetComp elt [⟨tg, iter, ifs, 0⟩, ⟨tg1, iter1, ifs1, 0⟩] scope pos2) X.env) :: starEach [] X.env := by rfl) :
    XE X cl P (.Call (.Name "sorted" p) [.SetComp elt [⟨tg, iter, ifs, 0⟩, ⟨tg1, iter1, ifs1, 0⟩] scope pos2] [] pos) (xSs2 it t tt it1 t1 tt1 te vs vs1) := fun E hE => by
  subst hvs
  have q : PE X (MhT.two elt tg iter tg1 iter1 ifs ifs1 scope pos2) _ := MhT.pe_sc2 (wi := tI ⟨cl, X.K⟩ E it) (g := anyG ⟨cl, X.K⟩ P W t) (tt := anyT ⟨cl, X.K⟩ P tt) (wi1 := anyI ⟨cl, X.K⟩ P it1) (g1 := anyG ⟨cl, X.K⟩ P W1 t1) (tt1 := anyT ⟨cl, X.K⟩ P tt1) (te := anyE ⟨cl, X.K⟩ P te) (own := own) hc hN (hi E hE) ok hv1 rfl (fun s H C cs fp => ⟨(hg s H C cs fp).any, (ht s H C cs fp).any, (hi1 s H C cs fp).any, (hg1 s H C cs fp).any, (ht1 s H C cs fp).any, (he s H C cs fp).any⟩) hs hs1
  exact PE.weak (pe_callB (MhT.cr_sortT hc) hgl hm (by decide +kernel) (pa_cons q pa_nil hst) (by decide) (by decide) hst rfl) (ss2_in hE hW hW1 hv1 hP)
end
@[simp] theorem xLc2_ap (it : IF) (tg : GF) (tt : TF) (it1 : IF) (tg1 : GF) (tt1 : TF) (te : EF) (vs vs1 : List Nat) (ms : En) : xLc2 it tg tt it1 tg1 tt1 te vs vs1 ms = ((it ms).bind fun l => (lc2F tg tt it1 tg1 tt1 te vs vs1 l.1 (wpM l.2 vs) []).bind fun r => some (.l r.1, r.2)) := by unfold xLc2; rfl
@[simp] theorem xSs2_ap (it : IF) (tg : GF) (tt : TF) (it1 : IF) (tg1 : GF) (tt1 : TF) (te : EF) (vs vs1 : List Nat) (ms : En) : xSs2 it tg tt it1 tg1 tt1 te vs vs1 ms = ((it ms).bind fun l => (lc2F tg tt it1 tg1 tt1 te vs vs1 l.1 (wpM l.2 vs) []).bind fun r => (strsD r.1).bind fun xs =>
  if xs.length < 64 then some (.l ((sortU xs).map .str), r.2) else none) := by unfold xSs2; rfl
end Mh
namespace Mh
open PySem L2
section
variable {X : Cx} {cl : Nat → Addr} {P : List Nat}
theorem pe_makeVA {C f : Addr} {k i : Nat} {fd : FuncData} {ps : List Str} {sp : Sp} {dvs : List V} {ds : List Value} {E : XK} {x : Str} {e : Expr} {es : List Expr} {p pos : Pos} {t : TA} (M : Mk X.K C f) (F : FnOk X.prog X.w X.K X.mg X.base CX0 k f fd ps sp) (hr : Room (k + 1) X.A) (hb : Binds X.K fd ps ds) (hd : Vals dvs ds)
    (hx : Passes CX0 X E) (ha : PA X (e :: es) t) (hN : X.N[i]? = some x) (hv : Vis X.env.scope x) (hdb : (x == ("__debug__" : Str)) = false := by decide) (hcd : (x == ("__classdict__" : Str)) = false := by decide)
    (he : starEach (e :: es) X.env = (false, eval e X.env) :: starEach es X.env := by rfl) (hpl : (backTo pos (starEach es X.env)).any (·.1) = false := by rfl) :
    PE X (.Call (.Name x p) (e :: es) [] pos) (fun σ H Q => σ[i]? = some (some (.ref C)) ∧ tMake C sp dvs E t σ H Q) := by
  refine ⟨fun pins s σ H Q I ⟨hσ, h⟩ => ?_⟩
  refine wpAny_Call_Name_kw (thn ((pe_var (pos := p) hN hv hdb hcd).run pins s σ H (fun v H1 => v = V.ref C ∧ H1 = H) I ⟨.ref C, hσ, rfl, rfl⟩) fun u s0 ⟨v, H0, I0, rv, e1, e2⟩ => ?_)
  subst e1 e2
  obtain rfl : u = Value.ref C := rv
  refine PySem.W.callWith_K (h₀ := X.base) I.ok.mod.kin M.kp (thn (ha.run pos pins s0 σ H0 _ I0 h) fun us s1 ⟨vs, H1, I1, r, q⟩ => ⟨I1.kIn, ?_⟩) he hpl
  exact run_make M F hr hb hd hx I1 r q
/-- a class held by a local name, made with plain arguments -/
def xMkA (ff : FF) (c i : Nat) (a : AF) : EF := fun ms => match ms[i]? with
  | some (some (.p (.cls c'))) => if c' = c then xMk ff [] c a ms else none
  | _ => none
theorem xe_calVA {k n c j : Nat} (i : Nat) {ff : FF} {x y : Str} {e : Expr} {es : List Expr} {p pos : Pos} {a : AF} (cc : CalC X.prog X.w X.K X.mg X.base cl c y k n ff) (hr : Room (k + 1) X.A) (hj : (e :: es).length = j) (hn : j + 1 = n)
    (hlen : ∀ ms l ms', a ms = some (l, ms') → l.length = j) (ha : XA X cl P (e :: es) a) (hN : X.N[i]? = some x := by rfl) (hv : Vis X.env.scope x := by first | exact Or.inl rfl | exact Or.inr (Or.inl rfl) | exact Or.inr (Or.inr rfl))
    (hdb : (x == ("__debug__" : Str)) = false := by decide) (hcd : (x == ("__classdict__" : Str)) = false := by decide) (he : starEach (e :: es) X.env = (false, eval e X.env) :: starEach es X.env := by rfl) (hpl : (backTo pos (starEach es X.env)).any (·.1) = false := by rfl) :
    XE X cl P (.Call (.Name x p) (e :: es) [] pos) (xMkA ff c i a) := by
  obtain ⟨f, fd, ps, hm, M, F, hb⟩ := cc.ex
  exact fun E hE => PE.weak (pe_makeVA (i := i) M F hr hb (dvs := []) .nil pass0 (ha E hE) hN hv hdb hcd he hpl) fun σ H Q ⟨T, ms, mm, ms', s, z, kk⟩ => by
    unfold xMkA at z
    split at z
    · rename_i c' hc
      split at z
      · rename_i hcc
        subst hcc
        unfold xMk at z
        obtain ⟨l, e1, z⟩ := Option.bind_eq_some_iff.mp z
        obtain ⟨v, h1, s'⟩ := s.var hc
        obtain rfl := s'.rep.cls_of
        exact ⟨h1, T, ms, l.1, l.2, s, e1, fun vs H1 hl s1 => mk_in (dd := []) (dvs := []) (fun _ => .nil) hl (by rw [hlen _ _ _ e1]; simpa using hn) s1.args z kk⟩
      · cases z
    · cases z
/-! ### over a list or a tuple -/
def iQ (f : EF) : IF := fun ms => (f ms).bind fun a => match frz a.1 with | .lst ds => some (ds, a.2) | .tup ds => some (ds, a.2) | _ => none
theorem iQ_or {f : EF} {ms : En} {r : List D × En} (h : iQ f ms = some r) : iL f ms = some r ∨ iT f ms = some r := by
  unfold iQ at h
  obtain ⟨a, e, z⟩ := Option.bind_eq_some_iff.mp h
  unfold iL iT
  rw [e]
  dsimp only [Option.bind_some]
  cases q : frz a.1 <;> rw [q] at z <;> first | exact .inl z | exact .inr z
theorem xi_seq {tg e : Expr} {f : EF} (he : XE X cl P e f) : XI X cl P tg e (iQ f) := fun E hE => ⟨fun pins s σ H R I ⟨T, ms, ds, ms', st, z, k⟩ =>
  (iQ_or z).elim (fun y => (xi_list (tg := tg) he E hE).run pins s σ H R I ⟨T, ms, ds, ms', st, y, k⟩) fun y => (xi_tup (tg := tg) he E hE).run pins s σ H R I ⟨T, ms, ds, ms', st, y, k⟩⟩
/-! ### three names at once -/
def sPar3 (i j l : Nat) (f g h : EF) : SF := fun ms => (f ms).bind fun a => (g a.2).bind fun b => (h b.2).bind fun c => if i < c.2.length ∧ j < c.2.length ∧ l < c.2.length then some (.nx, ((c.2.set i (some a.1)).set j (some b.1)).set l (some c.1)) else none
theorem xs_par3 (i j l : Nat) {x y z : Str} {a b c : Expr} {px py pz pt pos : Pos} {kt k2 pt2} {f g h : EF} (hc : X.calm = true) (hNd : X.N.Nodup) (ha : XE X cl P a f) (hb : XE X cl P b g) (hcc : XE X cl P c h) (hij : i ≠ j := by decide) (hil : i ≠ l := by decide) (hjl : j ≠ l := by decide) (hpi : i ∉ P := by decide) (hpj : j ∉ P := by decide) (hpl : l ∉ P := by decide)
    (hi : X.N[i]? = some x := by rfl) (hj : X.N[j]? = some y := by rfl) (hl : X.N[l]? = some z := by rfl) (hx : X.env.scope.names.lookup x = some .local := by rfl) (hy : X.env.scope.names.lookup y = some .local := by rfl) (hz : X.env.scope.names.lookup z = some .local := by rfl)
    (hw : swappedStores [.Tuple [.Name x px, .Name y py, .Name z pz] kt pt] (.Tuple [a, b, c] k2 pt2) X.env = pure (some [x, y, z]) := by rfl)
    (hs : swapsWithSole [.Tuple [.Name x px, .Name y py, .Name z pz] kt pt] (.Tuple [a, b, c] k2 pt2) pos.line X.env = pure false := by rfl)
    (h1 : starEach [a, b, c] X.env = (false, eval a X.env) :: starEach [b, c] X.env := by rfl) (h2 : starEach [b, c] X.env = (false, eval b X.env) :: starEach [c] X.env := by rfl) (h3 : starEach [c] X.env = (false, eval c X.env) :: starEach [] X.env := by rfl) :
    XS X cl P (.Assign [.Tuple [.Name x px, .Name y py, .Name z pz] kt pt] (.Tuple [a, b, c] k2 pt2) pos) (sPar3 i j l f g h) := fun E hE =>
  PS.weak (ps_par3 hc hNd hi hj hl hij hil hjl hx hy hz (pa_cons (ha E hE) (pa_cons (hb E hE) (pa_cons (hcc E hE) pa_nil h3) h2) h1) hw hs) fun D σ H ⟨T, ms, o, ms', s, z, k⟩ => by
    unfold sPar3 at z
    obtain ⟨a, e1, z⟩ := Option.bind_eq_some_iff.mp z
    obtain ⟨b, e2, z⟩ := Option.bind_eq_some_iff.mp z
    obtain ⟨c, e3, z⟩ := Option.bind_eq_some_iff.mp z
    split at z
    · rename_i hl
      cases z
      refine ⟨T, ms, a.1, a.2, s, e1, fun u H1 s1 => ⟨_, a.2, b.1, b.2, s1, e2, fun v H2 s2 => ⟨_, b.2, c.1, c.2, s2, e3, fun w H3 s3 => ⟨u, v, w, rfl, k _ _ ?_⟩⟩⟩⟩
      have l3 := s3.len
      have s4 : Stt ⟨cl, X.K⟩ E ((u, a.1) :: (v, b.1) :: (w, c.1) :: T) σ c.2 H3 := s3.of (s3.rel.perm (List.Perm.append_right _ (by
        refine List.Perm.trans (List.Perm.swap _ _ _) ?_
        refine List.Perm.trans (List.Perm.cons _ (List.Perm.swap _ _ _)) ?_
        exact List.Perm.swap _ _ _)))
      exact ((s4.set (i := i) (by omega) (by rw [hE]; exact hpi)).set (by rw [List.length_set]; omega) (by rw [hE]; exact hpj)).set (by rw [List.length_set, List.length_set]; omega) (by rw [hE]; exact hpl)
    · cases z
end
theorem iQ_ap (f : EF) (ms : En) : iQ f ms = ((f ms).bind fun a => match frz a.1 with | .lst ds => some (ds, a.2) | .tup ds => some (ds, a.2) | _ => none) := by unfold iQ; rfl
@[simp] theorem iQ_ap' (f : EF) (ms : En) : iQ f ms = ((f ms).bind fun a => match frz a.1 with | .lst ds => some (ds, a.2) | .tup ds => some (ds, a.2) | _ => none) := iQ_ap f ms
theorem xMkA_ap (ff : FF) (c i : Nat) (a : AF) (ms : En) : xMkA ff c i a ms = (match ms[i]? with
  | some (some (.p (.cls c'))) => if c' = c then xMk ff [] c a ms else none
  | _ => none) := by unfold xMkA; rfl
theorem sPar3_ap (i j l : Nat) (f g h : EF) (ms : En) : sPar3 i j l f g h ms = ((f ms).bind fun a => (g a.2).bind fun b => (h b.2).bind fun c => if i < c.2.length ∧ j < c.2.length ∧ l < c.2.length then some (.nx, ((c.2.set i (some a.1)).set j (some b.1)).set l (some c.1)) else none) := by unfold sPar3; rfl
@[simp] theorem xMkA_ap' (ff : FF) (c i : Nat) (a : AF) (ms : En) : xMkA ff c i a ms = (match ms[i]? with
  | some (some (.p (.cls c'))) => if c' = c then xMk ff [] c a ms else none
  | _ => none) := xMkA_ap ff c i a ms
@[simp] theorem sPar3_ap' (i j l : Nat) (f g h : EF) (ms : En) : sPar3 i j l f g h ms = ((f ms).bind fun a => (g a.2).bind fun b => (h b.2).bind fun c => if i < c.2.length ∧ j < c.2.length ∧ l < c.2.length then some (.nx, ((c.2.set i (some a.1)).set j (some b.1)).set l (some c.1)) else none) := sPar3_ap i j l f g h ms
end Mh
/-! Mh: methods of an own object, which is lent -/
namespace Mh
open PySem L2
/-- the own object of a slot -/
def slOb (ms : En) (i c : Nat) : Option (List (Str × M)) := slO ms i c
def xMthO (ff : FF) (dd : List D) (bs : List (Option Nat)) (i c : Nat) (m : Str) (a : AF) : EF := fun ms => (slO ms i c).bind fun fs => if (fs.lookup m).isNone = true then (a ms).bind fun l => (slO l.2 i c).bind fun fs2 =>
  (ff (.o c fs2 :: l.1 ++ dd.map .p)).bind fun r => (putB (some i :: bs) r.2 (l.2.set i none)).bind fun ms' => some (r.1, ms') else none
theorem slO_some {ms : En} {i c : Nat} {fs : List (Str × M)} (h : slO ms i c = some fs) : ms[i]? = some (some (.o c fs)) := by
  unfold slO at h
  split at h
  · rename_i c' fs' e
    split at h
    · rename_i hc; subst hc; cases h; exact e
    · cases h
  · cases h
section
variable {X : Cx} {cl : Nat → Addr} {P : List Nat}
theorem mthO_in {E : Ent} {T : List (V × M)} {σ : L2.St} {ms2 ms' : En} {H2 : Hp} {ad : Addr} {ws dvs : List V} {l : List M} {i c n : Nat} {fs2 : List (Str × M)} {bs : List (Option Nat)} {r : M × En} {dd : List D} {ff : FF} {Q : VK} (hdd : ∀ B, RepL ⟨cl, X.K⟩ B dvs dd)
    (hl : ws.length = l.length) (hbl : bs.length = ws.length) (hn : bs.length + dd.length + 1 = n) (hσi : σ[i]? = some (some (.ref ad))) (hi : ms2[i]? = some (some (.o c fs2)))
    (hσ : ∀ (j k : Nat), bs[j]? = some (some k) → ∃ v, ws[j]? = some v ∧ σ[k]? = some (some v)) (s : Stt ⟨cl, X.K⟩ E (tmps ws l T) σ ms2 H2)
    (e2 : ff (.o c fs2 :: l ++ dd.map .p) = some r) (e3 : putB (some i :: bs) r.2 (ms2.set i none) = some ms') (k : ∀ v H', Stt ⟨cl, X.K⟩ E ((v, r.1) :: T) σ ms' H' → Q v H') :
    spF ⟨cl, X.K⟩ n ff (V.ref ad :: (ws ++ dvs)) H2 Q fun _ _ _ => False := by
  have s1 := s.take hσi hi
  have s2 : Stt ⟨cl, X.K⟩ E (((V.ref ad :: ws).zip (M.o c fs2 :: l)) ++ T) σ (ms2.set i none) H2 := by
    refine s1.of (s1.rel.perm ?_)
    rw [List.zip_cons_cons]
    exact List.Perm.cons _ ((tmps_perm ws l T).append_right _)
  refine call_raw (vs := V.ref ad :: ws) (l := M.o c fs2 :: l) (n := n) (ff := ff) (Q := Q) (E0 := fun _ _ _ => False) hdd (by simp [hl]) (by simp [← hn, hbl, hl]) s2 e2 fun v H3 s5 => k v H3 ?_
  refine putB_ok e3 (by simp [hbl]) (fun j q e => ?_) s5
  cases j with
  | zero =>
    simp at e
    subst e
    exact ⟨.ref ad, rfl, hσi⟩
  | succ j =>
    obtain ⟨u, h1, h2⟩ := hσ j q (by simpa using e)
    exact ⟨u, by rw [List.cons_append, List.getElem?_cons_succ, List.getElem?_append_left (List.getElem?_eq_some_iff.mp h1).1]; exact h1, h2⟩
theorem xe_calMO {k n c : Nat} (i : Nat) {ff : FF} {x m : Str} {e : Expr} {es : List Expr} {p apos pos : Pos} {a : AF} {bs : List (Option Nat)} {pl : Sem Bool} (cm : CalM X.prog X.w X.K X.mg X.base cl c m k n ff) (hr : Room k X.A) (hn : bs.length + 1 = n)
    (ha : XAb X cl P (e :: es) bs a) (hN : X.N[i]? = some x := by rfl) (hv : Vis X.env.scope x := by first | exact Or.inl rfl | exact Or.inr (Or.inl rfl) | exact Or.inr (Or.inr rfl)) (hd : (x == ("__debug__" : Str)) = false := by decide) (hcd : (x == ("__classdict__" : Str)) = false := by decide)
    (hst : starEach (e :: es) X.env = (false, eval e X.env) :: starEach es X.env := by rfl) (hpl : (backTo pos (starEach es X.env)).any (·.1) = false := by rfl)
    (ht : eval (.Call (.Attribute (.Name x p) m apos) (e :: es) [] pos) X.env = (do
      let ov ← eval (.Name x p) X.env
      standAt apos.atName
      let (f, first) ← holding [ov] (getMethod ov m pl)
      callWith pos f first (backTo pos (starEach (e :: es) X.env)) (backToKw pos (keywordEach [] X.env))) := by rfl) :
    XE X cl P (.Call (.Attribute (.Name x p) m apos) (e :: es) [] pos) (xMthO ff [] bs i c m a) := by
  obtain ⟨f, fd, ps, hm, F, hb⟩ := cm.ex
  exact fun E hE => PE.weak (pe_meth (pe_var hN hv hd hcd) cm.cls hm F hr hb (dvs := []) .nil pass0 (ha E hE) hst hpl ht) fun σ H Q ⟨T, ms, mm, ms', s, z, kk⟩ => by
    unfold xMthO at z
    obtain ⟨fs, e0, z⟩ := Option.bind_eq_some_iff.mp z
    split at z
    · rename_i hl0
      obtain ⟨l, e1, z⟩ := Option.bind_eq_some_iff.mp z
      obtain ⟨fs2, e4, z⟩ := Option.bind_eq_some_iff.mp z
      obtain ⟨r, e2, z⟩ := Option.bind_eq_some_iff.mp z
      obtain ⟨q, e3, z⟩ := Option.bind_eq_some_iff.mp z
      cases z
      obtain ⟨ad, dx, vs, B, h1, ho, _, hno, _⟩ := s.slotO (slO_some e0)
      refine ⟨.ref ad, h1, ad, dx, vs, rfl, ho, hno _ (Option.isNone_iff_eq_none.mp hl0), T, ms, l.1, l.2, s, e1, fun ws H2 hl hbl hσ s3 => ?_⟩
      exact mthO_in (dd := []) (dvs := []) (fun _ => .nil) hl hbl (by simpa using hn) h1 (slO_some e4) hσ s3 e2 e3 kk
    · cases z
theorem xe_calMO0 {k n c : Nat} (i : Nat) {ff : FF} {x m : Str} {p apos pos : Pos} {pl : Sem Bool} (cm : CalM X.prog X.w X.K X.mg X.base cl c m k n ff) (hr : Room k X.A) (hn : 1 = n)
    (hN : X.N[i]? = some x := by rfl) (hv : Vis X.env.scope x := by first | exact Or.inl rfl | exact Or.inr (Or.inl rfl) | exact Or.inr (Or.inr rfl)) (hd : (x == ("__debug__" : Str)) = false := by decide) (hcd : (x == ("__classdict__" : Str)) = false := by decide)
    (ht : eval (.Call (.Attribute (.Name x p) m apos) [] [] pos) X.env = (do
      let ov ← eval (.Name x p) X.env
      standAt apos.atName
      let (f, first) ← holding [ov] (getMethod ov m pl)
      callWith pos f first (backTo pos (starEach [] X.env)) (backToKw pos (keywordEach [] X.env))) := by rfl) :
    XE X cl P (.Call (.Attribute (.Name x p) m apos) [] [] pos) (xMthO ff [] [] i c m aN) := by
  obtain ⟨f, fd, ps, hm, F, hb⟩ := cm.ex
  exact fun E hE => PE.weak (pe_meth0 (pe_var hN hv hd hcd) cm.cls hm F hr hb (dvs := []) .nil pass0 ht) fun σ H Q ⟨T, ms, mm, ms', s, z, kk⟩ => by
    unfold xMthO at z
    obtain ⟨fs, e0, z⟩ := Option.bind_eq_some_iff.mp z
    split at z
    · rename_i hl0
      obtain ⟨l, e1, z⟩ := Option.bind_eq_some_iff.mp z
      cases e1
      obtain ⟨fs2, e4, z⟩ := Option.bind_eq_some_iff.mp z
      obtain ⟨r, e2, z⟩ := Option.bind_eq_some_iff.mp z
      obtain ⟨q, e3, z⟩ := Option.bind_eq_some_iff.mp z
      cases z
      obtain ⟨ad, dx, vs, B, h1, ho, _, hno, _⟩ := s.slotO (slO_some e0)
      refine ⟨.ref ad, h1, ad, dx, vs, rfl, ho, hno _ (Option.isNone_iff_eq_none.mp hl0), ?_⟩
      exact mthO_in (ws := []) (l := []) (bs := []) (dd := []) (dvs := []) (fun _ => .nil) rfl rfl (by simpa using hn) h1 (slO_some e4) (fun j q e => by simp at e) s e2 e3 kk
    · cases z
end
end Mh
/-! Mh: an own object opened: its attributes as slots behind the others -/
namespace Mh
open PySem L2
theorem prs_append : ∀ {σ : L2.St} {ms : En} (σ2 : L2.St) (ms2 : En), ms.length = σ.length → prs (σ ++ σ2) (ms ++ ms2) = prs σ ms ++ prs σ2 ms2
  | [], [], _, _, _ => rfl
  | [], _ :: _, _, _, h => by simp at h
  | _ :: _, [], _, _, h => by simp at h
  | some v :: σ, some m :: ms, σ2, ms2, h => by
    rw [List.cons_append, List.cons_append, prs_cc, prs_cc, prs_append σ2 ms2 (by simpa using h), List.cons_append]
  | some v :: σ, none :: ms, σ2, ms2, h => by
    rw [List.cons_append, List.cons_append, prs_no, prs_no, prs_append σ2 ms2 (by simpa using h)]
  | none :: σ, m :: ms, σ2, ms2, h => by
    rw [List.cons_append, List.cons_append, prs_on, prs_on, prs_append σ2 ms2 (by simpa using h)]
def flV (vs : List (Str × V)) : L2.St := vs.map fun p => some p.2
def flM (fs : List (Str × M)) : En := fs.map fun p => some p.2
theorem RepO.keyeq {Y : Tx} {B H : Hp} : ∀ {vs : List (Str × V)} {ms : List (Str × M)} {fp : List Addr}, RepO Y B H vs ms fp → vs.map (·.1) = ms.map (·.1)
  | _, _, _, .nil => rfl
  | _, _, _, .cons _ r => by rw [List.map_cons, List.map_cons, RepO.keyeq r]
theorem RepO.sep {Y : Tx} {B H : Hp} : ∀ {vs : List (Str × V)} {ms : List (Str × M)} {fp : List Addr}, RepO Y B H vs ms fp → Sep Y B H (prs (flV vs) (flM ms)) fp
  | _, _, _, .nil => .nil
  | _, _, _, .cons a r => .cons a (RepO.sep r)
theorem RepO.ofSep {Y : Tx} {B H : Hp} : ∀ {vs : List (Str × V)} {ms : List (Str × M)} {fp : List Addr}, vs.map (·.1) = ms.map (·.1) → Sep Y B H (prs (flV vs) (flM ms)) fp → RepO Y B H vs ms fp
  | [], [], _, _, .nil => .nil
  | [], _ :: _, _, h, _ => by simp at h
  | _ :: _, [], _, h, _ => by simp at h
  | (k, v) :: vs, (k', m) :: ms, fp, h, s => by
    rw [List.map_cons, List.map_cons, List.cons.injEq] at h
    obtain ⟨h1, h2⟩ := h
    dsimp only at h1
    subst h1
    have s' : Sep Y B H ((v, m) :: prs (flV vs) (flM ms)) fp := s
    cases s' with
    | cons a r => exact .cons a (RepO.ofSep h2 r)
theorem RelB.close {Y : Tx} {E : Ent} {B H : Hp} {fq : List Addr} {a dx : Addr} {c : Nat} {vs : List (Str × V)} {fs2 : List (Str × M)} {T' : List (V × M)} {H' : Hp} (g : Grow E.fp E.B E.H B H) (ha : H a = some (.ins (Y.cl c) dx vs))
    (hn : a ∉ fq) (hB : B a = none) (hE : E.H a = none ∨ a ∈ E.fp) (ow : ∀ x ∈ fq, E.H x = none ∨ x ∈ E.fp) (hk : vs.map (·.1) = fs2.map (·.1)) (r : Rel Y ⟨B, H, fq, []⟩ (prs (flV vs) (flM fs2) ++ T') H') :
    Rel Y E ((.ref a, .o c fs2) :: T') H' ∧ H' a = some (.ins (Y.cl c) dx vs) := by
  obtain ⟨B', fp', g2, sp, nd, ow2⟩ := r
  have hH' : H' a = some (.ins (Y.cl c) dx vs) := by
    rcases g2.keep a _ ha hn with h | ⟨_, h, _⟩
    · exact h
    · exact absurd (hB.symm.trans h) (by simp)
  have hB' : B' a = none := g2.new a (by show H a ≠ none; rw [ha]; simp) hn hB
  have hnf : a ∉ fp' := fun z => by
    rcases (ow2 a z).2 with h | h
    · exact absurd (h.symm.trans ha) (by simp)
    · exact hn h
  obtain ⟨f1, f2, rfl, s1, s2⟩ := sp.split
  refine ⟨⟨B', (a :: f1) ++ f2, g.trans g2 ow, .cons (.o hH' (RepO.ofSep hk s1)) s2, ?_, ?_⟩, hH'⟩
  · rw [List.cons_append, List.nodup_cons]
    exact ⟨hnf, nd⟩
  · intro x hx
    rw [List.cons_append, List.mem_cons] at hx
    rcases hx with rfl | hx
    · exact ⟨hB', hE⟩
    · refine ⟨(ow2 x hx).1, ?_⟩
      rcases (ow2 x hx).2 with h | h
      · exact .inl (g.live x h)
      · exact ow x h
theorem Stt.openO {Y : Tx} {E : Ent} {T : List (V × M)} {σ : L2.St} {ms : En} {H : Hp} {i c : Nat} {fs : List (Str × M)} (s : Stt Y E T σ ms H) (h : ms[i]? = some (some (.o c fs))) : ∃ a dx vs E2, σ[i]? = some (some (.ref a)) ∧ H a = some (.ins (Y.cl c) dx vs) ∧ vs.map (·.1) = fs.map (·.1) ∧
    Stt Y E2 T (σ ++ flV vs) (ms.set i none ++ flM fs) H ∧ (∀ T' ms2 fs2 H', ms2.length = ms.length → ms2[i]? = some none → fs2.map (·.1) = fs.map (·.1) → Stt Y E2 T' (σ ++ flV vs) (ms2 ++ flM fs2) H' → Stt Y E T' σ (ms2.set i (some (.o c fs2))) H') := by
  obtain ⟨v, h1⟩ := s.cov i _ h
  have s1 := s.take h1 h
  obtain ⟨B, fp, g, sp, nd, ow⟩ := s1.rel
  rw [List.cons_append] at sp
  cases sp with
  | cons rm sp =>
    rename_i fm f2
    cases rm with
    | @o a dx _ vs _ fq ha rq =>
      have hk := rq.keyeq
      have nd' : (a :: (fq ++ f2)).Nodup := by rw [← List.cons_append]; exact nd
      have nd2 := List.nodup_cons.mp nd'
      have ow' : ∀ x ∈ fq ++ f2, B x = none ∧ (E.H x = none ∨ x ∈ E.fp) := fun x hx => ow x (by rw [List.cons_append]; exact List.mem_cons_of_mem _ hx)
      have owa := ow a (by simp)
      have hlen : (ms.set i none).length = σ.length := by rw [List.length_set]; exact s.len
      have r2 : Rel Y ⟨B, H, fq ++ f2, []⟩ (prs (flV vs) (flM fs) ++ (T ++ prs σ (ms.set i none))) H := ⟨B, fq ++ f2, Grow.refl g.sub, rq.sep.app sp, nd2.2, fun x hx => ⟨(ow' x hx).1, .inr hx⟩⟩
      refine ⟨a, dx, vs, ⟨B, H, fq ++ f2, []⟩, h1, ha, hk, ⟨?_, ?_, ?_, fun iv hiv => (by cases hiv)⟩, ?_⟩
      · have e := congrArg List.length hk
        rw [List.length_map, List.length_map] at e
        rw [List.length_append, List.length_append, hlen]
        unfold flV flM
        rw [List.length_map, List.length_map, e]
      · intro j n e
        by_cases hj : j < σ.length
        · rw [List.getElem?_append_left (by rw [hlen]; exact hj)] at e
          rw [List.getElem?_append_left hj]
          exact s1.cov j n e
        · rw [List.getElem?_append_right (by rw [hlen]; omega), hlen] at e
          rw [List.getElem?_append_right (by omega)]
          unfold flM at e
          unfold flV
          have e0 := congrArg List.length hk
          rw [List.length_map, List.length_map] at e0
          have hlt := (List.getElem?_eq_some_iff.mp e).1
          rw [List.length_map] at hlt
          rw [List.getElem?_map, List.getElem?_eq_getElem (by omega)]
          exact ⟨_, rfl⟩
      · rw [prs_append _ _ hlen]
        refine Rel.perm r2 ?_
        rw [← List.append_assoc T]
        exact List.perm_append_comm
      · intro T' ms2 fs2 H' hl hi hk2 s2
        have hlen2 : ms2.length = σ.length := by rw [hl]; exact s.len
        have rr : Rel Y ⟨B, H, fq ++ f2, []⟩ (prs (flV vs) (flM fs2) ++ (T' ++ prs σ ms2)) H' := by
          have := s2.rel
          rw [prs_append _ _ hlen2] at this
          refine this.perm ?_
          rw [← List.append_assoc T']
          exact List.perm_append_comm
        obtain ⟨rc, _⟩ := RelB.close (c := c) g ha nd2.1 owa.1 owa.2 (fun x hx => (ow' x hx).2) (hk.trans hk2.symm) rr
        have st : Stt Y E ((.ref a, .o c fs2) :: T') σ ms2 H' := ⟨hlen2, fun j n e => by
          have hj : j < σ.length := by rw [← hlen2]; exact (List.getElem?_eq_some_iff.mp e).1
          have e' : (ms2 ++ flM fs2)[j]? = some (some n) := by rw [List.getElem?_append_left (by rw [hlen2]; exact hj)]; exact e
          obtain ⟨u, hu⟩ := s2.cov j n e'
          rw [List.getElem?_append_left hj] at hu
          exact ⟨u, hu⟩, by rw [List.cons_append]; exact rc, s.prot⟩
        exact st.put h1 hi
end Mh
/-! Mh: simple expressions, which leave the heap as it is; attributes that are own dicts -/
namespace Mh
open PySem L2
def tP (Y : Tx) (E : Ent) (f : EF) : TE := fun σ H Q => ∃ T ms m ms', Stt Y E T σ ms H ∧ f ms = some (m, ms') ∧ ∀ v, Stt Y E ((v, m) :: T) σ ms' H → Q v H
def XP (X : Cx) (cl : Nat → Addr) (P : List Nat) (e : Expr) (f : EF) : Prop := ∀ E : Ent, E.prot.map (·.1) = P → PE X e (tP ⟨cl, X.K⟩ E f)
section
variable {X : Cx} {cl : Nat → Addr} {P : List Nat}
theorem xp_var (i : Nat) {x : Str} {pos : Pos} (hN : X.N[i]? = some x := by rfl) (hv : Vis X.env.scope x := by first | exact Or.inl rfl | exact Or.inr (Or.inl rfl) | exact Or.inr (Or.inr rfl))
    (hd : (x == ("__debug__" : Str)) = false := by decide) (hcd : (x == ("__classdict__" : Str)) = false := by decide) : XP X cl P (.Name x pos) (xV i) := fun E _ =>
  PE.weak (pe_var hN hv hd hcd) fun σ H Q ⟨T, ms, m, ms', s, e, k⟩ => by
    unfold xV at e
    split at e
    · rename_i n hn
      cases e
      obtain ⟨v, h1, s'⟩ := s.var hn
      exact ⟨v, h1, k v s'⟩
    · cases e
theorem xp_int {i j pos} : XP X cl P (.Constant (.int i) j pos) (xC (.int i)) := fun E _ => PE.weak pe_int fun σ H Q ⟨T, ms, d, ms', s, e, k⟩ => by
  cases e
  exact k _ (s.scal fun _ => .int _)
theorem ix_same {Y : Tx} {E : Ent} {T : List (V × M)} {σ : L2.St} {ms : En} {H : Hp} {x y : V} {dx dy d : D} {Q : VK} (s : Stt Y E ((y, .p dy) :: (x, .p dx) :: T) σ ms H) (e : dIx dx dy = some d) (k : ∀ v, Stt Y E ((v, .p d) :: T) σ ms H → Q v H) : rIx Y.K x y H Q := by
  obtain ⟨B, hB, q, kp, _⟩ := s.pure
  have ry := q y dy (by simp)
  have rx := q x dx (by simp)
  unfold dIx at e
  split at e
  · obtain rfl := ry.int_of
    obtain ⟨a, vs, rfl, hs, q⟩ := rx.tup_of
    obtain ⟨v, h1, h2⟩ := atI_rep q e
    exact .inr (.inl ⟨_, _, _, v, rfl, rfl, ex_t hB hs, h1, k _ (kp v d h2).swap.pop.swap.pop⟩)
  · obtain rfl := ry.int_of
    obtain ⟨a, vs, rfl, hs, q⟩ := rx.lst_of
    obtain ⟨v, h1, h2⟩ := atI_rep q e
    exact .inl ⟨_, _, _, v, rfl, rfl, ex_l hB hs, h1, k _ (kp v d h2).swap.pop.swap.pop⟩
  · obtain rfl := ry.int_of
    obtain rfl := rx.str_of
    split at e
    · rename_i h
      obtain ⟨c, h1, h2⟩ := Option.map_eq_some_iff.mp e
      subst h2
      exact .inr (.inr ⟨_, _, c, rfl, rfl, h, h1, k _ (s.pop.pop.scal fun _ => .str _)⟩)
    · cases e
  · cases e
theorem xp_ix {a b : Expr} {pos : Pos} {f g : EF} (ha : XP X cl P a f) (hb : XP X cl P b g) (hs : PlainIx b := by exact fun _ _ => rfl) : XP X cl P (.Subscript a b pos) (f2 dIx f g) := fun E hE =>
  PE.weak (pe_ix ix_seq (ha E hE) (hb E hE) hs) fun σ H Q ⟨T, ms, d, ms', s, z, k⟩ => by
    unfold f2 at z
    obtain ⟨a, e1, z⟩ := Option.bind_eq_some_iff.mp z
    obtain ⟨b, e2, z⟩ := Option.bind_eq_some_iff.mp z
    obtain ⟨d', e3, z⟩ := Option.bind_eq_some_iff.mp z
    cases z
    exact ⟨T, ms, a.1, a.2, s, e1, fun x s1 => ⟨(x, a.1) :: T, a.2, b.1, b.2, s1, e2, fun y s2 => ix_same s2.frz2 e3 k⟩⟩
theorem xp_fld {e : Expr} {f : Str} {pos : Pos} {g : EF} {c : Nat} (hc : Cls X.K (cl c)) (hn : NoAttr X.K (cl c) f) (he : XP X cl P e g) (hb : attributeBase e f X.env (eval e X.env) = eval e X.env := by rfl) : XP X cl P (.Attribute e f pos) (xFld c f g) := fun E hE =>
  PE.weak (pe_fld (he E hE) hb) fun σ H Q ⟨T, ms, m, ms', s, z, k⟩ => by
    unfold xFld at z
    obtain ⟨a, e1, z⟩ := Option.bind_eq_some_iff.mp z
    obtain ⟨d, e2, z⟩ := Option.bind_eq_some_iff.mp z
    cases z
    refine ⟨T, ms, a.1, a.2, s, e1, fun x s1 => ?_⟩
    have s2 := s1.frz
    obtain ⟨fs, e3, e4⟩ := dFld_some e2
    rw [e3] at s2
    obtain ⟨B, hB, q, kp, _⟩ := s2.pure
    have r := q x _ (List.mem_cons_self)
    obtain ⟨ad, dx, vs, rfl, ho, rf⟩ := r.obj_of
    obtain ⟨v, hv, rv⟩ := rf.look e4
    exact ⟨ad, _, dx, vs, v, rfl, hB _ _ ho, hc, hn, hv, k _ (kp v d rv).swap.pop⟩
theorem xp_fldO (i c : Nat) {x f : Str} {p pos : Pos} (hc : Cls X.K (cl c)) (hn : NoAttr X.K (cl c) f) (hN : X.N[i]? = some x := by rfl) (hv : Vis X.env.scope x := by first | exact Or.inl rfl | exact Or.inr (Or.inl rfl) | exact Or.inr (Or.inr rfl))
    (hb : attributeBase (.Name x p) f X.env (eval (.Name x p) X.env) = eval (.Name x p) X.env := by rfl)
    (hd : (x == ("__debug__" : Str)) = false := by decide) (hcd : (x == ("__classdict__" : Str)) = false := by decide) : XP X cl P (.Attribute (.Name x p) f pos) (xFldO i c f) := fun E hE =>
  PE.weak (pe_fld (pe_var hN hv hd hcd) hb) fun σ H Q ⟨T, ms, m, ms', s, z, k⟩ => by
    unfold xFldO at z
    obtain ⟨fs, e1, z⟩ := Option.bind_eq_some_iff.mp z
    obtain ⟨d, e2, z⟩ := Option.bind_eq_some_iff.mp z
    cases z
    obtain ⟨a, dx, vs, B, h1, ha, hl, _, kp⟩ := s.slotO (slO_eq e1)
    obtain ⟨v, h2, h3⟩ := hl f d e2
    exact ⟨.ref a, h1, a, _, dx, vs, v, rfl, ha, hc, hn, h2, k _ (kp v d h3)⟩
end
end Mh
/-! Mh: attributes that are own dicts: read and written by key -/
namespace Mh
open PySem L2
def idxF (f : Str) : List (Str × M) → Option Nat
  | [] => none
  | (g, _) :: r => if g = f then some 0 else (idxF f r).map (· + 1)
theorem idxF_get {f : Str} : ∀ {fs : List (Str × M)} {j : Nat}, idxF f fs = some j → ∃ m, fs[j]? = some (f, m)
  | [], _, h => by cases h
  | (g, m) :: r, j, h => by
    unfold idxF at h
    split at h
    · rename_i e; cases h; subst e; exact ⟨m, rfl⟩
    · obtain ⟨j', h1, rfl⟩ := Option.map_eq_some_iff.mp h
      obtain ⟨m', e⟩ := idxF_get h1
      exact ⟨m', e⟩
theorem idxF_look {f : Str} : ∀ {fs : List (Str × M)} {vs : List (Str × V)} {j : Nat}, vs.map (·.1) = fs.map (·.1) → idxF f fs = some j → ∃ v, vs.lookup f = some v ∧ vs[j]? = some (f, v)
  | [], _, _, _, h => by cases h
  | (g, m) :: r, [], _, hk, _ => by simp at hk
  | (g, m) :: r, (g', v) :: vs, j, hk, h => by
    rw [List.map_cons, List.map_cons, List.cons.injEq] at hk
    obtain ⟨h1, h2⟩ := hk
    dsimp only at h1
    subst h1
    unfold idxF at h
    rw [List.lookup_cons]
    split at h
    · rename_i e; cases h; subst e; exact ⟨v, by simp, rfl⟩
    · rename_i e
      obtain ⟨j', h3, rfl⟩ := Option.map_eq_some_iff.mp h
      obtain ⟨v', e1, e2⟩ := idxF_look h2 h3
      have : (f == g') = false := by simpa using fun z : f = g' => e z.symm
      rw [this]
      exact ⟨v', e1, e2⟩
def fldK (fs : List (Str × M)) (f : Str) : Option (Nat × List (Key × D)) := (idxF f fs).bind fun j => match fs[j]? with
  | some (_, .dk kvs) => some (j, kvs)
  | _ => none
theorem fldK_some {fs : List (Str × M)} {f : Str} {jk : Nat × List (Key × D)} (h : fldK fs f = some jk) : idxF f fs = some jk.1 ∧ fs[jk.1]? = some (f, .dk jk.2) := by
  unfold fldK at h
  obtain ⟨j, h1, h⟩ := Option.bind_eq_some_iff.mp h
  obtain ⟨m, h2⟩ := idxF_get h1
  rw [h2] at h
  cases m with
  | dk kvs => cases h; exact ⟨h1, h2⟩
  | _ => cases h
theorem flM_set (fs : List (Str × M)) (j : Nat) (f : Str) (m : M) : flM (fs.set j (f, m)) = (flM fs).set j (some m) := by
  unfold flM
  rw [List.map_set]
def xFDGet (i c : Nat) (f : Str) (g : EF) : EF := fun ms => (slO ms i c).bind fun fs0 => (idxF f fs0).bind fun _ => (g ms).bind fun b => (slO b.2 i c).bind fun fs => (fldK fs f).bind fun jk => (keyD (frz b.1)).bind fun k => (getK jk.2 k).bind fun d => some (.p d, b.2)
def gFDPut (i c : Nat) (f : Str) (g : EF) : GF := fun m ms => (slO ms i c).bind fun fs0 => (idxF f fs0).bind fun _ => (g ms).bind fun b => (slO b.2 i c).bind fun fs => (fldK fs f).bind fun jk => (keyD (frz b.1)).bind fun k =>
  if jk.2.length < sizeLine then some (b.2.set i (some (.o c (fs.set jk.1 (f, .dk (putKD jk.2 k (frz m))))))) else none
section
variable {X : Cx} {cl : Nat → Addr} {P : List Nat}
theorem xe_fdget (i c : Nat) {x f : Str} {p apos pos : Pos} {e : Expr} {g : EF} (hu : X.A.units + 1 < cLine) (hc : Cls X.K (cl c)) (hn : NoAttr X.K (cl c) f) (he : XP X cl P e g) (hN : X.N[i]? = some x := by rfl) (hv : Vis X.env.scope x := by first | exact Or.inl rfl | exact Or.inr (Or.inl rfl) | exact Or.inr (Or.inr rfl))
    (hb : attributeBase (.Name x p) f X.env (eval (.Name x p) X.env) = eval (.Name x p) X.env := by rfl) (hs : NoSl e := by exact fun _ _ => rfl)
    (hd : (x == ("__debug__" : Str)) = false := by decide) (hcd : (x == ("__classdict__" : Str)) = false := by decide) : XE X cl P (.Subscript (.Attribute (.Name x p) f apos) e pos) (xFDGet i c f g) := fun E hE =>
  PE.weak (pe_dget hu (pe_fld (pe_var hN hv hd hcd) hb) (he E hE) hs) fun σ H Q ⟨T, ms, m, ms', s, z, k⟩ => by
    unfold xFDGet at z
    obtain ⟨fs0, e0, z⟩ := Option.bind_eq_some_iff.mp z
    obtain ⟨j0, ej0, z⟩ := Option.bind_eq_some_iff.mp z
    obtain ⟨b, e1, z⟩ := Option.bind_eq_some_iff.mp z
    obtain ⟨fs, e2, z⟩ := Option.bind_eq_some_iff.mp z
    obtain ⟨jk, e3, z⟩ := Option.bind_eq_some_iff.mp z
    obtain ⟨kk, e4, z⟩ := Option.bind_eq_some_iff.mp z
    obtain ⟨d, e5, z⟩ := Option.bind_eq_some_iff.mp z
    cases z
    obtain ⟨a, dx, vs, E2, h1, ha, hk, s2, cl1⟩ := s.openO (slO_some e0)
    obtain ⟨v0, hl0, _⟩ := idxF_look hk ej0
    refine ⟨.ref a, h1, a, _, dx, vs, v0, rfl, ha, hc, hn, hl0, T, ms, b.1, b.2, s, e1, fun y s1 => ?_⟩
    obtain ⟨a', dx', vs', E3, h1', ha', hk', s3, cl3⟩ := s1.frz.openO (slO_some e2)
    rw [h1] at h1'
    cases h1'
    rw [ha] at ha'
    cases ha'
    obtain ⟨hj, hjm⟩ := fldK_some e3
    have hlen : (b.2.set i none).length = σ.length := by rw [List.length_set]; exact s1.len
    have hm : (b.2.set i none ++ flM fs)[σ.length + jk.1]? = some (some (.dk jk.2)) := by
      rw [List.getElem?_append_right (by omega), hlen, Nat.add_sub_cancel_left]
      unfold flM
      rw [List.getElem?_map, hjm]
      rfl
    obtain ⟨ad, B, vsK, hσ, hB, hdk, rk, q, wr, w0⟩ := s3.slotK hm
    obtain ⟨v1, hl1, hv1⟩ := idxF_look hk' hj
    rw [hl0] at hl1
    cases hl1
    rw [List.getElem?_append_right (by omega), Nat.add_sub_cancel_left] at hσ
    unfold flV at hσ
    rw [List.getElem?_map, hv1] at hσ
    cases hσ
    have ry := (q y (frz b.1) (by simp)).key e4
    obtain ⟨v, hv2, rv⟩ := rk.get.1 d e5
    refine ⟨ad, v, rfl, .inl ⟨vsK, kk, .inl hdk, ry, hv2.symm⟩, k v _ ?_⟩
    have s4 := w0 [(v, d)] (by simpa using rv)
    have s5 := cl3 ((v, .p d) :: (y, .p (frz b.1)) :: T) (b.2.set i none) fs H (by rw [List.length_set]) (hole_at (slO_some e2)) rfl s4
    rw [set_back (slO_some e2)] at s5
    exact s5.swap.pop
theorem xg_fdput (i c : Nat) {x f : Str} {p apos pos : Pos} {e : Expr} {g : EF} (hu : X.A.units + 1 < cLine) (hc : Cls X.K (cl c)) (hn : NoAttr X.K (cl c) f) (he : XP X cl P e g) (hN : X.N[i]? = some x := by rfl) (hv : Vis X.env.scope x := by first | exact Or.inl rfl | exact Or.inr (Or.inl rfl) | exact Or.inr (Or.inr rfl))
    (hb : attributeBase (.Name x p) f X.env (eval (.Name x p) X.env) = eval (.Name x p) X.env := by rfl)
    (hd : (x == ("__debug__" : Str)) = false := by decide) (hcd : (x == ("__classdict__" : Str)) = false := by decide)
    (hg : ∀ v, assign (.Subscript (.Attribute (.Name x p) f apos) e pos) X.env v = (do
      let ov ← holding [v] (eval (.Attribute (.Name x p) f apos) X.env)
      let iv ← holding [v, ov] (eval e X.env)
      standAt pos
      holding [v, ov, iv] (setItem ov iv v)
      release [v, ov, iv] []) := by intro _; rfl) : XG X cl P (.Subscript (.Attribute (.Name x p) f apos) e pos) [] (gFDPut i c f g) := fun E hE =>
  PG.weak (pg_sub (pe_fld (pe_var hN hv hd hcd) hb) (he E hE) (set_dict hu) hg) fun w σ H Q ⟨T, ms, m, ms', s, z, k⟩ => by
    unfold gFDPut at z
    obtain ⟨fs0, e0, z⟩ := Option.bind_eq_some_iff.mp z
    obtain ⟨j0, ej0, z⟩ := Option.bind_eq_some_iff.mp z
    obtain ⟨b, e1, z⟩ := Option.bind_eq_some_iff.mp z
    obtain ⟨fs, e2, z⟩ := Option.bind_eq_some_iff.mp z
    obtain ⟨jk, e3, z⟩ := Option.bind_eq_some_iff.mp z
    obtain ⟨kk, e4, z⟩ := Option.bind_eq_some_iff.mp z
    split at z
    · rename_i hsz
      cases z
      obtain ⟨a, dx, vs, E2, h1, ha, hk, s2, cl1⟩ := s.openO (slO_some e0)
      obtain ⟨v0, hl0, _⟩ := idxF_look hk ej0
      refine ⟨.ref a, h1, a, _, dx, vs, v0, rfl, ha, hc, hn, hl0, (w, .p (frz m)) :: T, ms, b.1, b.2, s.frz, e1, fun y s1 => ?_⟩
      obtain ⟨a', dx', vs', E3, h1', ha', hk', s3, cl3⟩ := s1.frz.openO (slO_some e2)
      rw [h1] at h1'
      cases h1'
      rw [ha] at ha'
      cases ha'
      obtain ⟨hj, hjm⟩ := fldK_some e3
      have hlen : (b.2.set i none).length = σ.length := by rw [List.length_set]; exact s1.len
      have hm : (b.2.set i none ++ flM fs)[σ.length + jk.1]? = some (some (.dk jk.2)) := by
        rw [List.getElem?_append_right (by omega), hlen, Nat.add_sub_cancel_left]
        unfold flM
        rw [List.getElem?_map, hjm]
        rfl
      obtain ⟨ad, B, vsK, hσ, hB, hdk, rk, q, wr, w0⟩ := s3.slotK hm
      obtain ⟨v1, hl1, hv1⟩ := idxF_look hk' hj
      rw [hl0] at hl1
      cases hl1
      rw [List.getElem?_append_right (by omega), Nat.add_sub_cancel_left] at hσ
      unfold flV at hσ
      rw [List.getElem?_map, hv1] at hσ
      cases hσ
      have ry := (q y (frz b.1) (by simp)).key e4
      have rw' := q w (frz m) (by simp)
      subst ry
      refine ⟨ad, _, rfl, DPut.k hdk (by rw [rk.len]; exact hsz), ?_⟩
      have s4 := wr (putK vsK kk w) (putKD jk.2 kk (frz m)) [] (rk.put rw') (by simp)
      have eset : (b.2.set i none ++ flM fs).set (σ.length + jk.1) (some (.dk (putKD jk.2 kk (frz m)))) = b.2.set i none ++ flM (fs.set jk.1 (f, .dk (putKD jk.2 kk (frz m)))) := by
        rw [List.set_append_right _ _ (by omega), hlen, Nat.add_sub_cancel_left, flM_set]
      rw [eset] at s4
      have hk2 : (fs.set jk.1 (f, M.dk (putKD jk.2 kk (frz m)))).map (·.1) = fs.map (·.1) := by
        rw [List.map_set]
        refine List.ext_getElem? fun q => ?_
        by_cases hq : jk.1 = q
        · subst hq
          have hlt : jk.1 < (fs.map (·.1)).length := by rw [List.length_map]; exact (List.getElem?_eq_some_iff.mp hjm).1
          rw [List.getElem?_set_self hlt, List.getElem?_map, hjm]
          rfl
        · rw [List.getElem?_set_ne hq]
      have s5 := cl3 _ (b.2.set i none) _ _ (by rw [List.length_set]) (hole_at (slO_some e2)) hk2 s4
      rw [List.set_set] at s5
      exact k σ _ (fun _ _ => rfl) rfl ((show Stt ⟨cl, X.K⟩ E ((kV kk, .p (frz b.1)) :: (w, .p (frz m)) :: T) σ _ _ from s5).pop.pop)
    · cases z
end
end Mh
/-! Mh: a call whose arguments are simple or attributes of an own object, which are lent -/
namespace Mh
open PySem L2
def avF (i c : Nat) : List (EF ⊕ Str) → En → Option (List (D ⊕ Str) × En)
  | [], ms => some ([], ms)
  | .inl g :: r, ms => (g ms).bind fun a => (avF i c r a.2).bind fun b => some (.inl (frz a.1) :: b.1, b.2)
  | .inr f :: r, ms => (slO ms i c).bind fun fs => (idxF f fs).bind fun _ => (avF i c r ms).bind fun b => some (.inr f :: b.1, b.2)
def tkF (n : Nat) (fs : List (Str × M)) : List (D ⊕ Str) → En → Option (List M × List (Option Nat) × En)
  | [], env => some ([], [], env)
  | .inl d :: r, env => (tkF n fs r env).bind fun b => some (.p d :: b.1, none :: b.2.1, b.2.2)
  | .inr f :: r, env => (idxF f fs).bind fun j => match env[n + j]? with
    | some (some m) => (tkF n fs r (env.set (n + j) none)).bind fun b => some (m :: b.1, some (n + j) :: b.2.1, b.2.2)
    | _ => none
def allS : En → Option (List M)
  | [] => some []
  | some m :: r => (allS r).map fun xs => m :: xs
  | none :: _ => none
def cloO (i c n : Nat) (fs : List (Str × M)) (env : En) : Option En := (allS (env.drop n)).bind fun xs => if isHole (env.take n)[i]? = true ∧ xs.length = fs.length then some ((env.take n).set i (some (.o c ((fs.map (·.1)).zip xs)))) else none
def xFnF (ff : FF) (i c : Nat) (ars : List (EF ⊕ Str)) : EF := fun ms => (avF i c ars ms).bind fun l => (slO l.2 i c).bind fun fs => (tkF l.2.length fs l.1 (l.2.set i none ++ flM fs)).bind fun t =>
  (ff t.1).bind fun r => (putB t.2.1 r.2 t.2.2).bind fun env => (cloO i c l.2.length fs env).bind fun ms' => some (r.1, ms')
inductive ArgV (at' : List (Str × V)) : List V → List (D ⊕ Str) → Prop where
  | nil : ArgV at' [] []
  | v {x : V} {d : D} {vs : List V} {l : List (D ⊕ Str)} : ArgV at' vs l → ArgV at' (x :: vs) (.inl d :: l)
  | f {x : V} {f : Str} {vs : List V} {l : List (D ⊕ Str)} : at'.lookup f = some x → ArgV at' vs l → ArgV at' (x :: vs) (.inr f :: l)
def parV : List V → List (D ⊕ Str) → List (V × M)
  | v :: vs, .inl d :: l => (v, .p d) :: parV vs l
  | _ :: vs, .inr _ :: l => parV vs l
  | _, _ => []
def tF (Y : Tx) (E : Ent) (i c : Nat) (ars : List (EF ⊕ Str)) : TA := fun σ H Q => ∃ T ms l ms', Stt Y E T σ ms H ∧ avF i c ars ms = some (l, ms') ∧ ∀ vs, (∀ a dx at', σ[i]? = some (some (.ref a)) → H a = some (.ins (Y.cl c) dx at') → ArgV at' vs l) → Stt Y E (parV vs l ++ T) σ ms' H → Q vs H
def XF (X : Cx) (cl : Nat → Addr) (P : List Nat) (i c : Nat) (es : List Expr) (ars : List (EF ⊕ Str)) : Prop := ∀ E : Ent, E.prot.map (·.1) = P → PA X es (tF ⟨cl, X.K⟩ E i c ars)
theorem Stt.dupIn {Y : Tx} {E : Ent} {T : List (V × M)} {σ : L2.St} {ms : En} {H : Hp} {v : V} {d : D} (s : Stt Y E T σ ms H) (h : (v, M.p d) ∈ T) : Stt Y E ((v, .p d) :: T) σ ms H := by
  obtain ⟨B, _, q, kp, _⟩ := s.pure
  exact kp v d (q v d h)
theorem Stt.dropL {Y : Tx} {E : Ent} {T : List (V × M)} {σ : L2.St} {ms : En} {H : Hp} : ∀ {A : List (V × M)}, Stt Y E (A ++ T) σ ms H → Stt Y E T σ ms H
  | [], s => s
  | (_, _) :: _, s => Stt.dropL (Stt.pop s)
theorem take_all {Y : Tx} {E : Ent} {σ : L2.St} {at' : List (Str × V)} {fs : List (Str × M)} {H : Hp} (hk : at'.map (·.1) = fs.map (·.1)) : ∀ {vs : List V} {l : List (D ⊕ Str)} {env env3 : En} {T : List (V × M)} {mm : List M} {bs : List (Option Nat)}, ArgV at' vs l → tkF σ.length fs l env = some (mm, bs, env3) →
    (∀ q ∈ parV vs l, q ∈ T) → Stt Y E T (σ ++ flV at') env H → Stt Y E (vs.zip mm ++ T) (σ ++ flV at') env3 H ∧ bs.length = vs.length ∧ mm.length = vs.length ∧ ∀ (j q : Nat), bs[j]? = some (some q) → ∃ v, vs[j]? = some v ∧ (σ ++ flV at')[q]? = some (some v)
  | _, _, env, env3, T, mm, bs, .nil, h, _, s => by
    cases h
    exact ⟨s, rfl, rfl, fun j q e => by simp at e⟩
  | _, _, env, env3, T, mm, bs, .v (x := x) (d := d) (vs := vs) (l := l) hA, h, hp, s => by
    unfold tkF at h
    obtain ⟨b, h1, h⟩ := Option.bind_eq_some_iff.mp h
    cases h
    obtain ⟨s1, l1, l2, l3⟩ := take_all hk hA h1 (fun q hq => hp q (List.mem_cons_of_mem _ hq)) s
    refine ⟨?_, by simp [l1], by simp [l2], fun j q e => ?_⟩
    · rw [List.zip_cons_cons, List.cons_append]
      exact s1.dupIn (List.mem_append_right _ (hp (x, .p d) List.mem_cons_self))
    · cases j with
      | zero => simp at e
      | succ j => simpa using l3 j q (by simpa using e)
  | _, _, env, env3, T, mm, bs, .f (x := x) (f := f) (vs := vs) (l := l) hl hA, h, hp, s => by
    unfold tkF at h
    obtain ⟨j0, hj, h⟩ := Option.bind_eq_some_iff.mp h
    split at h
    · rename_i m hm
      obtain ⟨b, h1, h⟩ := Option.bind_eq_some_iff.mp h
      cases h
      obtain ⟨v, e1, e2⟩ := idxF_look hk hj
      rw [hl] at e1
      cases e1
      have hσ : (σ ++ flV at')[σ.length + j0]? = some (some x) := by
        rw [List.getElem?_append_right (by omega), Nat.add_sub_cancel_left]
        unfold flV
        rw [List.getElem?_map, e2]
        rfl
      have s0 := s.take hσ hm
      obtain ⟨s1, l1, l2, l3⟩ := take_all hk hA h1 (T := (x, m) :: T) (fun q hq => List.mem_cons_of_mem _ (hp q hq)) s0
      refine ⟨?_, by simp [l1], by simp [l2], fun j q e => ?_⟩
      · rw [List.zip_cons_cons, List.cons_append]
        exact s1.of (s1.rel.perm (List.Perm.append_right _ List.perm_middle))
      · cases j with
        | zero => simp at e; subst e; exact ⟨x, rfl, hσ⟩
        | succ j => simpa using l3 j q (by simpa using e)
    · cases h
theorem allS_eq : ∀ {env : En} {xs : List M}, allS env = some xs → env = xs.map some
  | [], xs, h => by cases h; rfl
  | some m :: r, xs, h => by
    unfold allS at h
    obtain ⟨ys, h1, rfl⟩ := Option.map_eq_some_iff.mp h
    rw [allS_eq h1]
    rfl
  | none :: _, xs, h => by cases h
theorem flM_zip : ∀ {ks : List Str} {xs : List M}, xs.length = ks.length → flM (ks.zip xs) = xs.map some ∧ (ks.zip xs).map (·.1) = ks
  | [], [], _ => ⟨rfl, rfl⟩
  | [], _ :: _, h => by simp at h
  | _ :: _, [], h => by simp at h
  | k :: ks, x :: xs, h => by
    obtain ⟨h1, h2⟩ := flM_zip (ks := ks) (xs := xs) (by simpa using h)
    refine ⟨?_, ?_⟩
    · show some x :: flM (ks.zip xs) = _
      rw [h1]
      rfl
    · show k :: (ks.zip xs).map (·.1) = _
      rw [h2]
section
variable {X : Cx} {cl : Nat → Addr} {P : List Nat} {i c : Nat}
theorem xf_nil : XF X cl P i c [] [] := fun E _ => PA.weak pa_nil fun σ H Q ⟨T, ms, l, ms', s, e, k⟩ => by
  cases e
  exact k [] (fun _ _ _ _ _ => .nil) s
theorem xf_val {e : Expr} {es : List Expr} {g : EF} {ars : List (EF ⊕ Str)} (he : XP X cl P e g) (hr : XF X cl P i c es ars) (hs : starEach (e :: es) X.env = (false, eval e X.env) :: starEach es X.env := by rfl) : XF X cl P i c (e :: es) (.inl g :: ars) := fun E hE =>
  PA.weak (pa_cons (he E hE) (hr E hE) hs) fun σ H Q ⟨T, ms, l, ms', s, e, k⟩ => by
    unfold avF at e
    obtain ⟨a, e1, e⟩ := Option.bind_eq_some_iff.mp e
    obtain ⟨b, e2, e⟩ := Option.bind_eq_some_iff.mp e
    cases e
    refine ⟨T, ms, a.1, a.2, s, e1, fun x s1 => ⟨(x, .p (frz a.1)) :: T, a.2, b.1, b.2, s1.frz, e2, fun vs hA s2 => k (x :: vs) (fun a' dx at' h1 h2 => .v (hA a' dx at' h1 h2)) ?_⟩⟩
    exact s2.of (s2.rel.perm (List.Perm.append_right _ List.perm_middle))
theorem xf_fld {x f : Str} {p pos : Pos} {es : List Expr} {ars : List (EF ⊕ Str)} (hc : Cls X.K (cl c)) (hn : NoAttr X.K (cl c) f) (hr : XF X cl P i c es ars) (hN : X.N[i]? = some x := by rfl) (hv : Vis X.env.scope x := by first | exact Or.inl rfl | exact Or.inr (Or.inl rfl) | exact Or.inr (Or.inr rfl))
    (hb : attributeBase (.Name x p) f X.env (eval (.Name x p) X.env) = eval (.Name x p) X.env := by rfl)
    (hs : starEach (.Attribute (.Name x p) f pos :: es) X.env = (false, eval (.Attribute (.Name x p) f pos) X.env) :: starEach es X.env := by rfl)
    (hd : (x == ("__debug__" : Str)) = false := by decide) (hcd : (x == ("__classdict__" : Str)) = false := by decide) : XF X cl P i c (.Attribute (.Name x p) f pos :: es) (.inr f :: ars) := fun E hE =>
  PA.weak (pa_cons (pe_fld (pe_var hN hv hd hcd) hb) (hr E hE) hs) fun σ H Q ⟨T, ms, l, ms', s, e, k⟩ => by
    unfold avF at e
    obtain ⟨fs, e1, e⟩ := Option.bind_eq_some_iff.mp e
    obtain ⟨j, e2, e⟩ := Option.bind_eq_some_iff.mp e
    obtain ⟨b, e3, e⟩ := Option.bind_eq_some_iff.mp e
    cases e
    obtain ⟨a, dx, vs, E2, h1, ha, hk, s2, cl1⟩ := s.openO (slO_some e1)
    obtain ⟨v0, hl0, _⟩ := idxF_look hk e2
    refine ⟨.ref a, h1, a, _, dx, vs, v0, rfl, ha, hc, hn, hl0, T, ms, b.1, b.2, s, e3, fun ws hA s3 => k (v0 :: ws) (fun a' dx' at' h1' ha' => ?_) s3⟩
    have h1'' := h1'
    rw [h1] at h1'
    cases h1'
    have ha'' := ha'
    rw [ha] at ha'
    cases ha'
    exact .f hl0 (hA a dx vs h1'' ha'')
theorem callF_in {E : Ent} {T : List (V × M)} {σ : L2.St} {ms1 ms' : En} {H : Hp} {vs : List V} {l : List (D ⊕ Str)} {n : Nat} {fs : List (Str × M)} {t : List M × List (Option Nat) × En} {r : M × En} {env : En} {ff : FF} {Q : VK}
    (hA : ∀ a dx at', σ[i]? = some (some (.ref a)) → H a = some (.ins (cl c) dx at') → ArgV at' vs l) (s : Stt ⟨cl, X.K⟩ E (parV vs l ++ T) σ ms1 H) (e1 : slO ms1 i c = some fs) (e2 : tkF ms1.length fs l (ms1.set i none ++ flM fs) = some t) (hn : t.1.length = n)
    (e3 : ff t.1 = some r) (e4 : putB t.2.1 r.2 t.2.2 = some env) (e5 : cloO i c ms1.length fs env = some ms') (k : ∀ v H', Stt ⟨cl, X.K⟩ E ((v, r.1) :: T) σ ms' H' → Q v H') : spF ⟨cl, X.K⟩ n ff vs H Q fun _ _ _ => False := by
  obtain ⟨a, dx, at', E2, h1, ha, hk, s2, cl1⟩ := s.openO (slO_some e1)
  have hlen : ms1.length = σ.length := s.len
  obtain ⟨mm, bs, env3⟩ := t
  rw [hlen] at e2
  dsimp only at e3 e4 hn
  obtain ⟨s3, l1, l2, l3⟩ := take_all hk (hA a dx at' h1 ha) e2 (fun q hq => List.mem_append_left _ hq) s2
  have := call_raw (Y := ⟨cl, X.K⟩) (vs := vs) (dvs := []) (l := mm) (dd := []) (n := n) (ff := ff) (m := r.1) (c := r.2) (Q := Q) (E0 := fun _ _ _ => False) (fun _ => .nil) l2.symm (by simpa using hn) s3 (by simpa using e3) fun v H3 s5 => k v H3 ?_
  · simpa using this
  · have s6 := putB_ok e4 (by simp [l1]) (fun j q e => by simpa using l3 j q e) s5
    unfold cloO at e5
    obtain ⟨xs, e6, e5⟩ := Option.bind_eq_some_iff.mp e5
    split at e5
    · rename_i hh
      cases e5
      obtain ⟨f1, f2⟩ := flM_zip (ks := fs.map (·.1)) (xs := xs) (by rw [List.length_map]; exact hh.2)
      have eenv : env = env.take ms1.length ++ flM ((fs.map (·.1)).zip xs) := by
        rw [f1, ← allS_eq e6, List.take_append_drop]
      have hl6 := s6.len
      rw [List.length_append] at hl6
      rw [eenv] at s6
      have htl : (env.take ms1.length).length = (ms1.set i none).length := by
        rw [List.length_take, List.length_set]
        omega
      have s7 := cl1 _ _ _ _ (htl.trans (List.length_set ..)) (isHole_eq hh.1) f2 s6
      have s8 : Stt ⟨cl, X.K⟩ E (parV vs l ++ (v, r.1) :: T) σ _ H3 := s7.of (s7.rel.perm (List.Perm.append_right _ List.perm_middle.symm))
      exact s8.dropL
    · cases e5
theorem xe_calF {k n : Nat} {ff : FF} {x : Str} {p pos : Pos} {e : Expr} {es : List Expr} {ars : List (EF ⊕ Str)} (cf : Cal X.prog X.w X.K X.mg X.base cl x k n ff) (hr : Room k X.A) (hn : ars.length = n)
    (ha : XF X cl P i c (e :: es) ars) (hg : Gl X x := by rfl) (hdb : (x == ("__debug__" : Str)) = false := by decide) (he : starEach (e :: es) X.env = (false, eval e X.env) :: starEach es X.env := by rfl) (hpl : (backTo pos (starEach es X.env)).any (·.1) = false := by rfl) :
    XE X cl P (.Call (.Name x p) (e :: es) [] pos) (xFnF ff i c ars) := by
  obtain ⟨f, fd, ps, hm, hk, F, hb⟩ := cf.ex
  have la : ∀ {ars : List (EF ⊕ Str)} {ms : En} {l : List (D ⊕ Str) × En}, avF i c ars ms = some l → l.1.length = ars.length := by
    intro ars
    induction ars with
    | nil => intro ms l h; cases h; rfl
    | cons a r ih =>
      intro ms l h
      cases a with
      | inl g =>
        unfold avF at h
        obtain ⟨a, _, h⟩ := Option.bind_eq_some_iff.mp h
        obtain ⟨b, h2, h⟩ := Option.bind_eq_some_iff.mp h
        cases h
        simp [ih h2]
      | inr g =>
        unfold avF at h
        obtain ⟨a, _, h⟩ := Option.bind_eq_some_iff.mp h
        obtain ⟨j, _, h⟩ := Option.bind_eq_some_iff.mp h
        obtain ⟨b, h2, h⟩ := Option.bind_eq_some_iff.mp h
        cases h
        simp [ih h2]
  have lt : ∀ {l : List (D ⊕ Str)} {m : Nat} {fs : List (Str × M)} {env : En} {t : List M × List (Option Nat) × En}, tkF m fs l env = some t → t.1.length = l.length := by
    intro l
    induction l with
    | nil => intro m fs env t h; cases h; rfl
    | cons a r ih =>
      intro m fs env t h
      cases a with
      | inl d =>
        unfold tkF at h
        obtain ⟨b, h2, h⟩ := Option.bind_eq_some_iff.mp h
        cases h
        simp [ih h2]
      | inr g =>
        unfold tkF at h
        obtain ⟨j, _, h⟩ := Option.bind_eq_some_iff.mp h
        split at h
        · obtain ⟨b, h2, h⟩ := Option.bind_eq_some_iff.mp h
          cases h
          simp [ih h2]
        · cases h
  exact fun E hE => PE.weak (pe_call F hr hg hm hk hb (dvs := []) .nil pass0 (ha E hE) hdb he hpl) fun σ H Q ⟨T, ms, m, ms', s, z, kk⟩ => by
    unfold xFnF at z
    obtain ⟨l, e1, z⟩ := Option.bind_eq_some_iff.mp z
    obtain ⟨fs, e2, z⟩ := Option.bind_eq_some_iff.mp z
    obtain ⟨t, e3, z⟩ := Option.bind_eq_some_iff.mp z
    obtain ⟨r, e4, z⟩ := Option.bind_eq_some_iff.mp z
    obtain ⟨env, e5, z⟩ := Option.bind_eq_some_iff.mp z
    obtain ⟨ms2, e6, z⟩ := Option.bind_eq_some_iff.mp z
    cases z
    refine ⟨T, ms, l.1, l.2, s, e1, fun vs hA s1 => ?_⟩
    have := callF_in (n := n) (ff := ff) (Q := Q) hA s1 e2 e3 (by rw [lt e3, la e1]; exact hn) e4 e5 e6 kk
    simpa using this
end
end Mh
/-! Mh: dict comprehensions -/
namespace Mh
open PySem L2
def dcF (tg : GF) (tt : TF) (tk tv : EF) (vs : List Nat) : List D → En → List (Key × D) → Option (List (Key × D) × En)
  | [], ms, acc => some (acc, ms)
  | d :: ds, ms, acc => (tg (.p d) ms).bind fun m1 => (tt m1).bind fun b => if b.1 = true then (tk b.2).bind fun y => (tv y.2).bind fun z => (keyD (frz y.1)).bind fun k =>
      if acc.length < sizeLine then dcF tg tt tk tv vs ds (wpM z.2 vs) (putKD acc k (frz z.1)) else none
    else dcF tg tt tk tv vs ds (wpM b.2 vs) acc
def xDc (it : IF) (tg : GF) (tt : TF) (tk tv : EF) (vs : List Nat) : EF := fun ms => (it ms).bind fun l => (dcF tg tt tk tv vs l.1 (wpM l.2 vs) []).bind fun r => some (.dk r.1, r.2)
section
variable {X : Cx} {cl : Nat → Addr} {P : List Nat}
theorem dc_in {E : Ent} {it : IF} {W : List Nat} {t : GF} {tt : TF} {tk tv : EF} {vs : List Nat} (hW : ∀ j ∈ W, j ∈ vs) (hv : ∀ v ∈ vs, v ∉ E.prot.map (·.1)) :
    ∀ σ H Q, tE ⟨cl, X.K⟩ E (xDc it t tt tk tv vs) σ H Q →
    tDc (tI ⟨cl, X.K⟩ E it) (tG ⟨cl, X.K⟩ E W t) (tT ⟨cl, X.K⟩ E tt) (tE ⟨cl, X.K⟩ E tk) (tE ⟨cl, X.K⟩ E tv) vs σ H Q := fun σ H Q ⟨T, ms, m, ms', s, z, k⟩ => by
  unfold xDc at z
  obtain ⟨l, e1, z⟩ := Option.bind_eq_some_iff.mp z
  obtain ⟨r, e2, z⟩ := Option.bind_eq_some_iff.mp z
  cases z
  refine ⟨T, ms, l.1, l.2, s, e1, fun J U H1 hJ s1 D hD => ?_⟩
  have s2 : Stt ⟨cl, X.K⟩ E ((.ref D, .dk []) :: (U ++ T)) σ l.2 (upd H1 D (.dK [])) := by
    obtain ⟨B, _, _, _, _, _, kd, _⟩ := s1.pure
    exact kd D [] [] hD .nil
  have inn : ∀ {x : V × M} {U T : List (V × M)} {σ : St} {ms : En} {H : Hp}, Stt ⟨cl, X.K⟩ E (x :: (U ++ T)) σ ms H → Stt ⟨cl, X.K⟩ E (U ++ x :: T) σ ms H := fun s => s.of (s.rel.perm (List.Perm.append_right _ List.perm_middle.symm))
  have out : ∀ {x : V × M} {U T : List (V × M)} {σ : St} {ms : En} {H : Hp}, Stt ⟨cl, X.K⟩ E (U ++ x :: T) σ ms H → Stt ⟨cl, X.K⟩ E (x :: (U ++ T)) σ ms H := fun s => s.of (s.rel.perm (List.Perm.append_right _ List.perm_middle))
  refine ⟨fun i m H => m = l.1.length - i ∧ i ≤ l.1.length ∧ ∃ acc msi, NoneAt vs msi ∧ Stt ⟨cl, X.K⟩ E ((.ref D, .dk acc) :: (U ++ T)) (wipe σ vs) msi H ∧ dcF t tt tk tv vs (l.1.drop i) msi acc = some r,
    ⟨_, rfl, Nat.zero_le _, [], wpM l.2 vs, wpM_none _ _, s2.toWipe hv, e2⟩, ?_⟩
  rintro i m H2 ⟨rfl, hi', acc, msi, hn, si, zi⟩
  by_cases hlt : i < l.1.length
  · have hd : l.1.drop i = l.1[i] :: l.1.drop (i + 1) := List.drop_eq_getElem_cons hlt
    rw [hd] at zi
    obtain ⟨go, yl⟩ := (hJ i E _ _ msi H2 (inn si)).2 l.1[i] (List.getElem?_eq_getElem hlt)
    refine .inr ⟨go, fun H' => i + 1 ≤ l.1.length ∧ ∃ acc msi, NoneAt vs msi ∧ Stt ⟨cl, X.K⟩ E ((.ref D, .dk acc) :: (U ++ T)) (wipe σ vs) msi H' ∧ dcF t tt tk tv vs (l.1.drop (i + 1)) msi acc = some r, fun H' ⟨h1, h2⟩ => ⟨_, by omega, rfl, h1, h2⟩, fun x H3 y => ?_⟩
    unfold dcF at zi
    obtain ⟨m1, f1, zi⟩ := Option.bind_eq_some_iff.mp zi
    obtain ⟨b, f2, zi⟩ := Option.bind_eq_some_iff.mp zi
    refine ⟨_, msi, .p l.1[i], m1, yl x H3 y, f1, fun σ3 H4 hj hl3 s3 => ?_⟩
    have hw : wipe σ3 vs = wipe σ vs := wipe_eq (hl3.trans (wipe_length σ vs)) fun j hjv => (hj j fun z => hjv (hW j z)).trans (wipe_out hjv)
    refine ⟨hw, _, m1, b.1, b.2, s3, f2, fun H5 s5 => ?_⟩
    dsimp only
    by_cases h : b.1 = true
    · rw [if_pos h] at zi ⊢
      obtain ⟨y1, f3, zi⟩ := Option.bind_eq_some_iff.mp zi
      obtain ⟨z1, f4, zi⟩ := Option.bind_eq_some_iff.mp zi
      obtain ⟨kk, f5, zi⟩ := Option.bind_eq_some_iff.mp zi
      split at zi
      · rename_i hz
        refine ⟨_, b.2, y1.1, y1.2, out s5, f3, fun u H6 s6 => ⟨_, y1.2, z1.1, z1.2, s6, f4, fun w H7 s7 => ?_⟩⟩
        have s8 := s7.frz2.toWipe (vs := vs) hv
        rw [hw] at s8
        have s9 : Stt ⟨cl, X.K⟩ E ((.ref D, .dk acc) :: (w, .p (frz z1.1)) :: (u, .p (frz y1.1)) :: (U ++ T)) (wipe σ vs) (wpM z1.2 vs) H7 := s8.of (s8.rel.perm (List.Perm.append_right _ (List.perm_middle (l₁ := [(w, M.p (frz z1.1)), (u, M.p (frz y1.1))]))))
        obtain ⟨a, B, vs', ea, hB, ha, rk, q, wr, _⟩ := s9.ownK
        cases ea
        have ru := (q u (frz y1.1) (by simp)).key f5
        have rw' := q w (frz z1.1) (by simp)
        refine ⟨vs', kk, ru, ha, by rw [rk.len]; exact hz, hlt, _, _, wpM_none _ _, ?_, zi⟩
        have s10 := wr (putK vs' kk w) (putKD acc kk (frz z1.1)) [] (rk.put rw') (by simp)
        exact (show Stt ⟨cl, X.K⟩ E ((.ref D, .dk (putKD acc kk (frz z1.1))) :: (w, .p (frz z1.1)) :: (u, .p (frz y1.1)) :: (U ++ T)) (wipe σ vs) (wpM z1.2 vs) _ from s10).swap.pop.swap.pop
      · cases zi
    · rw [if_neg h] at zi ⊢
      have s7 := s5.toWipe (vs := vs) hv
      rw [hw] at s7
      exact ⟨hlt, acc, _, wpM_none _ _, out s7, zi⟩
  · have e : i = l.1.length := by omega
    subst e
    rw [List.drop_length] at zi
    cases zi
    exact .inl ⟨(hJ _ E _ _ _ H2 (inn si)).1 (Nat.le_refl _), k _ _ (si.ofWipe hn s.prot).under⟩
theorem xe_dcV (own : List (Str × Nat)) {vs : List Nat} {kx vx tg iter : Expr} {ifs : List Expr} {scope : Scope} {pos : Pos} {it : IF} {W : List Nat} {t : GF} {tt : TF} {tk tv : EF} (hc : X.calm = true) (hN : X.N.Nodup) (hi : XI X cl P tg iter it) (ok : BlkOk X.N X.env.scope scope own)
    (hg : Blk X scope fun Z => XG Z cl P tg W t) (ht : Blk X scope fun Z => XTs Z cl P ifs tt) (hk : Blk X scope fun Z => XE Z cl P kx tk) (he : Blk X scope fun Z => XE Z cl P vx tv)
    (hvs : own.map (·.2) = vs := by rfl) (hW : ∀ j ∈ W, j ∈ vs := by decide) (hP : ∀ j ∈ vs, j ∉ P := by decide) (hs : ∀ x, foldedSetIterable iter X.env x = pure x := by intro _; rfl) : XE X cl P (.DictComp kx vx [⟨tg, iter, ifs, 0⟩] scope pos) (xDc it t tt tk tv vs) := fun E hE => by
  subst hvs
  exact PE.weak (pe_dc hc hN (hi E hE) ok (fun s H C cs fp => hg s H C cs fp E hE) (fun s H C cs fp => ht s H C cs fp E hE) (fun s H C cs fp => hk s H C cs fp E hE) (fun s H C cs fp => he s H C cs fp E hE) hs) (dc_in hW fun v hv => by rw [hE]; exact hP v hv)
end
theorem xDc_ap (it : IF) (tg : GF) (tt : TF) (tk tv : EF) (vs : List Nat) (ms : En) : xDc it tg tt tk tv vs ms = ((it ms).bind fun l => (dcF tg tt tk tv vs l.1 (wpM l.2 vs) []).bind fun r => some (.dk r.1, r.2)) := by unfold xDc; rfl
end Mh
namespace Mh
open PySem L2
@[simp] theorem xMthO_ap (ff : FF) (dd : List D) (bs : List (Option Nat)) (i c : Nat) (m : Str) (a : AF) (ms : En) : xMthO ff dd bs i c m a ms = ((slO ms i c).bind fun fs => if (fs.lookup m).isNone = true then (a ms).bind fun l => (slO l.2 i c).bind fun fs2 =>
  (ff (.o c fs2 :: l.1 ++ dd.map .p)).bind fun r => (putB (some i :: bs) r.2 (l.2.set i none)).bind fun ms' => some (r.1, ms') else none) := by unfold xMthO; rfl
@[simp] theorem xFDGet_ap (i c : Nat) (f : Str) (g : EF) (ms : En) : xFDGet i c f g ms = ((slO ms i c).bind fun fs0 => (idxF f fs0).bind fun _ => (g ms).bind fun b => (slO b.2 i c).bind fun fs => (fldK fs f).bind fun jk => (keyD (frz b.1)).bind fun k => (getK jk.2 k).bind fun d => some (.p d, b.2)) := by unfold xFDGet; rfl
@[simp] theorem gFDPut_ap (i c : Nat) (f : Str) (g : EF) (m : M) (ms : En) : gFDPut i c f g m ms = ((slO ms i c).bind fun fs0 => (idxF f fs0).bind fun _ => (g ms).bind fun b => (slO b.2 i c).bind fun fs => (fldK fs f).bind fun jk => (keyD (frz b.1)).bind fun k =>
  if jk.2.length < sizeLine then some (b.2.set i (some (.o c (fs.set jk.1 (f, .dk (putKD jk.2 k (frz m))))))) else none) := by unfold gFDPut; rfl
@[simp] theorem xFnF_ap (ff : FF) (i c : Nat) (ars : List (EF ⊕ Str)) (ms : En) : xFnF ff i c ars ms = ((avF i c ars ms).bind fun l => (slO l.2 i c).bind fun fs => (tkF l.2.length fs l.1 (l.2.set i none ++ flM fs)).bind fun t =>
  (ff t.1).bind fun r => (putB t.2.1 r.2 t.2.2).bind fun env => (cloO i c l.2.length fs env).bind fun ms' => some (r.1, ms')) := by unfold xFnF; rfl
@[simp] theorem xDc_ap' (it : IF) (tg : GF) (tt : TF) (tk tv : EF) (vs : List Nat) (ms : En) : xDc it tg tt tk tv vs ms = ((it ms).bind fun l => (dcF tg tt tk tv vs l.1 (wpM l.2 vs) []).bind fun r => some (.dk r.1, r.2)) := xDc_ap it tg tt tk tv vs ms
end Mh
/-! Mh: enumerate over a tuple -/
namespace MhE
open PySem PySem.Spec PyProof.Rows L2
open Sem (wp)
open AutoSeq1 (wpAny_loadPart')
theorem meets_newT (l : Addr) (items : Array Value) (n : Nat) (dct : Option Addr) (sl : Array (Option Value)) :
    Meets (Builtin.«enumerate.__new__» ⟨[.type "enumerate", .ref l], []⟩) (fun _ R s => s.heap.get? l = some { cls := .type "tuple", dict := dct, data := .seq items n, slots := sl } ∧
      R (.ok (.ret (.ref (s.heap.push { cls := .type "tuple_iterator", data := .fields #[.ref l, .int 0 0] }).objs.size)))
        { s with heap := (s.heap.push { cls := .type "tuple_iterator", data := .fields #[.ref l, .int 0 0] }).push { cls := .type "enumerate", data := .fields #[.none, .bool false, .ref s.heap.objs.size, rawInt 0, .none, .none] } }) :=
  .of_wp fun prog w A R s h => by
    obtain ⟨hp, g, d, tk, os⟩ := s; obtain ⟨hl, h⟩ := h
    have hsub := sub_enumerate
    have hL : Heap.IsTuple (Shared.heap ⟨hp, g, d, tk, os⟩) l items := ⟨_, hl, rfl, n, rfl⟩
    wp_walk using wpAny_loadPart' hl
    refine wpAny_stack_any fun st => wpAny_pure ?_
    split
    · rename_i c _ _ _ _ _
      cases (c == Value.type "enumerate")
      · wp_walk using wpAny_loadPart' hl, wpAny_pyIter_tuple hL
        exact ⟨_, rfl, h⟩
      · wp_walk using wpAny_loadPart' hl, wpAny_pyIter_tuple hL
        exact ⟨_, rfl, h⟩
    · wp_walk using wpAny_loadPart' hl, wpAny_pyIter_tuple hL
      exact ⟨_, rfl, h⟩
section
variable {prog : Program} {w : World} {A : Around} {E : Value → Shared → Prop} {s : Shared}
theorem call_tuple {l : Addr} {items : Array Value} {Q : Value → Shared → Prop} (hL : s.heap.IsTuple l items)
    (h : ∀ h', IsEnum h' (s.heap.objs.size + 1) s.heap.objs.size 0 .none → h'.IsTupleIter s.heap.objs.size l 0 → h'.objs.size = s.heap.objs.size + 2 →
      (∀ b o, s.heap.get? b = some o → h'.get? b = some o) → Q (.ref (s.heap.objs.size + 1)) { s with heap := h' }) :
    wpAny (model prog w) A (call (.type "enumerate") [.ref l]) Q E s := by
  obtain ⟨⟨c, dct, dt, sl⟩, hl, hc, n, hd⟩ := hL
  replace hc : c = .type "tuple" := hc
  replace hd : dt = .seq items n := hd
  subst hc hd
  refine callType_new F.called_enumerate (by decide) (F.typeCall_enumerate_1 _) (F.newCall_enumerate_1 _) (fun obj => F.args_object_init_2 obj _) F.entry_enumerate_new
    (meets_newT l items n dct sl) ⟨hl, ?_⟩
  have hz : (s.heap.push { cls := .type "tuple_iterator", data := .fields #[.ref l, .int 0 0] }).objs.size = s.heap.objs.size + 1 := Heap.size_push ..
  show _ ∧ _
  rw [hz]
  have he : IsEnum ((s.heap.push { cls := .type "tuple_iterator", data := .fields #[.ref l, .int 0 0] }).push
      { cls := .type "enumerate", data := .fields #[.none, .bool false, .ref s.heap.objs.size, rawInt 0, .none, .none] }) (s.heap.objs.size + 1) s.heap.objs.size 0 .none := by
    have := Heap.get?_push_size (s.heap.push { cls := .type "tuple_iterator", data := .fields #[.ref l, .int 0 0] })
      (o := { cls := .type "enumerate", data := .fields #[.none, .bool false, .ref s.heap.objs.size, rawInt 0, .none, .none] }) rfl
    rw [hz] at this; exact this
  refine ⟨⟨_, he, rfl⟩, h _ he ⟨_, Heap.get?_push_of_some _ (Heap.get?_push_size _ rfl), rfl, rfl⟩ (by rw [Heap.size_push, hz]) fun b o x => Heap.get?_push_of_some _ (Heap.get?_push_of_some _ x)⟩
end
theorem next_end {prog : Program} {w : World} {A : Around} {E : Value → Shared → Prop} {s : Shared} {e it t : Addr} {j : Nat} {items : Array Value} {i : Int} {old : Value} {Q : Option Value → Shared → Prop} (hh : A.in1.handled = none)
    (he : IsEnum s.heap e it i old) (hit : s.heap.IsTupleIter it t j) (ht : s.heap.IsTuple t items) (hx : items[j]? = none) (hQ : ∀ h', Heap.ExtBut it s.heap h' → Q none { s with heap := h' }) : wpAny (model prog w) A (pyNext (.ref e)) Q E s := by
  have hT : s.TypeIs (.ref e) "enumerate" := ⟨_, he, rfl⟩
  unfold pyNext
  refine wpAny_bind (wpAny_attempt (wpAny_callSpecial?_slot (name := Str.ofString "__next__") hT F.slot_enumerate_next
    (wpAny_call_entry F.slot_enumerate_next hT F.entry_enumerate_next ?_ (F.args_enumerate_next_1 _))))
  show wpAny _ _ (field (.ref e) 2 >>= _) _ _ _
  refine wpAny_bind (wpAny_field he rfl (x := .ref it) rfl ?_)
  refine wpAny_bind (wpAny_nextOf_tuple_end hh hit ht hx fun h' x he' hx' => ?_)
  obtain ⟨o, ho, hc⟩ := hx'
  refine wpAny_bind (wpAny_isInstance (T := "StopIteration") (b := true) ⟨o, ho, hc⟩ isSubtype_stop ?_)
  exact wpAny_pure (hQ _ he')
def IteT (K : PySem.W.Frag) (a : Addr) : It :=
  ⟨fun i H => ∃ (xs : List V) (x : V), SqT K H a xs ∧ xs[i]? = some x, fun i H v H' => ∃ T x, v = .ref T ∧ H T = none ∧ H' = upd H T (.tup [.int (i : Nat), x]) ∧ ∀ xs, SqT K H a xs → xs[i]? = some x, fun i H => ∃ xs : List V, SqT K H a xs ∧ xs.length ≤ i⟩
theorem turn_enumT {P : Program} {w : World} {K : PySem.W.Frag} {elts : List Expr} {kk : Nat} {tpos : Pos} (a e it : Addr) (hea : e ≠ a) (hai : a ≠ it) :
    Turn P w K (.Tuple elts kk tpos) (IteT K a) [e, it] e (fun i h => (∃ old, IsEnum h e it ((i : Nat) : Int) old) ∧ h.IsTupleIter it a i ∧ e ≠ it) where
  mem := by simp
  obj := fun i h st b hb => by
    obtain ⟨⟨old, he⟩, ⟨o, ho, hc, hd⟩, _⟩ := st
    have e' : b = e ∨ b = it := by simpa using hb
    rcases e' with z | z
    · rw [z]; exact ⟨_, he, fun v q => nomatch q⟩
    · rw [z]; exact ⟨o, ho, fun v q => by rw [hd] at q; cases q⟩
  keep := fun i h h' st k => let ⟨⟨old, he⟩, hi, hne⟩ := st; ⟨⟨old, k e (by simp) _ he⟩, hi.at fun o q => k it (by simp) o q, hne⟩
  item := by
    intro X hP hw hK hc i pins s σ H E I hf st hg
    subst hP hw hK
    obtain ⟨⟨old, he⟩, hit, hne⟩ := st
    obtain ⟨xs, x, hq, hx⟩ := hg
    obtain ⟨its, rv, p, hz⟩ := I.tuple hq
    obtain ⟨u, hu, ru⟩ := rv.get hx
    have hel : e < s.heap.objs.size := Heap.lt_size he
    have hil : it < s.heap.objs.size := by obtain ⟨_, q, _⟩ := hit; exact Heap.lt_size q
    have hii : i < its.toArray.size := by simpa using (List.getElem?_eq_some_iff.mp hu).1
    refine wpAny_pyNext_enum_itemD (Draws.tuple (prog := X.prog) (w := X.w) (A := X.A.in1) (I.ok.hd hc) it a hai its.toArray) he ⟨hit, p⟩ hii hne (by simp [hne, hea]) fun y h' tk hP ho hst' hT hsz hk => ?_
    have hy : y = u := by
      have h1 : its.toArray[i]? = some y := hP
      rw [List.getElem?_toArray, hu] at h1
      exact (Option.some.inj h1).symm
    subst hy
    obtain ⟨hit', _⟩ := hst'
    refine ⟨_, rfl, wpAny_letOwnedTupleGo_enum (s := { s with heap := h', toks := tk + 1 }) ho fun h'' he' sb => ?_⟩
    have hT2 : h''.get? s.heap.objs.size = some { cls := .type "tuple", data := .seq #[.int i tk, y] } := (sb.2 _ (Nat.ne_of_gt hel)).trans hT
    have new : ObjOk X.prog X.w (upd H s.heap.objs.size (.tup [.int (i : Nat), x])) h'' s.heap.objs.size (.tup [.int (i : Nat), x]) :=
      ⟨by show 2 ≤ sizeLine; decide, [.int i tk, y], .cons ⟨_, rfl⟩ (.cons ru .nil), ⟨_, hT2, rfl, _, rfl⟩⟩
    have I1 : Inv X pins σ (upd H s.heap.objs.size (.tup [.int (i : Nat), x])) { s with heap := h'', toks := tk + 1 } :=
      I.turnedNew (ch := [e, it]) (fun b ob hb q => (sb.2 b (fun z => hb (by simp [z]))).trans (hk b ob (fun z => hb (by simp [z])) (fun z => hb (by simp [z])) q)) hf (Nat.le_refl _) new
    refine ⟨.ref s.heap.objs.size, _, I1, rfl, ⟨_, x, rfl, I.hok.fresh (Nat.le_refl _), rfl, fun ys hy => by rw [I.tuple_inj hy hq]; exact hx⟩, ⟨⟨y, ?_⟩, hit'.at fun o q => (sb.2 it (Ne.symm hne)).trans q, hne⟩, fun b hb => ?_⟩
    · have e1 : ((i + 1 : Nat) : Int) = (i : Int) + 1 := by omega
      rw [e1]; exact he'
    · have hb' : b < s.heap.objs.size := by
        have e' : b = e ∨ b = it := by simpa using hb
        rcases e' with z | z
        · rw [z]; exact hel
        · rw [z]; exact hil
      rw [upd_ne (Nat.ne_of_lt hb')]
      exact (hf b hb).1
  done := by
    intro X hP hw hK hc i pins s σ H E I hf st hg
    subst hP hw hK
    obtain ⟨⟨old, he⟩, hit, hne⟩ := st
    obtain ⟨xs, hq, hx⟩ := hg
    obtain ⟨its, rv, p, hz⟩ := I.tuple hq
    obtain ⟨f0, f1, f2, f3, f4, f5⟩ := hf it (by simp)
    have hl := rv.length
    exact next_end (I.ok.hd hc) he hit p (by simp; omega) fun h' eb => ⟨rfl, I.turned (t' := s.toks) (fun b o hb q => eb b o hb q) f0 f1 f3 f4 f5⟩
  self := fun A i s Q E st h => let ⟨⟨_, he⟩, _⟩ := st; wpAny_pyIter_enum he h
def iEnumT (K : PySem.W.Frag) (ta : TA) : TI := fun σ H R => ta σ H fun vs H1 => ∃ a xs, vs = [.ref a] ∧ SqT K H1 a xs ∧ R (IteT K a) H1
theorem pi_enumT {X : Cx} {e : Expr} {ta : TA} {p pos tpos : Pos} {elts : List Expr} {kk : Nat} (hg : Gl X "enumerate") (hm : X.mg "enumerate" = none) (ha : PA X [e] ta) (hs : starEach [e] X.env = [(false, eval e X.env)] := by rfl) :
    PI X (.Tuple elts kk tpos) (.Call (.Name "enumerate" p) [e] [] pos) (iEnumT X.K ta) := by
  refine ⟨fun pins s σ H R I h => ?_⟩
  refine Call_ (ld_blt I hg hm boot_enumerate (PyProof.Rows.callWith_type1 (thn (ha.run pos pins s σ H _ I h) fun us s1 ⟨vs, H1, I1, r1, q1⟩ => ?_) hs rfl))
  obtain ⟨a, xs, ex, hq, q⟩ := q1
  subst ex
  cases r1 with
  | cons r rr =>
    cases rr
    cases r
    obtain ⟨its, rv, p', hz⟩ := I1.tuple hq
    have hal : a < s1.heap.objs.size := by obtain ⟨_, q, _⟩ := p'; exact Heap.lt_size q
    refine call_tuple p' fun h' he hit hsz hk => wpAny_pyIter_enum he ?_
    have I2 : Inv X pins σ H1 { s1 with heap := h' } := I1.kept (t' := s1.toks) hk
    refine ⟨s1.heap.objs.size + 1, [s1.heap.objs.size + 1, s1.heap.objs.size], _, _, H1, rfl, I2, turn_enumT a (s1.heap.objs.size + 1) s1.heap.objs.size (Nat.ne_of_gt (Nat.lt_succ_of_lt hal)) (Nat.ne_of_lt hal), ⟨⟨.none, he⟩, hit, Nat.succ_ne_self _⟩, fun b hb => ?_, q⟩
    have e' : b = s1.heap.objs.size + 1 ∨ b = s1.heap.objs.size := by simpa using hb
    have hle : s1.heap.objs.size ≤ b := by
      rcases e' with z | z
      · rw [z]; exact Nat.le_add_right _ _
      · rw [z]; exact Nat.le_refl _
    exact I1.fpOk hle (I1.hok.fresh hle)
end MhE
namespace Mh
open PySem L2
def enumD : Nat → List D → List D
  | _, [] => []
  | k, d :: ds => .tup [.int k, d] :: enumD (k + 1) ds
theorem enumD_len : ∀ (ds : List D) (k : Nat), (enumD k ds).length = ds.length
  | [], _ => rfl
  | _ :: ds, k => by unfold enumD; rw [List.length_cons, List.length_cons, enumD_len ds]
theorem enumD_get : ∀ (ds : List D) (k i : Nat) (d : D), (enumD k ds)[i]? = some d → ∃ x, ds[i]? = some x ∧ d = .tup [.int ((k + i : Nat) : Int), x]
  | [], _, _, _, h => by simp [enumD] at h
  | x :: ds, k, 0, d, h => by
    simp [enumD] at h
    exact ⟨x, rfl, by rw [← h]; rfl⟩
  | x :: ds, k, i + 1, d, h => by
    unfold enumD at h
    rw [List.getElem?_cons_succ] at h
    obtain ⟨y, h1, h2⟩ := enumD_get ds (k + 1) i d h
    exact ⟨y, h1, by rw [h2]; congr 3; congr 1; omega⟩
def iEn (f : EF) : IF := fun ms => (f ms).bind fun a => match frz a.1 with | .lst ds => some (enumD 0 ds, a.2) | .tup ds => some (enumD 0 ds, a.2) | _ => none
theorem ite_ok {K : PySem.W.Frag} {a : Addr} {ds : List D} {cl : Nat → Addr} : IterOk ⟨cl, K⟩ (Ite K a) [(.ref a, .p (.lst ds))] (enumD 0 ds) := fun i E T σ ms H s => by
  obtain ⟨B, hB, q, kp, kt, _⟩ := s.pure
  have r := q (.ref a) (.lst ds) (by simp)
  obtain ⟨b, vs, e, hs, rl⟩ := r.lst_of
  cases e
  have hs' := ex_l hB hs
  refine ⟨fun h => ⟨vs, hs', by rw [rl.len]; rw [enumD_len] at h; exact h⟩, fun d h => ?_⟩
  obtain ⟨d', hd', rfl⟩ := enumD_get ds 0 i d h
  obtain ⟨v, h1, h2⟩ := rl.get i d' hd'
  refine ⟨⟨vs, v, hs', h1⟩, fun x H' ⟨p, y, e1, e2, e3, e4⟩ => ?_⟩
  subst e1 e3
  have := e4 vs hs'
  rw [h1] at this
  cases this
  rw [Nat.zero_add]
  exact kt p _ _ e2 (.cons (.int _) (.cons h2 .nil))
theorem iteT_ok {K : PySem.W.Frag} {a : Addr} {ds : List D} {cl : Nat → Addr} : IterOk ⟨cl, K⟩ (MhE.IteT K a) [(.ref a, .p (.tup ds))] (enumD 0 ds) := fun i E T σ ms H s => by
  obtain ⟨B, hB, q, kp, kt, _⟩ := s.pure
  have r := q (.ref a) (.tup ds) (by simp)
  obtain ⟨b, vs, e, hs, rl⟩ := r.tup_of
  cases e
  have hs' := ex_t hB hs
  refine ⟨fun h => ⟨vs, hs', by rw [rl.len]; rw [enumD_len] at h; exact h⟩, fun d h => ?_⟩
  obtain ⟨d', hd', rfl⟩ := enumD_get ds 0 i d h
  obtain ⟨v, h1, h2⟩ := rl.get i d' hd'
  refine ⟨⟨vs, v, hs', h1⟩, fun x H' ⟨p, y, e1, e2, e3, e4⟩ => ?_⟩
  subst e1 e3
  have := e4 vs hs'
  rw [h1] at this
  cases this
  rw [Nat.zero_add]
  exact kt p _ _ e2 (.cons (.int _) (.cons h2 .nil))
section
variable {X : Cx} {cl : Nat → Addr} {P : List Nat}
theorem xi_enum {e : Expr} {f : EF} {p pos tpos : Pos} {elts : List Expr} {kk : Nat} (hm : X.mg "enumerate" = none) (he : XE X cl P e f) (hg : Gl X "enumerate" := by rfl) (hs : starEach [e] X.env = (false, eval e X.env) :: starEach [] X.env := by rfl) :
    XI X cl P (.Tuple elts kk tpos) (.Call (.Name "enumerate" p) [e] [] pos) (iEn f) := fun E hE => ⟨fun pins s σ H R I ⟨T, ms, ds, ms', st, z, k⟩ => by
  unfold iEn at z
  obtain ⟨a, e1, z⟩ := Option.bind_eq_some_iff.mp z
  cases hf : frz a.1 with
  | lst es =>
    rw [hf] at z
    cases z
    refine (pi_enum (kk := kk) (elts := elts) (tpos := tpos) hg hm (pa_cons (he E hE) pa_nil hs) hs).run pins s σ H R I ⟨T, ms, a.1, a.2, st, e1, fun x H1 s1 => ?_⟩
    have s2 := s1.frz
    rw [hf] at s2
    obtain ⟨b, vs, e, hq, rl⟩ := s2.rep.lst_of
    cases e
    exact ⟨b, vs, rfl, hq, k _ _ H1 ite_ok s2⟩
  | tup es =>
    rw [hf] at z
    cases z
    refine (MhE.pi_enumT (kk := kk) (elts := elts) (tpos := tpos) hg hm (pa_cons (he E hE) pa_nil hs) hs).run pins s σ H R I ⟨T, ms, a.1, a.2, st, e1, fun x H1 s1 => ?_⟩
    have s2 := s1.frz
    rw [hf] at s2
    obtain ⟨b, vs, e, hq, rl⟩ := s2.rep.tup_of
    cases e
    exact ⟨b, vs, rfl, hq, k _ _ H1 iteT_ok s2⟩
  | _ => rw [hf] at z; cases z⟩
end
theorem iEn_ap (f : EF) (ms : En) : iEn f ms = ((f ms).bind fun a => match frz a.1 with | .lst ds => some (enumD 0 ds, a.2) | .tup ds => some (enumD 0 ds, a.2) | _ => none) := by unfold iEn; rfl
@[simp] theorem iEn_ap' (f : EF) (ms : En) : iEn f ms = ((f ms).bind fun a => match frz a.1 with | .lst ds => some (enumD 0 ds, a.2) | .tup ds => some (enumD 0 ds, a.2) | _ => none) := iEn_ap f ms
end Mh
/-! Mh: an own dict in a slot, read by key -/
namespace Mh
open PySem L2
def xDGetO (i : Nat) (g : EF) : EF := fun ms => (slK ms i).bind fun _ => (g ms).bind fun b => (slK b.2 i).bind fun kvs => (keyD (frz b.1)).bind fun k => (getK kvs k).bind fun d => some (.p d, b.2)
theorem xDGetO_ap (i : Nat) (g : EF) (ms : En) : xDGetO i g ms = ((slK ms i).bind fun _ => (g ms).bind fun b => (slK b.2 i).bind fun kvs => (keyD (frz b.1)).bind fun k => (getK kvs k).bind fun d => some (.p d, b.2)) := by unfold xDGetO; rfl
@[simp] theorem xDGetO_ap' (i : Nat) (g : EF) (ms : En) : xDGetO i g ms = ((slK ms i).bind fun _ => (g ms).bind fun b => (slK b.2 i).bind fun kvs => (keyD (frz b.1)).bind fun k => (getK kvs k).bind fun d => some (.p d, b.2)) := xDGetO_ap i g ms
section
variable {X : Cx} {cl : Nat → Addr} {P : List Nat}
theorem xe_dgetO (i : Nat) {x : Str} {p pos : Pos} {e : Expr} {g : EF} (hu : X.A.units + 1 < cLine) (he : XE X cl P e g) (hN : X.N[i]? = some x := by rfl) (hv : Vis X.env.scope x := by first | exact Or.inl rfl | exact Or.inr (Or.inl rfl) | exact Or.inr (Or.inr rfl)) (hs : NoSl e := by exact fun _ _ => rfl)
    (hd : (x == ("__debug__" : Str)) = false := by decide) (hcd : (x == ("__classdict__" : Str)) = false := by decide) : XE X cl P (.Subscript (.Name x p) e pos) (xDGetO i g) := fun E hE =>
  PE.weak (pe_dget hu (pe_var hN hv hd hcd) (he E hE) hs) fun σ H Q ⟨T, ms, m, ms', s, z, k⟩ => by
    unfold xDGetO at z
    obtain ⟨kv0, e0, z⟩ := Option.bind_eq_some_iff.mp z
    obtain ⟨b, e1, z⟩ := Option.bind_eq_some_iff.mp z
    obtain ⟨kvs, e2, z⟩ := Option.bind_eq_some_iff.mp z
    obtain ⟨kk, e4, z⟩ := Option.bind_eq_some_iff.mp z
    obtain ⟨d, e5, z⟩ := Option.bind_eq_some_iff.mp z
    cases z
    obtain ⟨v0, hv0⟩ := s.cov i _ (slK_eq e0)
    refine ⟨v0, hv0, T, ms, b.1, b.2, s, e1, fun y H1 s1 => ?_⟩
    obtain ⟨ad, B, vsK, hσ, hB, hdk, rk, q, wr, w0⟩ := s1.frz.slotK (slK_eq e2)
    rw [hv0] at hσ
    cases hσ
    have ry := (q y (frz b.1) (by simp)).key e4
    obtain ⟨v, hv2, rv⟩ := rk.get.1 d e5
    refine ⟨ad, v, rfl, .inl ⟨vsK, kk, .inl hdk, ry, hv2.symm⟩, k v _ ?_⟩
    have s4 := w0 [(v, d)] (by simpa using rv)
    exact (show Stt ⟨cl, X.K⟩ E ((v, .p d) :: (y, .p (frz b.1)) :: T) σ b.2 H1 from s4).swap.pop
end
end Mh
/-! Mh: attributes of an own object as targets, op= and append on them; match over texts -/
namespace Mh
open PySem PySem.Spec PyProof.Rows L2
def gFldV (K : PySem.W.Frag) (to : TE) (f : Str) : TG := fun v σ H Q => to σ H fun x H1 => ∃ a C dx fs, x = .ref a ∧ H1 a = some (.ins C dx fs) ∧ Cls K C ∧ NoAttr K C f ∧ fs.length < 1000 ∧ Q σ (upd H1 a (.ins C dx (putF f v fs)))
theorem pg_fld {X : Cx} {o : Expr} {f : Str} {pos : Pos} {to : TE} (ho : PE X o to) : PG X (.Attribute o f pos) (gFldV X.K to f) := by
  refine ⟨fun pins s σ H v u Q I r h => ?_⟩
  rw [arm_assign_Attribute]
  refine wpAny_bind (wpAny_holding (thn (ho.run pins s σ H _ I h) fun ov s1 ⟨x, H1, I1, r1, a, C, dx, fs, ex, ea, c, n, l, q⟩ => ?_))
  subst ex
  obtain rfl : ov = Value.ref a := r1
  refine wpAny_bind (wpAny_standAt (wpAny_bind (wpAny_holding (setattr_ok I1 ea c n l r fun s3 I3 => ?_))))
  exact wpAny_release ⟨σ, _, I3, q⟩
def gFldO (i c : Nat) (f : Str) : GF := fun m ms => (slO ms i c).bind fun fs => if fs.length < 1000 then some (ms.set i (some (.o c (putM f m fs)))) else none
@[simp] theorem gFldO_ap (i c : Nat) (f : Str) (m : M) (ms : En) : gFldO i c f m ms = ((slO ms i c).bind fun fs => if fs.length < 1000 then some (ms.set i (some (.o c (putM f m fs)))) else none) := by unfold gFldO; rfl
/-- self.f op= an int -/
def sFAug (sub : Bool) (i c : Nat) (f : Str) (g : EF) : SF := fun ms => (slO ms i c).bind fun fs0 => ((fs0.lookup f).bind pM).bind fun d => (g ms).bind fun b => (slO b.2 i c).bind fun fs => match d, frz b.1 with
  | .int n, .int k => if fs.length < 1000 then some (.nx, b.2.set i (some (.o c (putM f (.p (.int (if sub then n - k else n + k))) fs)))) else none
  | _, _ => none
@[simp] theorem sFAug_ap (sub : Bool) (i c : Nat) (f : Str) (g : EF) (ms : En) : sFAug sub i c f g ms = ((slO ms i c).bind fun fs0 => ((fs0.lookup f).bind pM).bind fun d => (g ms).bind fun b => (slO b.2 i c).bind fun fs => match d, frz b.1 with
  | .int n, .int k => if fs.length < 1000 then some (.nx, b.2.set i (some (.o c (putM f (.p (.int (if sub then n - k else n + k))) fs)))) else none
  | _, _ => none) := by unfold sFAug; rfl
def fldL (fs : List (Str × M)) (f : Str) : Option (Nat × List D) := (idxF f fs).bind fun j => match fs[j]? with
  | some (_, .l ds) => some (j, ds)
  | _ => none
theorem fldL_some {fs : List (Str × M)} {f : Str} {jk : Nat × List D} (h : fldL fs f = some jk) : idxF f fs = some jk.1 ∧ fs[jk.1]? = some (f, .l jk.2) := by
  unfold fldL at h
  obtain ⟨j, h1, h⟩ := Option.bind_eq_some_iff.mp h
  obtain ⟨m, h2⟩ := idxF_get h1
  rw [h2] at h
  cases m with
  | l kvs => cases h; exact ⟨h1, h2⟩
  | _ => cases h
def xFApp (i c : Nat) (f : Str) (g : EF) : EF := fun ms => (slO ms i c).bind fun fs0 => (fldL fs0 f).bind fun _ => (g ms).bind fun b => (slO b.2 i c).bind fun fs => (fldL fs f).bind fun jl =>
  if jl.2.length < sizeLine then some (.p .non, b.2.set i (some (.o c (fs.set jl.1 (f, .l (jl.2 ++ [frz b.1])))))) else none
@[simp] theorem xFApp_ap (i c : Nat) (f : Str) (g : EF) (ms : En) : xFApp i c f g ms = ((slO ms i c).bind fun fs0 => (fldL fs0 f).bind fun _ => (g ms).bind fun b => (slO b.2 i c).bind fun fs => (fldL fs f).bind fun jl =>
  if jl.2.length < sizeLine then some (.p .non, b.2.set i (some (.o c (fs.set jl.1 (f, .l (jl.2 ++ [frz b.1])))))) else none) := by unfold xFApp; rfl
theorem keys_set {fs : List (Str × M)} {j : Nat} {f : Str} {m m' : M} (h : fs[j]? = some (f, m)) : (fs.set j (f, m')).map (·.1) = fs.map (·.1) := by
  rw [List.map_set]
  refine List.ext_getElem? fun q => ?_
  by_cases hq : j = q
  · subst hq
    have hlt : j < (fs.map (·.1)).length := by rw [List.length_map]; exact (List.getElem?_eq_some_iff.mp h).1
    rw [List.getElem?_set_self hlt, List.getElem?_map, h]
    rfl
  · rw [List.getElem?_set_ne hq]
section
variable {X : Cx} {cl : Nat → Addr} {P : List Nat}
theorem xg_fldO (i c : Nat) {x f : Str} {p apos : Pos} (hc : Cls X.K (cl c)) (hn : NoAttr X.K (cl c) f) (hN : X.N[i]? = some x := by rfl) (hv : Vis X.env.scope x := by first | exact Or.inl rfl | exact Or.inr (Or.inl rfl) | exact Or.inr (Or.inr rfl))
    (hd : (x == ("__debug__" : Str)) = false := by decide) (hcd : (x == ("__classdict__" : Str)) = false := by decide) : XG X cl P (.Attribute (.Name x p) f apos) [] (gFldO i c f) := fun E hE =>
  PG.weak (pg_fld (pe_var hN hv hd hcd)) fun w σ H Q ⟨T, ms, m, ms', s, z, k⟩ => by
    unfold gFldO at z
    obtain ⟨fs, e2, z⟩ := Option.bind_eq_some_iff.mp z
    split at z
    · rename_i hz
      cases z
      have h := slO_eq e2
      obtain ⟨v, h1⟩ := s.cov i _ h
      refine ⟨v, h1, ?_⟩
      have s2 := (s.take h1 h).swap
      obtain ⟨B, fp, r⟩ := s2.rel
      obtain ⟨ad, dx, vs, rfl, ha, hl, _, fp', r'⟩ := r.fld (f := f)
      refine ⟨ad, _, dx, vs, rfl, ha, hc, hn, by rw [hl]; exact hz, k _ _ (fun _ _ => rfl) rfl ?_⟩
      have s3 : Stt ⟨cl, X.K⟩ E ((.ref ad, .o c (putM f m fs)) :: T) σ (ms.set i none) _ := s2.of r'.rel
      have s4 := s3.put h1 (hole_at h)
      rw [List.set_set] at s4
      exact s4
    · cases z
theorem aug_ok (sub : Bool) {op : Operator} {rd : V → V → Hp → VK → Prop} (ho : InOp X op rd) (hr : ∀ (n k : Int) (H : Hp) (Q : VK), Q (.int (if sub then n - k else n + k)) H → rd (.int n) (.int k) H Q)
    (i c : Nat) {x f : Str} {e : Expr} {p apos pos : Pos} {g : EF} (hc : Cls X.K (cl c)) (hn : NoAttr X.K (cl c) f) (he : XE X cl P e g) (hN : X.N[i]? = some x) (hv : Vis X.env.scope x)
    (hd : (x == ("__debug__" : Str)) = false) (hcd : (x == ("__classdict__" : Str)) = false) : XS X cl P (.AugAssign (.Attribute (.Name x p) f apos) op e pos) (sFAug sub i c f g) := fun E hE =>
  PS.weak (ps_fldaug (pe_var hN hv hd hcd) (he E hE) ho) fun D σ H ⟨T, ms, o, ms', s, z, k⟩ => by
    unfold sFAug at z
    obtain ⟨fs0, e0, z⟩ := Option.bind_eq_some_iff.mp z
    obtain ⟨d, e1, z⟩ := Option.bind_eq_some_iff.mp z
    obtain ⟨b, e2, z⟩ := Option.bind_eq_some_iff.mp z
    obtain ⟨fs, e3, z⟩ := Option.bind_eq_some_iff.mp z
    obtain ⟨a, dx, vs, B, h1, ha, hl, _, kp⟩ := s.slotO (slO_eq e0)
    obtain ⟨v, h2, h3⟩ := hl f d e1
    refine ⟨.ref a, h1, a, _, dx, vs, v, rfl, ha, hc, hn, h2, T, ms, b.1, b.2, s, e2, fun y H2 s2 => ?_⟩
    have ry := s2.frz.rep
    generalize frz b.1 = fb at z ry
    cases d with
    | int n =>
      cases fb with
      | int kk =>
        dsimp only at z
        split at z
        · rename_i hz
          cases z
          cases h3
          cases ry
          refine hr n kk H2 _ ?_
          have s3 : Stt ⟨cl, X.K⟩ E ((.int (if sub then n - kk else n + kk), .p (.int (if sub then n - kk else n + kk))) :: T) σ b.2 H2 := s2.pop.scal fun _ => .int _
          have h := slO_eq e3
          obtain ⟨v2, h12⟩ := s3.cov i _ h
          rw [h1] at h12
          cases h12
          have s4 := (s3.take h1 h).swap
          obtain ⟨B4, fp, r⟩ := s4.rel
          obtain ⟨ad, dx', vs', e4, ha', hl', _, fp', r'⟩ := r.fld (f := f)
          cases e4
          refine ⟨dx', vs', ha', by rw [hl']; exact hz, k _ _ ?_⟩
          have s5 : Stt ⟨cl, X.K⟩ E ((.ref a, .o c (putM f (.p (.int (if sub then n - kk else n + kk))) fs)) :: T) σ (b.2.set i none) _ := s4.of r'.rel
          have s6 := s5.put h1 (hole_at h)
          rw [List.set_set] at s6
          exact s6
        · cases z
      | _ => cases z
    | _ => cases z
theorem xs_fsub (i c : Nat) {x f : Str} {e : Expr} {p apos pos : Pos} {g : EF} (hc : Cls X.K (cl c)) (hn : NoAttr X.K (cl c) f) (he : XE X cl P e g) (hN : X.N[i]? = some x := by rfl) (hv : Vis X.env.scope x := by first | exact Or.inl rfl | exact Or.inr (Or.inl rfl) | exact Or.inr (Or.inr rfl))
    (hd : (x == ("__debug__" : Str)) = false := by decide) (hcd : (x == ("__classdict__" : Str)) = false := by decide) : XS X cl P (.AugAssign (.Attribute (.Name x p) f apos) .Sub e pos) (sFAug true i c f g) :=
  aug_ok true in_sub (fun n k H Q q => ⟨n, k, rfl, rfl, q⟩) i c hc hn he hN hv hd hcd
theorem xs_fadd (i c : Nat) {x f : Str} {e : Expr} {p apos pos : Pos} {g : EF} (hc : Cls X.K (cl c)) (hn : NoAttr X.K (cl c) f) (he : XE X cl P e g) (hN : X.N[i]? = some x := by rfl) (hv : Vis X.env.scope x := by first | exact Or.inl rfl | exact Or.inr (Or.inl rfl) | exact Or.inr (Or.inr rfl))
    (hd : (x == ("__debug__" : Str)) = false := by decide) (hcd : (x == ("__classdict__" : Str)) = false := by decide) : XS X cl P (.AugAssign (.Attribute (.Name x p) f apos) .Add e pos) (sFAug false i c f g) :=
  aug_ok false in_add (fun n k H Q q => ⟨n, k, rfl, rfl, q⟩) i c hc hn he hN hv hd hcd
theorem xe_fapp (i c : Nat) {x f : Str} {p fpos apos cpos : Pos} {e : Expr} {g : EF} (hc : Cls X.K (cl c)) (hn : NoAttr X.K (cl c) f) (he : XP X cl P e g) (hN : X.N[i]? = some x := by rfl) (hv : Vis X.env.scope x := by first | exact Or.inl rfl | exact Or.inr (Or.inl rfl) | exact Or.inr (Or.inr rfl))
    (hb : attributeBase (.Name x p) f X.env (eval (.Name x p) X.env) = eval (.Name x p) X.env := by rfl)
    (hb2 : attributeBase (.Attribute (.Name x p) f fpos) "append" X.env (eval (.Attribute (.Name x p) f fpos) X.env) = eval (.Attribute (.Name x p) f fpos) X.env := by rfl)
    (hd : (x == ("__debug__" : Str)) = false := by decide) (hcd : (x == ("__classdict__" : Str)) = false := by decide)
    (hfew : ((backTo cpos (starEach [e] X.env)).all (fun x => !x.1) && (backToKw cpos (keywordEach [] X.env)).all (fun x => x.1.isSome)
      && decide ([e].length + ([] : List Keyword).length + (if ([] : List Keyword).isEmpty then 0 else 1) < 30)) = true := by rfl)
    (hline : (apos.endLine == cpos.line) = true := by rfl) (hs : starEach [e] X.env = (false, eval e X.env) :: starEach [] X.env := by rfl) : XE X cl P (.Call (.Attribute (.Attribute (.Name x p) f fpos) "append" apos) [e] [] cpos) (xFApp i c f g) := fun E hE =>
  PE.weak (pe_bm PySem.F.plainAttrs_list PySem.F.slot_list_append PySem.F.type_list_append mt_append (pe_fld (pe_var hN hv hd hcd) hb) (pa_cons (he E hE) pa_nil hs) (hbase := hb2) (hfew := hfew) (hline := hline) (hs := hs)) fun σ H Q ⟨T, ms, m, ms', s, z, k⟩ => by
    unfold xFApp at z
    obtain ⟨fs0, e0, z⟩ := Option.bind_eq_some_iff.mp z
    obtain ⟨jl0, ej0, z⟩ := Option.bind_eq_some_iff.mp z
    obtain ⟨b, e1, z⟩ := Option.bind_eq_some_iff.mp z
    obtain ⟨fs, e2, z⟩ := Option.bind_eq_some_iff.mp z
    obtain ⟨jl, e3, z⟩ := Option.bind_eq_some_iff.mp z
    split at z
    · rename_i hsz
      cases z
      obtain ⟨a, dx, vs, E2, h1, ha, hk, s2, cl1⟩ := s.openO (slO_some e0)
      obtain ⟨hj0, hjm0⟩ := fldL_some ej0
      obtain ⟨v0, hl0, hv0⟩ := idxF_look hk hj0
      have hlen0 : (ms.set i none).length = σ.length := by rw [List.length_set]; exact s.len
      have hm0 : (ms.set i none ++ flM fs0)[σ.length + jl0.1]? = some (some (.l jl0.2)) := by
        rw [List.getElem?_append_right (by omega), hlen0, Nat.add_sub_cancel_left]
        unfold flM
        rw [List.getElem?_map, hjm0]
        rfl
      obtain ⟨ad0, B0, vsL0, hσ0, hB0, hdl0, rl0, q0, wr0, w00⟩ := s2.slotL hm0
      rw [List.getElem?_append_right (by omega), Nat.add_sub_cancel_left] at hσ0
      unfold flV at hσ0
      rw [List.getElem?_map, hv0] at hσ0
      cases hσ0
      refine ⟨.ref a, h1, a, _, dx, vs, _, rfl, ha, hc, hn, hl0, .inl ⟨rfl, vsL0, SqL.of hdl0⟩, T, ms, b.1, b.2, s, e1, fun y s1 => ?_⟩
      obtain ⟨a', dx', vs', E3, h1', ha', hk', s3, cl3⟩ := s1.frz.openO (slO_some e2)
      rw [h1] at h1'
      cases h1'
      rw [ha] at ha'
      cases ha'
      obtain ⟨hj, hjm⟩ := fldL_some e3
      have hlen : (b.2.set i none).length = σ.length := by rw [List.length_set]; exact s1.len
      have hm : (b.2.set i none ++ flM fs)[σ.length + jl.1]? = some (some (.l jl.2)) := by
        rw [List.getElem?_append_right (by omega), hlen, Nat.add_sub_cancel_left]
        unfold flM
        rw [List.getElem?_map, hjm]
        rfl
      obtain ⟨ad, B, vsL, hσ, hB, hdl, rl, q, wr, w0⟩ := s3.slotL hm
      obtain ⟨v1, hl1, hv1⟩ := idxF_look hk' hj
      rw [hl0] at hl1
      cases hl1
      rw [List.getElem?_append_right (by omega), Nat.add_sub_cancel_left] at hσ
      unfold flV at hσ
      rw [List.getElem?_map, hv1] at hσ
      cases hσ
      refine ⟨ad0, vsL, y, rfl, rfl, hdl, by rw [rl.len]; exact hsz, k _ _ ?_⟩
      have s4 := wr (vsL ++ [y]) (jl.2 ++ [frz b.1]) [] (rl.app (.one (q y _ (by simp)))) (by simp)
      have eset : (b.2.set i none ++ flM fs).set (σ.length + jl.1) (some (.l (jl.2 ++ [frz b.1]))) = b.2.set i none ++ flM (fs.set jl.1 (f, .l (jl.2 ++ [frz b.1]))) := by
        rw [List.set_append_right _ _ (by omega), hlen, Nat.add_sub_cancel_left, flM_set]
      rw [eset] at s4
      have s5 := cl3 _ (b.2.set i none) _ _ (by rw [List.length_set]) (hole_at (slO_some e2)) (keys_set hjm) s4
      rw [List.set_set] at s5
      exact ((show Stt ⟨cl, X.K⟩ E ((y, .p (frz b.1)) :: T) σ _ _ from s5).pop).scal fun _ => .non
    · cases z
end
end Mh
/-! Mh: match over written texts; e.replace of written texts where a token is out -/
namespace Mh
open PySem PySem.Spec PyProof.Rows L2
def PMc (X : Cx) (cases : List MatchCase) (t : Str → TS) : Prop :=
  ∀ (pins : List (Addr × Obj)) (s : Shared) (σ : L2.St) (H : Hp) (D : Ends) (z : Str) (tk : Tok) (first : Bool), Inv X pins σ H s → t z D σ H → wpAny (model X.prog X.w) X.A (matchCases cases X.env (.str z tk) first) (SP X pins D) X.xe s
theorem pmc_nil {X : Cx} : PMc X [] (fun _ => tNext) := fun pins s σ H D z tk first I h => wpAny_matchCases_nil ⟨σ, H, I, h⟩
theorem pmc_else {X : Cx} {body : List Stmt} {u : TS} {pos : Pos} (hb : PSs X body u) : PMc X [⟨.MatchAs none none pos, none, body⟩] (fun _ => u) := fun pins s σ H D z tk first I h => by
  refine wpAny_matchCases_cons (wpAny_matchPattern_Capture ?_)
  exact wpAny_assignInOrder_none (hb.run pins s σ H D I h)
theorem pmc_cons {X : Cx} {y : Str} {j : Nat} {body : List Stmt} {rest : List MatchCase} {u : TS} {t : Str → TS} {cpos pos : Pos} (hb : PSs X body u) (hr : PMc X rest t) :
    PMc X (⟨.MatchValue (.Constant (.str y) j cpos) pos, none, body⟩ :: rest) (fun z D σ H => if z = y then u D σ H else t z D σ H) := fun pins s σ H D z tk first I h => by
  refine wpAny_matchCases_cons (wpAny_matchPattern_Value (Calls.Constant_str ?_))
  refine thn (op_eq pins _ σ H (.str z) (.str y) (.str z tk) _ (fun v H1 => v = .bl (decide (z = y)) ∧ H1 = H) (I.tok _) ⟨tk, rfl⟩ ⟨_, rfl⟩ ⟨rfl, by
    refine ⟨?_, rfl⟩
    by_cases e : z = y
    · subst e; simp
    · have : ¬ V.str z = V.str y := fun q => e (by cases q; rfl)
      simp [e, this]⟩) fun c s2 ⟨v, H1, I2, rv, ev, eH⟩ => ?_
  subst ev eH
  obtain rfl : c = Value.bool (decide (z = y)) := rv
  refine wpAny_truthy_bool ?_
  by_cases e : z = y
  · subst e
    simp only [decide_true, if_true]
    rw [if_pos rfl] at h
    exact wpAny_assignInOrder_none (hb.run pins s2 σ H1 D I2 h)
  · simp only [e, decide_false, Bool.false_eq_true, if_false]
    rw [if_neg e] at h
    exact hr pins s2 σ H1 D z tk false I2 h
def tMatch (te : TE) (t : Str → TS) : TS := fun D σ H => te σ H fun v H1 => ∃ z, v = .str z ∧ t z D σ H1
theorem ps_match {X : Cx} {e : Expr} {cases : List MatchCase} {pos : Pos} {te : TE} {t : Str → TS} (he : PE X e te) (hc : PMc X cases t) : PS X (.Match e cases pos) (tMatch te t) := by
  refine ⟨fun pins s σ H D I h => ?_⟩
  refine wpAny_Match (thn (he.run pins s σ H _ I h) fun u s1 ⟨x, H1, I1, r1, z, ez, q⟩ => ?_)
  subst ez
  obtain ⟨tk, e2⟩ := r1
  subst e2
  exact hc pins s1 σ H1 D z tk true I1 q
def mtF : List (Str × SF) → SF → Str → SF
  | [], e, _ => e
  | (y, b) :: cs, e, z => if z = y then b else mtF cs e z
def sMt (f : EF) (cs : List (Str × SF)) (e : SF) : SF := fun ms => (f ms).bind fun a => match frz a.1 with | .str z => mtF cs e z a.2 | _ => none
@[simp] theorem sMt_ap (f : EF) (cs : List (Str × SF)) (e : SF) (ms : En) : sMt f cs e ms = ((f ms).bind fun a => match frz a.1 with | .str z => mtF cs e z a.2 | _ => none) := by unfold sMt; rfl
@[simp] theorem mtF_nil (e : SF) (z : Str) : mtF [] e z = e := by unfold mtF; rfl
@[simp] theorem mtF_cons (y : Str) (b : SF) (cs : List (Str × SF)) (e : SF) (z : Str) : mtF ((y, b) :: cs) e z = if z = y then b else mtF cs e z := by rw [mtF]
section
variable {X : Cx} {cl : Nat → Addr} {P : List Nat}
def XM (X : Cx) (cl : Nat → Addr) (P : List Nat) (cases : List MatchCase) (cs : List (Str × SF)) (e : SF) : Prop := ∀ E : Ent, E.prot.map (·.1) = P → PMc X cases (fun z => tS ⟨cl, X.K⟩ E (mtF cs e z))
theorem PMc.weak {X : Cx} {cs : List MatchCase} {t t' : Str → TS} (h : PMc X cs t) (w : ∀ z D σ H, t' z D σ H → t z D σ H) : PMc X cs t' := fun pins s σ H D z tk first I q => h pins s σ H D z tk first I (w z D σ H q)
theorem xm_nil : XM X cl P [] [] sNx := fun E hE => PMc.weak pmc_nil fun z D σ H ⟨T, ms, o, ms', s, e, k⟩ => by cases e; exact k _ _ s
theorem xm_else {body : List Stmt} {b : SF} {pos : Pos} (hb : XB X cl P body b) : XM X cl P [⟨.MatchAs none none pos, none, body⟩] [] b := fun E hE => pmc_else (hb E hE)
theorem xm_cons {y : Str} {j : Nat} {body : List Stmt} {rest : List MatchCase} {b e : SF} {cs : List (Str × SF)} {cpos pos : Pos} (hb : XB X cl P body b) (hr : XM X cl P rest cs e) :
    XM X cl P (⟨.MatchValue (.Constant (.str y) j cpos) pos, none, body⟩ :: rest) ((y, b) :: cs) e := fun E hE => PMc.weak (pmc_cons (hb E hE) (hr E hE)) fun z D σ H q => by
  unfold mtF at q
  by_cases h : z = y
  · simp only [if_pos h] at q ⊢; exact q
  · simp only [if_neg h] at q ⊢; exact q
theorem xs_match {e : Expr} {cases : List MatchCase} {pos : Pos} {f : EF} {cs : List (Str × SF)} {el : SF} (he : XE X cl P e f) (hc : XM X cl P cases cs el) : XS X cl P (.Match e cases pos) (sMt f cs el) := fun E hE =>
  PS.weak (ps_match (he E hE) (hc E hE)) fun D σ H ⟨T, ms, o, ms', s, z, k⟩ => by
    unfold sMt at z
    obtain ⟨a, e1, z⟩ := Option.bind_eq_some_iff.mp z
    refine ⟨T, ms, a.1, a.2, s, e1, fun v H1 s1 => ?_⟩
    have rv := s1.frz.rep
    generalize frz a.1 = fa at z rv
    cases fa with
    | str y =>
      cases rv
      exact ⟨y, rfl, T, a.2, o, ms', s1.pop, z, k⟩
    | _ => cases z
/-! ### where a token is out -/
theorem PET.weak {X : Cx} {e : Expr} {t t' : TE} (h : PET X e t) (w : ∀ σ H Q, t' σ H Q → t σ H Q) : PET X e t' := fun pins s σ H Q h0 I q => h pins s σ H Q h0 I (w σ H Q q)
theorem PST.weak {X : Cx} {e : Stmt} {t t' : TS} (h : PST X e t) (w : ∀ D σ H, t' D σ H → t D σ H) : PST X e t' := fun pins s σ H D h0 I q => h pins s σ H D h0 I (w D σ H q)
theorem PSsT.weak {X : Cx} {e : List Stmt} {t t' : TS} (h : PSsT X e t) (w : ∀ D σ H, t' D σ H → t D σ H) : PSsT X e t' := fun pins s σ H D h0 I q => h pins s σ H D h0 I (w D σ H q)
def XEt (X : Cx) (cl : Nat → Addr) (P : List Nat) (e : Expr) (f : EF) : Prop := ∀ E : Ent, E.prot.map (·.1) = P → PET X e (tE ⟨cl, X.K⟩ E f)
def XSt (X : Cx) (cl : Nat → Addr) (P : List Nat) (st : Stmt) (f : SF) : Prop := ∀ E : Ent, E.prot.map (·.1) = P → PST X st (tS ⟨cl, X.K⟩ E f)
def XBt (X : Cx) (cl : Nat → Addr) (P : List Nat) (st : List Stmt) (f : SF) : Prop := ∀ E : Ent, E.prot.map (·.1) = P → PSsT X st (tS ⟨cl, X.K⟩ E f)
theorem XB.t {st : List Stmt} {f : SF} (h : XB X cl P st f) : XBt X cl P st f := fun E hE => PSsT.of (h E hE)
theorem XS.t {st : Stmt} {f : SF} (h : XS X cl P st f) : XSt X cl P st f := fun E hE => PST.of (h E hE)
def xRepl (f : EF) (y z : Str) : EF := fun ms => (f ms).bind fun a => match frz a.1 with | .str x => if x.length + (x.length + 1) * z.length ≤ 1000000 then some (.p (.str (Txt.replace x y z)), a.2) else none | _ => none
@[simp] theorem xRepl_ap (f : EF) (y z : Str) (ms : En) : xRepl f y z ms = ((f ms).bind fun a => match frz a.1 with | .str x => if x.length + (x.length + 1) * z.length ≤ 1000000 then some (.p (.str (Txt.replace x y z)), a.2) else none | _ => none) := by unfold xRepl; rfl
theorem repl_in {E : Ent} {f : EF} {y z : Str} : ∀ σ H Q, tE ⟨cl, X.K⟩ E (xRepl f y z) σ H Q → CwR.tReplC (tE ⟨cl, X.K⟩ E f) y z σ H Q := fun σ H Q ⟨T, ms, m, ms', s, e, k⟩ => by
  unfold xRepl at e
  obtain ⟨a, e1, e⟩ := Option.bind_eq_some_iff.mp e
  refine ⟨T, ms, a.1, a.2, s, e1, fun v H1 s1 => ?_⟩
  have rv := s1.frz.rep
  generalize frz a.1 = fa at e rv
  cases fa with
  | str x =>
    cases rv
    dsimp only at e
    split at e
    · rename_i hz
      cases e
      exact ⟨x, rfl, Nat.le_trans hz (by decide), k _ _ (s1.pop.scal fun _ => .str _)⟩
    · cases e
  | _ => cases e
theorem xet_repl {o : Expr} {f : EF} {y z : Str} {j k : Nat} {c0 c1 apos pos : Pos} (ho : XE X cl P o f) (hyz : (y == z) = false := by decide)
    (hst : starEach [.Constant (.str y) j c0, .Constant (.str z) k c1] X.env = [(false, eval (.Constant (.str y) j c0) X.env), (false, eval (.Constant (.str z) k c1) X.env)] := by rfl)
    (hbase : attributeBase o "replace" X.env (eval o X.env) = eval o X.env := by rfl) (hline : (apos.endLine == pos.line) = true := by rfl) :
    XEt X cl P (.Call (.Attribute o "replace" apos) [.Constant (.str y) j c0, .Constant (.str z) k c1] [] pos) (xRepl f y z) := fun E hE =>
  PET.weak (CwR.pet_replC (ho E hE) hyz hst hbase hline) repl_in
theorem pst_asg {tg e : Expr} {te : TE} {g : TG} {pos : Pos} (he : PET X e te) (hg : PG X tg g) (hs : swapsWithSole [tg] e pos.line X.env = pure false) (hw : swappedStores [tg] e X.env = pure none)
    (h1 : (assignEach [tg] X.env).map (·.2) = [assign tg X.env]) : PST X (.Assign [tg] e pos) (tAsg te g) := by
  intro pins s σ H D h0 I h
  refine wpAny_Assign_stores (thn (he pins s σ H _ h0 I h) fun v s1 ⟨x, H1, I1, r1, q1⟩ => ?_) hs hw
  rw [h1]
  exact thn (hg.run pins s1 σ H1 x v _ I1 r1 q1) fun _ s2 q => q
theorem xst_asg {tg e : Expr} {f : EF} {W : List Nat} {t : GF} {pos : Pos} (he : XEt X cl P e f) (hg : XG X cl P tg W t) (hs : swapsWithSole [tg] e pos.line X.env = pure false := by rfl) (hw : swappedStores [tg] e X.env = pure none := by rfl)
    (h1 : (assignEach [tg] X.env).map (·.2) = [assign tg X.env] := by rfl) : XSt X cl P (.Assign [tg] e pos) (sAsg f t) := fun E hE =>
  PST.weak (pst_asg (he E hE) (hg E hE) hs hw h1) fun D σ H ⟨T, ms, o, ms', s, z, k⟩ => by
    unfold sAsg at z
    obtain ⟨a, e1, z⟩ := Option.bind_eq_some_iff.mp z
    obtain ⟨m2, e2, z⟩ := Option.bind_eq_some_iff.mp z
    cases z
    refine ⟨T, ms, a.1, a.2, s, e1, fun v H1 s1 => ⟨T, a.2, a.1, _, s1, e2, fun σ' H' _ _ s2 => k σ' H' s2⟩⟩
theorem xbt_cons {st : Stmt} {rest : List Stmt} {f g : SF} (h1 : XSt X cl P st f) (h2 : XBt X cl P rest g) : XBt X cl P (st :: rest) (sSeq f g) := fun E hE =>
  PSsT.weak (psst_cons (h1 E hE) (h2 E hE)) fun D σ H ⟨T, ms, o, ms', s, z, k⟩ => by
    unfold sSeq at z
    obtain ⟨a, e1, z⟩ := Option.bind_eq_some_iff.mp z
    refine ⟨T, ms, a.1, a.2, s, e1, ?_⟩
    obtain ⟨fl, m2⟩ := a
    cases fl with
    | nx => exact fun σ' H' s2 => ⟨T, m2, o, ms', s2, z, k⟩
    | rt m => cases z; exact k
    | bk => cases z; exact k
    | ct => cases z; exact k
end
end Mh
/-! Mh: a def in whose body a token is out; own dicts put by a target -/
namespace Mh
open PySem PySem.Spec PyProof.Rows L2
theorem PSsT.nox {X : Cx} {st : List Stmt} {t : TS} (h : PSsT X.nox st t) : PSsT X st t := fun pins s σ H D h0 I hw =>
  wpAny_mono (h pins s σ H D h0 (I.wish _) hw) (fun _ _ q => q.unwish) fun _ _ z => False.elim z
section
variable {Pg : Program} {w : World} {K : PySem.W.Frag} {mg : Str → Option Value} {base : Heap} {cl : Nat → Addr}
theorem fn_okT {x qual : Str} {st : Stmt} {f : Addr} {fd : FuncData} {N ps : List Str} {k : Nat} {P : List Nat} {b : SF} (F : Fun K x qual st f fd) (S : FnScope N ps (defScope st)) (hP : ∀ i ∈ P, i < ps.length)
    (hnc : ∀ y ∈ (defScope st).names, y.2 ≠ .cell) (hps : 1 ≤ ps.length)
    (hbody : ∀ (cdv : Value) (A : Around) (outer : List Env) (s : Shared) (H : Hp) (E : XK), Room k (A.deeper (PyProof.Rows.envOfC qual (defScope st) s.heap.objs.size f cdv)) → XBt (cxOf CX0 Pg w K mg base N qual (defScope st) f cdv A outer s H E).nox cl P (defBody st) b) :
    FnOk Pg w K mg base CX0 (k + 1) f fd ps (spF ⟨cl, K⟩ ps.length (fnF N.length ps.length P b)) := by
  obtain ⟨oc, od, kV, doc, pm, an, cdv, ct, osl, rfl, lk, hcd⟩ := F.ex
  refine fn_ofT lk hcd S hnc hps (fun vs H Q E ⟨_, _, _, h, _⟩ => h) fun A outer s H vs Q E hr hsp => ?_
  obtain ⟨t, h, q⟩ := fn_bodyR (R := fun t => PSsT (cxOf CX0 Pg w K mg base N qual (defScope st) f cdv A outer s H E).nox (defBody st) t) S hP (hbody cdv A outer s H E hr) hsp
  exact ⟨t, PSsT.nox h, q⟩
end
/-- d[e] = .., d an own dict -/
def gDPut (i : Nat) (g : EF) : GF := fun m ms => (slK ms i).bind fun _ => (g ms).bind fun b => (slK b.2 i).bind fun kvs => (keyD (frz b.1)).bind fun k =>
  if kvs.length < sizeLine then some (b.2.set i (some (.dk (putKD kvs k (frz m))))) else none
@[simp] theorem gDPut_ap (i : Nat) (g : EF) (m : M) (ms : En) : gDPut i g m ms = ((slK ms i).bind fun _ => (g ms).bind fun b => (slK b.2 i).bind fun kvs => (keyD (frz b.1)).bind fun k =>
  if kvs.length < sizeLine then some (b.2.set i (some (.dk (putKD kvs k (frz m))))) else none) := by unfold gDPut; rfl
section
variable {X : Cx} {cl : Nat → Addr} {P : List Nat}
theorem xg_dput (i : Nat) {x : Str} {p pos : Pos} {e : Expr} {g : EF} (hu : X.A.units + 1 < cLine) (he : XE X cl P e g) (hN : X.N[i]? = some x := by rfl) (hv : Vis X.env.scope x := by first | exact Or.inl rfl | exact Or.inr (Or.inl rfl) | exact Or.inr (Or.inr rfl))
    (hd : (x == ("__debug__" : Str)) = false := by decide) (hcd : (x == ("__classdict__" : Str)) = false := by decide)
    (hg : ∀ v, assign (.Subscript (.Name x p) e pos) X.env v = (do
      let ov ← holding [v] (eval (.Name x p) X.env)
      let iv ← holding [v, ov] (eval e X.env)
      standAt pos
      holding [v, ov, iv] (setItem ov iv v)
      release [v, ov, iv] []) := by intro _; rfl) : XG X cl P (.Subscript (.Name x p) e pos) [] (gDPut i g) := fun E hE =>
  PG.weak (pg_sub (pe_var hN hv hd hcd) (he E hE) (set_dict hu) hg) fun w σ H Q ⟨T, ms, m, ms', s, z, k⟩ => by
    unfold gDPut at z
    obtain ⟨ds0, e0, z⟩ := Option.bind_eq_some_iff.mp z
    obtain ⟨b, e2, z⟩ := Option.bind_eq_some_iff.mp z
    obtain ⟨kvs, e3, z⟩ := Option.bind_eq_some_iff.mp z
    obtain ⟨kk, e4, z⟩ := Option.bind_eq_some_iff.mp z
    split at z
    · rename_i hl
      cases z
      obtain ⟨v, hv⟩ := s.cov i _ (slK_eq e0)
      refine ⟨v, hv, (w, .p (frz m)) :: T, ms, b.1, b.2, s.frz, e2, fun y H2 s2 => ?_⟩
      have s3 := s2.frz
      obtain ⟨ad, B, vs, h1, hB, ha, r, q, wr, _⟩ := s3.slotK (slK_eq e3)
      rw [hv] at h1
      cases h1
      have ry := (q y (frz b.1) (by simp)).key e4
      have rw' := q w (frz m) (by simp)
      subst ry
      refine ⟨ad, _, rfl, DPut.k ha (by rw [r.len]; exact hl), ?_⟩
      have s4 := wr (putK vs kk w) (putKD kvs kk (frz m)) [] (r.put rw') (by simp)
      exact k σ _ (fun _ _ => rfl) rfl ((show Stt ⟨cl, X.K⟩ E ((kV kk, .p (frz b.1)) :: (w, .p (frz m)) :: T) σ _ _ from s4).pop.pop)
    · cases z
end
end Mh
/-! Mh: dict displays, dict(d), d.update(..), d[k] of a dict that is own or not -/
namespace Mh
open PySem PySem.Spec PyProof.Rows L2
def mergeKD (kvs more : List (Key × D)) : List (Key × D) := more.foldl (fun acc kv => putKD acc kv.1 kv.2) kvs
theorem RepK.merge {Y : Tx} {B : Hp} : ∀ {more : List (Key × V)} {mored : List (Key × D)} {vs : List (Key × V)} {ds : List (Key × D)}, RepK Y B more mored → RepK Y B vs ds → RepK Y B (mergeK vs more) (mergeKD ds mored)
  | [], _, vs, ds, .nil, h => h
  | (k, v) :: more, (_, d) :: mored, vs, ds, .cons a r, h => by
    show RepK Y B (mergeK (putK vs k v) more) (mergeKD (putKD ds k d) mored)
    exact RepK.merge r (h.put a)
/-- the pairs of a display, from the left -/
def dpF : List (EF × EF) → En → Option (List (Key × D) × En)
  | [], ms => some ([], ms)
  | (f, g) :: r, ms => (f ms).bind fun a => (g a.2).bind fun b => (dpF r b.2).bind fun t => (keyD (frz a.1)).bind fun k => some ((k, frz b.1) :: t.1, t.2)
@[simp] theorem dpF_nil (ms : En) : dpF [] ms = some ([], ms) := by rw [dpF]
@[simp] theorem dpF_cons (f g : EF) (r : List (EF × EF)) (ms : En) : dpF ((f, g) :: r) ms = (f ms).bind fun a => (g a.2).bind fun b => (dpF r b.2).bind fun t => (keyD (frz a.1)).bind fun k => some ((k, frz b.1) :: t.1, t.2) := by rw [dpF]
def xDp (fs : List (EF × EF)) : EF := fun ms => (dpF fs ms).bind fun r => if r.1.length ≤ 15 then some (.dk (mergeKD [] r.1), r.2) else none
@[simp] theorem xDp_ap (fs : List (EF × EF)) (ms : En) : xDp fs ms = ((dpF fs ms).bind fun r => if r.1.length ≤ 15 then some (.dk (mergeKD [] r.1), r.2) else none) := by unfold xDp; rfl
section
variable {X : Cx} {cl : Nat → Addr} {P : List Nat}
/-- the temporaries of the pairs -/
def tmpP : List (V × V) → List (Key × D) → List (V × M)
  | (x, y) :: ps, (k, d) :: ds => tmpP ps ds ++ [(y, .p d), (x, .p (kD k))]
  | _, _ => []
theorem keyD_kD {d : D} {k : Key} (h : keyD d = some k) : d = kD k := by
  cases d <;> simp [keyD] at h <;> subst h <;> rfl
theorem dp_in {E : Ent} : ∀ (fs : List (EF × EF)) {T : List (V × M)} {σ : L2.St} {ms ms' : En} {H : Hp} {l : List (Key × D)} {Q : List (V × V) → Hp → Prop}, Stt ⟨cl, X.K⟩ E T σ ms H → dpF fs ms = some (l, ms') →
    (∀ ps H', ps.length = l.length → Stt ⟨cl, X.K⟩ E (tmpP ps l ++ T) σ ms' H' → Q ps H') → tPairs (fs.map fun p => (tE ⟨cl, X.K⟩ E p.1, tE ⟨cl, X.K⟩ E p.2)) σ H Q
  | [], T, σ, ms, ms', H, l, Q, s, e, k => by
    cases e
    exact k [] H rfl s
  | (f, g) :: r, T, σ, ms, ms', H, l, Q, s, e, k => by
    unfold dpF at e
    obtain ⟨a, e1, e⟩ := Option.bind_eq_some_iff.mp e
    obtain ⟨b, e2, e⟩ := Option.bind_eq_some_iff.mp e
    obtain ⟨t, e3, e⟩ := Option.bind_eq_some_iff.mp e
    obtain ⟨kk, e4, e⟩ := Option.bind_eq_some_iff.mp e
    cases e
    refine ⟨T, ms, a.1, a.2, s, e1, fun x H1 s1 => ⟨_, a.2, b.1, b.2, s1.frz, e2, fun y H2 s2 => ?_⟩⟩
    refine dp_in r s2.frz e3 fun ps H3 hl s3 => k ((x, y) :: ps) H3 (by simp [hl]) ?_
    rw [keyD_kD e4] at s3
    show Stt ⟨cl, X.K⟩ E ((tmpP ps t.1 ++ [(y, .p (frz b.1)), (x, .p (kD kk))]) ++ T) σ _ H3
    rw [List.append_assoc]
    exact s3
def XPp (X : Cx) (cl : Nat → Addr) (P : List Nat) (pos : Pos) (ks : List (Option Expr)) (vs : List Expr) (fs : List (EF × EF)) : Prop := ∀ E : Ent, E.prot.map (·.1) = P → PPs X pos ks vs (fs.map fun p => (tE ⟨cl, X.K⟩ E p.1, tE ⟨cl, X.K⟩ E p.2))
theorem xpp_nil {pos : Pos} : XPp X cl P pos [] [] [] := fun E hE => pps_nil
theorem xpp_cons {pos : Pos} {k v : Expr} {ks : List (Option Expr)} {vs : List Expr} {f g : EF} {fs : List (EF × EF)} (hk : XE X cl P k f) (hv : XE X cl P v g) (hr : XPp X cl P pos ks vs fs) : XPp X cl P pos (some k :: ks) (v :: vs) ((f, g) :: fs) := fun E hE =>
  pps_cons (hk E hE) (hv E hE) (hr E hE)
theorem tmpP_reps {E : Ent} {B : Hp} : ∀ {ps : List (V × V)} {l : List (Key × D)}, ps.length = l.length → (∀ u d, (u, M.p d) ∈ tmpP ps l → Rep ⟨cl, X.K⟩ B u d) → ∃ kvs : List (Key × V), ps = kvs.map (fun kv => (kV kv.1, kv.2)) ∧ kvs.length = l.length ∧ RepK ⟨cl, X.K⟩ B kvs l
  | [], [], _, _ => ⟨[], rfl, rfl, .nil⟩
  | [], _ :: _, h, _ => by cases h
  | _ :: _, [], h, _ => by cases h
  | (x, y) :: ps, (k, d) :: l, h, q => by
    obtain ⟨kvs, e1, e2, r⟩ := tmpP_reps (E := E) (ps := ps) (l := l) (by simpa using h) fun u d' hm => q u d' (by unfold tmpP; exact List.mem_append_left _ hm)
    have rx := q x (kD k) (by unfold tmpP; simp)
    have ry := q y d (by unfold tmpP; simp)
    have hk : keyD (kD k) = some k := by cases k <;> rfl
    have ex := rx.key hk
    subst ex e1
    exact ⟨(k, y) :: kvs, rfl, by simp [e2], .cons ry r⟩
theorem xe_disp {pos : Pos} {keys : List (Option Expr)} {values : List Expr} {fs : List (EF × EF)} (h : XPp X cl P pos keys values fs) (hall : keys.all (·.isSome) = true := by rfl) (hl : keys.length = values.length := by rfl) (h0 : keys ≠ [] := by exact fun z => (nomatch z))
    (h15 : keys.length ≤ 15 := by decide) : XE X cl P (.Dict keys values pos) (xDp fs) := fun E hE =>
  PE.weak (pe_disp (h E hE) hall hl h0 h15) fun σ H Q ⟨T, ms, m, ms', s, z, k⟩ => by
    unfold xDp at z
    obtain ⟨r, e1, z⟩ := Option.bind_eq_some_iff.mp z
    split at z
    · rename_i hz
      cases z
      intro p hp
      have s1 : Stt ⟨cl, X.K⟩ E ((.ref p, .dk []) :: T) σ ms (upd H p (.dK [])) := by
        obtain ⟨B, _, _, _, _, _, kd, _⟩ := s.pure
        exact kd p [] [] hp .nil
      refine dp_in fs s1 e1 fun ps H2 hps s2 => ?_
      have s3 : Stt ⟨cl, X.K⟩ E ((.ref p, .dk []) :: (tmpP ps r.1 ++ T)) σ r.2 H2 := s2.of (s2.rel.perm (List.Perm.append_right _ List.perm_middle))
      obtain ⟨a, B, vs', ea, hB, ha, rk, q, wr, _⟩ := s3.ownK
      cases ea
      cases rk
      obtain ⟨kvs, e2, e3, rk⟩ := tmpP_reps (X := X) (cl := cl) (E := E) hps fun u d hm => q u d (List.mem_append_left _ hm)
      refine ⟨ha, kvs, e2, by rw [e3]; exact hz, k _ _ ?_⟩
      have s4 := wr (mergeK [] kvs) (mergeKD [] r.1) [] (rk.merge .nil) (by simp)
      have s5 : Stt ⟨cl, X.K⟩ E (tmpP ps r.1 ++ (.ref p, .dk (mergeKD [] r.1)) :: T) σ r.2 _ := s4.of (s4.rel.perm (List.Perm.append_right _ List.perm_middle.symm))
      have drop : ∀ (L : List (V × M)) {T : List (V × M)} {σ : L2.St} {ms : En} {H : Hp}, Stt ⟨cl, X.K⟩ E (L ++ T) σ ms H → Stt ⟨cl, X.K⟩ E T σ ms H := by
        intro L
        induction L with
        | nil => intro T σ ms H s; exact s
        | cons x L ih => intro T σ ms H s; exact ih (Stt.pop s)
      exact drop _ s5
    · cases z
/-! ### a copy -/
theorem call_dictC : CallR X (.type "dict") (fun xs H Q => ∃ a kvs, xs = [.ref a] ∧ Rd H a (.dK kvs) ∧ ∀ p, H p = none → Q (.ref p) (upd H p (.dK kvs))) := by
  intro pins s σ H xs us Q I r h
  obtain ⟨a, kvs, rfl, e, q⟩ := h
  obtain ⟨u, rfl, rx⟩ := vals1 r
  cases rx
  exact d_copyOf I e fun p s' hp I' => ⟨.ref p, _, I', rfl, q p hp⟩
end
def rDictC : List V → Hp → VK → Prop := fun xs H Q => ∃ a kvs, xs = [.ref a] ∧ Rd H a (.dK kvs) ∧ ∀ p, H p = none → Q (.ref p) (upd H p (.dK kvs))
def dDictC : D → Option M
  | .dct kvs => some (.dk kvs)
  | _ => none
theorem cas_dictC {Y : Tx} : CaS Y rDictC (o1 dDictC) := CaS.one fun E T σ ms H v d m Q s e k => by
  obtain ⟨B, hB, q, kp, kt, kl, kd, _⟩ := s.pure
  have r := q v d (by simp)
  cases d with
  | dct kvs =>
    cases e
    obtain ⟨a, vs, rfl, hd, rk⟩ := r.dct_of
    exact ⟨a, vs, rfl, ex_rd hB hd, fun p hp => k _ _ (kd p _ _ hp rk).swap.pop⟩
  | _ => cases e
/-! ### update -/
def tDUpd (td ty : TE) : TE := fun σ H Q => td σ H fun x H1 => ∃ a, x = .ref a ∧ IsD H1 a ∧ ty σ H1 fun y H2 => ∃ b kvs more, y = .ref b ∧ a ≠ b ∧ H2 a = some (.dK kvs) ∧ Rd H2 b (.dK more) ∧ kvs.length + more.length ≤ sizeLine ∧ Q .non (upd H2 a (.dK (mergeK kvs more)))
theorem pe_dupd {X : Cx} {o e : Expr} {apos cpos : Pos} {td ty : TE} (ho : PE X o td) (he : PE X e ty) (m : M1 X o "update" apos e cpos) : PE X (.Call (.Attribute o "update" apos) [e] [] cpos) (tDUpd td ty) := by
  refine ⟨fun pins s σ H Q I h => ?_⟩
  refine wpAny_Call_method m.base m.few m.line PySem.F.plainAttrs_dict PySem.F.slot_dict_update PySem.F.type_dict_update (thn (ho.run pins s σ H _ I h) fun u s1 ⟨x, H1, I1, rx, a, ex, d, q1⟩ => ?_)
  subst ex
  obtain rfl : u = Value.ref a := rx
  obtain ⟨t1, t2, _⟩ := isD_at I1 d
  refine ⟨t1, t2, ?_⟩
  rw [m.trees]
  refine Calls.callWith_builtin rfl (Calls.evalArgs_plain (Calls.spliced_cons (thn (he.run pins s1 σ H1 _ I1 q1) fun iv s2 ⟨y, H2, I2, ry, b, kvs, more, ey, hne, ea, eb, hz, q2⟩ => Calls.spliced_nil ?_)))
  subst ey
  obtain rfl : iv = Value.ref b := ry
  obtain ⟨z, hd, vs, rel, dd⟩ := dk_of I2.hok ea
  obtain ⟨z2, hd2, rs, rel2, dd2⟩ := dk_rd I2.hok eb
  refine call_meetsIn PySem.F.slot_dict_update dd.typeIs PySem.F.entry_dict_update (PySem.F.args_dict_update_2 _ _) (meets_dict_update (mixKind X.prog X.w) a b hne hd2)
    ⟨vs, rs, dd, dd2, (by rw [← rel.length, ← rel2.length]; exact hz), fun h' hmm _ hs => ?_⟩
  have hl : (mergeK kvs more).length ≤ sizeLine := by
    have h1 := length_mergeK more kvs
    omega
  have he : ∃ q, h'.get? a = some q := let ⟨q, _, _, hq, _⟩ := hmm; ⟨q, hq⟩
  exact ⟨.non, _, d_write I2 (by rw [ea]; exact True.intro) hs he (dk_new hl hd (rel2.merge rel) hmm), rfl, q2⟩
def xDUpd (i : Nat) (g : EF) : EF := fun ms => (slK ms i).bind fun _ => (g ms).bind fun b => (slK b.2 i).bind fun kvs => match frz b.1 with
  | .dct more => if kvs.length + more.length ≤ 1000000 then some (.p .non, b.2.set i (some (.dk (mergeKD kvs more)))) else none
  | _ => none
@[simp] theorem xDUpd_ap (i : Nat) (g : EF) (ms : En) : xDUpd i g ms = ((slK ms i).bind fun _ => (g ms).bind fun b => (slK b.2 i).bind fun kvs => match frz b.1 with
  | .dct more => if kvs.length + more.length ≤ 1000000 then some (.p .non, b.2.set i (some (.dk (mergeKD kvs more)))) else none
  | _ => none) := by unfold xDUpd; rfl
section
variable {X : Cx} {cl : Nat → Addr} {P : List Nat}
theorem xe_dupd (i : Nat) {x : Str} {e : Expr} {p apos cpos : Pos} {g : EF} (he : XE X cl P e g) (hN : X.N[i]? = some x := by rfl) (hv : Vis X.env.scope x := by first | exact Or.inl rfl | exact Or.inr (Or.inl rfl) | exact Or.inr (Or.inr rfl))
    (hd : (x == ("__debug__" : Str)) = false := by decide) (hcd : (x == ("__classdict__" : Str)) = false := by decide)
    (hm : M1 X (.Name x p) "update" apos e cpos := by exact ⟨rfl, rfl, rfl, rfl⟩) : XE X cl P (.Call (.Attribute (.Name x p) "update" apos) [e] [] cpos) (xDUpd i g) := fun E hE =>
  PE.weak (pe_dupd (pe_var hN hv hd hcd) (he E hE) hm) fun σ H Q ⟨T, ms, m, ms', s, z, k⟩ => by
    unfold xDUpd at z
    obtain ⟨ds0, e0, z⟩ := Option.bind_eq_some_iff.mp z
    obtain ⟨b, e1, z⟩ := Option.bind_eq_some_iff.mp z
    obtain ⟨kvs, e2, z⟩ := Option.bind_eq_some_iff.mp z
    obtain ⟨a, B, vs, h1, hB, ha, _⟩ := s.slotK (slK_eq e0)
    refine ⟨.ref a, h1, a, rfl, .inl ⟨vs, .inl ha⟩, T, ms, b.1, b.2, s, e1, fun y H2 s2 => ?_⟩
    have s3 := s2.frz
    generalize frz b.1 = fb at z s3
    cases fb with
    | dct more =>
      dsimp only at z
      split at z
      · rename_i hz
        cases z
        obtain ⟨a', B3, vs3, h1', hB3, ha3, rk, q, wr, _⟩ := s3.slotK (slK_eq e2)
        rw [h1] at h1'
        cases h1'
        obtain ⟨ad, ws, rfl, hd, rk2⟩ := (q y (.dct more) (by simp)).dct_of
        have hne : a ≠ ad := fun z => by
          subst z
          obtain ⟨B4, fp, r⟩ := (s3.take h1 (slK_eq e2)).rel
          obtain ⟨g, sp, nd, ow⟩ := r
          rw [List.cons_append, List.cons_append] at sp
          cases sp with
          | cons rm sp =>
            cases rm with
            | dk hh rr =>
              have hBn := (ow a (by simp)).1
              cases sp with
              | cons rm2 sp2 =>
                cases rm2 with
                | p rp =>
                  obtain ⟨ad2, ws2, e5, hd2, _⟩ := rp.dct_of
                  cases e5
                  rcases hd2 with h | ⟨od, h⟩ <;> (rw [hBn] at h; cases h)
        refine ⟨ad, vs3, ws, rfl, hne, ha3, ex_rd hB3 hd, by rw [rk.len, rk2.len, sizeLine_eq]; omega, k _ _ ?_⟩
        have s4 := wr (mergeK vs3 ws) (mergeKD kvs more) [] (rk2.merge rk) (by simp)
        exact ((show Stt ⟨cl, X.K⟩ E ((.ref ad, .p (.dct more)) :: T) σ _ _ from s4).pop).scal fun _ => .non
      · cases z
    | _ => cases z
/-! ### own or not -/
theorem PE.or {e : Expr} {t t' : TE} (h : PE X e t) (h' : PE X e t') : PE X e (fun σ H Q => t σ H Q ∨ t' σ H Q) := ⟨fun pins s σ H Q I q => by
  rcases q with q | q
  · exact h.run pins s σ H Q I q
  · exact h'.run pins s σ H Q I q⟩
def xDGetA (i : Nat) (g : EF) : EF := fun ms => match ms[i]? with
  | some (some (.p _)) => xDGet (xV i) g ms
  | _ => xDGetO i g ms
@[simp] theorem xDGetA_ap (i : Nat) (g : EF) (ms : En) : xDGetA i g ms = (match ms[i]? with
  | some (some (.p _)) => xDGet (xV i) g ms
  | _ => xDGetO i g ms) := by unfold xDGetA; rfl
theorem xe_dgetA (i : Nat) {x : Str} {p pos : Pos} {e : Expr} {g : EF} (hu : X.A.units + 1 < cLine) (he : XE X cl P e g) (hN : X.N[i]? = some x := by rfl) (hv : Vis X.env.scope x := by first | exact Or.inl rfl | exact Or.inr (Or.inl rfl) | exact Or.inr (Or.inr rfl))
    (hd : (x == ("__debug__" : Str)) = false := by decide) (hcd : (x == ("__classdict__" : Str)) = false := by decide) (hs : NoSl e := by exact fun _ _ => rfl) : XE X cl P (.Subscript (.Name x p) e pos) (xDGetA i g) := fun E hE =>
  PE.weak (PE.or (xe_dget hu (xe_var i hN hv hd hcd) he hs E hE) (xe_dgetO i hu he hN hv hs hd hcd E hE)) fun σ H Q ⟨T, ms, m, ms', s, z, k⟩ => by
    unfold xDGetA at z
    split at z
    · exact .inl ⟨T, ms, m, ms', s, z, k⟩
    · exact .inr ⟨T, ms, m, ms', s, z, k⟩
end
end Mh
/-! Mh: expressions behind which a token is out -/
namespace Mh
open PySem PySem.Spec PyProof.Rows L2
def PEk (X : Cx) (e : Expr) (t : TE) : Prop :=
  ∀ (pins : List (Addr × Obj)) (s : Shared) (σ : L2.St) (H : Hp) (Q : VK), Inv X pins σ H s → t σ H Q → wpAny (model X.prog X.w) X.A (eval e X.env) (fun v s1 => 1 ≤ s1.toks ∧ EP X pins σ Q v s1) X.xe s
section
variable {X : Cx} {a b : Expr} {ta tb : TE} {pos : Pos}
theorem PEk.weak {e : Expr} {t t' : TE} (h : PEk X e t) (w : ∀ σ H Q, t' σ H Q → t σ H Q) : PEk X e t' := fun pins s σ H Q I q => h pins s σ H Q I (w σ H Q q)
theorem pek_int {i : Int} {j : Nat} : PEk X (.Constant (.int i) j pos) (tC (.int i)) := fun _ s _ H _ I h => wpAny_Constant_int ⟨by show 1 ≤ s.toks + 1; omega, .int i, H, I.tok _, ⟨_, rfl⟩, h⟩
theorem pek_str {x : Str} {j : Nat} : PEk X (.Constant (.str x) j pos) (tC (.str x)) := fun _ s _ H _ I h => Calls.Constant_str ⟨by show 1 ≤ s.toks + 1; omega, .str x, H, I.tok _, ⟨_, rfl⟩, h⟩
theorem pek_op {op : Operator} {r : R2} (ho : OpR X (binaryOp op) r) (ha : PE X a ta) (hb : PEk X b tb) : PEk X (.BinOp a op b pos) (tOp r ta tb) := by
  intro pins s σ H Q I h
  refine wpAny_BinOp (thn (ha.run pins s σ H _ I h) fun v s1 ⟨x, H1, I1, r1, q1⟩ => ?_)
  exact thn (hb pins s1 σ H1 _ I1 q1) fun u s2 ⟨hk, y, H2, I2, r2, q2⟩ => wpAny_mono (PySem.wpAny_toks_of hk (ho pins s2 σ H2 x y v u Q I2 r1 r2 q2)) (fun _ _ z => z) fun _ _ z => z.2
theorem pek_ix {r : R2} (hr : IxR X r) (ha : PE X a ta) (hb : PEk X b tb) (hs : PlainIx b) : PEk X (.Subscript a b pos) (tOp r ta tb) := by
  intro pins s σ H Q I h
  refine Subscript_ (thn (ha.run pins s σ H _ I h) fun v s1 ⟨x, H1, I1, r1, q1⟩ => ?_)
  exact thn (hb pins s1 σ H1 _ I1 q1) fun u s2 ⟨hk, y, H2, I2, r2, q2⟩ => wpAny_mono (PySem.wpAny_toks_of hk (hr a b pins s2 σ H2 x y v u Q I2 r1 r2 q2 (hs _ _))) (fun _ _ z => z) fun _ _ z => z.2
theorem pe_replK {o : Expr} {to : TE} {y z : Str} {j k : Nat} {c0 c1 apos : Pos} (ho : PEk X o to) (hyz : (y == z) = false)
    (hst : starEach [.Constant (.str y) j c0, .Constant (.str z) k c1] X.env = [(false, eval (.Constant (.str y) j c0) X.env), (false, eval (.Constant (.str z) k c1) X.env)])
    (hbase : attributeBase o "replace" X.env (eval o X.env) = eval o X.env) (hline : (apos.endLine == pos.line) = true) :
    PE X (.Call (.Attribute o "replace" apos) [.Constant (.str y) j c0, .Constant (.str z) k c1] [] pos) (CwR.tReplC to y z) := by
  refine ⟨fun pins s σ H Q I h => ?_⟩
  refine PySem.Call_method2 hbase hst hline (wpAny_mono (ho pins s σ H _ I h) (fun v s1 q => ?_) fun _ _ z => z)
  obtain ⟨hk, v', H1, I1, r1, x, e1, hb, q⟩ := q
  subst e1
  obtain ⟨tx, e2⟩ := r1
  subst e2
  refine ⟨"str", _, PySem.F.plainAttrs_str, PySem.F.slot_str_replace, PySem.F.type_str_replace, typeIs_str _ _ _, (fun _ e => nomatch e), Calls.callWith_builtin rfl (Calls.evalArgs_plain (Calls.spliced_cons ?_))⟩
  refine Calls.Constant_str (Calls.spliced_cons (Calls.Constant_str (Calls.spliced_nil ?_)))
  exact PySem.SC.replace (by show s1.toks ≠ 0; omega) (by show s1.toks + 1 ≠ 0; omega) (by show s1.toks ≠ s1.toks + 1; omega) hyz hb fun t' k => ⟨.str (Txt.replace x y z), H1, I1.tok k, ⟨t', rfl⟩, q⟩
end
section
variable {X : Cx} {cl : Nat → Addr} {P : List Nat}
def XEk (X : Cx) (cl : Nat → Addr) (P : List Nat) (e : Expr) (f : EF) : Prop := ∀ E : Ent, E.prot.map (·.1) = P → PEk X e (tE ⟨cl, X.K⟩ E f)
theorem xek_int {i : Int} {j : Nat} {pos : Pos} : XEk X cl P (.Constant (.int i) j pos) (xC (.int i)) := fun E _ => PEk.weak pek_int fun σ H Q ⟨T, ms, m, ms', s, e, k⟩ => by cases e; exact k _ H (s.scal fun _ => .int i)
theorem xek_bin {a b : Expr} {o : Operator} {pos : Pos} {r : R2} {op : D → D → Option D} {f g : EF} (ho : OpR X (binaryOp o) r) (hs : OpS ⟨cl, X.K⟩ r op) (ha : XE X cl P a f) (hb : XEk X cl P b g) : XEk X cl P (.BinOp a o b pos) (f2 op f g) := fun E hE =>
  PEk.weak (pek_op ho (ha E hE) (hb E hE)) (f2_in hs)
theorem xek_ix {a b : Expr} {pos : Pos} {f g : EF} (ha : XE X cl P a f) (hb : XEk X cl P b g) (hs : PlainIx b := by exact fun _ _ => rfl) : XEk X cl P (.Subscript a b pos) (f2 dIx f g) := fun E hE =>
  PEk.weak (pek_ix ix_seq (ha E hE) (hb E hE) hs) (f2_in ops_ix)
theorem xe_replK {o : Expr} {f : EF} {y z : Str} {j k : Nat} {c0 c1 apos pos : Pos} (ho : XEk X cl P o f) (hyz : (y == z) = false := by decide)
    (hst : starEach [.Constant (.str y) j c0, .Constant (.str z) k c1] X.env = [(false, eval (.Constant (.str y) j c0) X.env), (false, eval (.Constant (.str z) k c1) X.env)] := by rfl)
    (hbase : attributeBase o "replace" X.env (eval o X.env) = eval o X.env := by rfl) (hline : (apos.endLine == pos.line) = true := by rfl) :
    XE X cl P (.Call (.Attribute o "replace" apos) [.Constant (.str y) j c0, .Constant (.str z) k c1] [] pos) (xRepl f y z) := fun E hE =>
  PE.weak (pe_replK (ho E hE) hyz hst hbase hline) repl_in
end
end Mh
/-! Mh: a def with cells in whose body a token is out -/
namespace PySem
open PyProof.Rows
section
variable {M : Model} {A : Around} {E : Value → Shared → Prop} {s₀ s : Shared} {m cm : Str → Option Value} {env : Env}
theorem stLC_T {n : Str} {v : Value} {Q : Unit → Shared → Prop} (x : InCallC s₀ env.locals m env.cells cm s) (hk : env.scope.kind = .function) (hl : env.kindOf n = some .local)
    (h : ∀ s', 1 ≤ s'.toks → InCallC s₀ env.locals (fun y => if y = n then some v else m y) env.cells cm s' → Q () s') : wpAny M A (storeName env n v) Q E s := by
  refine wpAny_storeName_local hl x.toInCall.ns (fun h' hn' hs' => h _ (by show 1 ≤ s.toks + 1; omega) ⟨⟨?_, hn', fun b o e => ?_, x.toInCall.fresh⟩, fun k c hc => ?_, x.apart, x.above⟩) (by rw [hk]; rfl)
  · obtain ⟨h₁, tk, rfl⟩ := x.toInCall.same
    exact ⟨h', _, rfl⟩
  · exact hs'.extBut b o (Nat.ne_of_lt (Nat.lt_of_lt_of_le (Heap.lt_size e) x.toInCall.fresh)) (x.toInCall.keep b o e)
  · exact (x.cell k c hc).sameBut hs' (Nat.ne_of_gt (x.above k c (mem_of_lookup hc)))
theorem wpAny_bindParams_T (f : Str × Value → PUnit → Sem (ForInStep PUnit)) (hf : ∀ n v u, f (n, v) u = (do storeName env n v; pure (.yield ⟨⟩))) (hk : env.scope.kind = .function)
    (n : Str) (v : Value) (r : List (Str × Value)) (m cm : Str → Option Value) (s : Shared) (Q : PUnit → Shared → Prop) (x : InCallC s₀ env.locals m env.cells cm s) (hl : env.kindOf n = some .local)
    (hr : ∀ x ∈ r, env.kindOf x.1 = some .local ∨ (env.kindOf x.1 = some .cell ∧ (env.cells.lookup x.1).isSome = true))
    (h : ∀ s', 1 ≤ s'.toks → InCallC s₀ env.locals (bindL env.kindOf ((n, v) :: r) m) env.cells (bindC env.kindOf ((n, v) :: r) cm) s' → Q ⟨⟩ s') : wpAny M A (forIn ((n, v) :: r) ⟨⟩ f) Q E s := by
  rw [List.forIn_cons, hf]
  refine wpAny_bind (wpAny_bind (stLC_T x hk hl fun s' ht x' => wpAny_pure ?_))
  refine wpAny_mono (wpAny_toks_of ht (wpAny_bindParams f hf hk r _ _ s' (fun _ s'' => InCallC s₀ env.locals (bindL env.kindOf ((n, v) :: r) m) env.cells (bindC env.kindOf ((n, v) :: r) cm) s'') x' hr fun s'' x'' => ?_)) (fun _ s'' q => h s'' q.1 q.2) fun _ _ q => q.2
  unfold bindL bindC; rw [if_pos hl, if_pos hl]; exact x''
theorem wpAny_newFunctionEnv_cellsT {scope : Scope} {globals : Addr} {n : Str} {v : Value} {r : List (Str × Value)} {qual : Str} {func : Option Addr} {code : Value} {builtins : Addr} {Q : Env → Shared → Prop}
    (hk : scope.kind = .function) (hl : scope.names.lookup n = some .local)
    (hkind : ∀ x ∈ r, scope.names.lookup x.1 = some .local ∨ (scope.names.lookup x.1 = some .cell ∧ ((cellsFrom (s.heap.objs.size + 1) scope.names []).lookup x.1).isSome = true))
    (hQ : ∀ env, env = newEnv scope s.heap.objs.size globals (cellsFrom (s.heap.objs.size + 1) scope.names []) qual func code none builtins →
      ∀ s', 1 ≤ s'.toks → InCallC s env.locals (bindL env.kindOf ((n, v) :: r) fun _ => none) env.cells (bindC env.kindOf ((n, v) :: r) fun _ => none) s' → Q env s') :
    wpAny M A (newFunctionEnv scope globals [] ((n, v) :: r) qual func code none builtins) Q E s := by
  simp only [newFunctionEnv, Option.isSome_none, Bool.false_eq_true, if_false]
  refine wpAny_bind (wpAny_alloc ?_)
  refine wpAny_bind (wpAny_layCells _ (fun name kind cells => by cases hkc : kind == NameKind.cell <;> simp [hkc]) _ _ _ _ ?_)
  have ok := cellsFrom_ok scope.names (s.heap.push { cls := .type "frame", data := .dict #[] }) (s.heap.objs.size + 1) [] ⟨fun _ _ hm => (nomatch hm), List.Pairwise.nil⟩ (by rw [Heap.size_push]; exact Nat.le_refl _)
  rw [Heap.size_push] at ok
  rw [show ({ s with heap := s.heap.push { cls := .type "frame", data := .dict #[] } } : Shared).heap.objs.size = s.heap.objs.size + 1 from Heap.size_push ..]
  refine wpAny_bind (wpAny_bindParams_T (s₀ := s) (env := newEnv scope s.heap.objs.size globals (cellsFrom (s.heap.objs.size + 1) scope.names []) qual func code none builtins)
    _ (fun _ _ _ => rfl) hk n v r (fun _ => none) (fun _ => none) _ _
    ⟨⟨⟨_, _, rfl⟩, (Heap.Ns.new s.heap (.type "frame")).keeps (pushCells_keeps _ _), fun b o e => pushCells_keeps _ _ b o (Heap.get?_push_of_some _ e), Nat.le_refl _⟩,
      fun n c hc => (ok.empty n c (mem_of_lookup hc)).1, ok.apart, fun n c hm => (ok.empty n c hm).2⟩
    (by first | exact hl | (simp only [Env.kindOf]; exact hl) | (unfold Env.kindOf; rw [if_pos hk]; exact hl) | simpa [Env.kindOf, newEnv, hk] using hl) hkind fun s' ht x => wpAny_pure (hQ _ rfl s' ht x))
end
end PySem
namespace Mh
open PySem PySem.Spec PyProof.Rows L2
theorem fn_ofTC {CX : CXT} {P : Program} {w : World} {K : PySem.W.Frag} {mg : Str → Option Value} {base : Heap} {k : Nat} {f : Addr} {name qual : Str} {params : Arguments} {body : List Stmt} {scope : Scope} {dV kV doc pm cdv ct oc : Value} {an od : Option Addr}
    {osl : Array (Option Value)} {N ps : List Str} {p0 : Str} {sp : Sp} (lk : K.lookup f = some ⟨oc, od, .func (PySem.W.fnOf name qual params body scope dV kV doc pm an cdv ct), osl⟩) (hcd : PySem.W.codeIn K cdv qual = true) (S : FnScope N (p0 :: ps) scope)
    (hl0 : scope.names.lookup p0 = some .local) (len : ∀ vs H Q E, sp vs H Q E → vs.length = (p0 :: ps).length)
    (hbody : ∀ (A : Around) (outer : List Env) (s : Shared) (H : Hp) (vs : List V) (Q : VK) (E : XK), Room k (A.deeper (envOfC qual scope s.heap.objs.size f cdv)) → sp vs H Q E →
      ∃ t, PSsT (cxOf CX P w K mg base N qual scope f cdv A outer s H E) body t ∧ t { nx := fun _ H' => Q .non H', rt := Q } (start N vs) H) :
    FnOk P w K mg base CX (k + 1) f (PySem.W.fnOf name qual params body scope dV kV doc pm an cdv ct) (p0 :: ps) sp := by
  refine ⟨len, fun A outer s H args us vs Q E hr e0 hb r hsp => ?_⟩
  have hl := len _ _ _ _ hsp
  have KX : K.In s.heap := e0.mod.kin.keeps fun b o e => (e0.bs b o e).1
  have lim : s.heap.NoLimit := e0.mod.nolimit.keeps fun b o e => (e0.bs b o e).1
  have hul : us.length = (p0 :: ps).length := by rw [← r.length, hl]
  match us, hul with
  | u0 :: us, hul =>
    have hkind : ∀ y ∈ ps.zip us, scope.names.lookup y.1 = some .local ∨ (scope.names.lookup y.1 = some .cell ∧ ((cellsFrom (s.heap.objs.size + 1) scope.names []).lookup y.1).isSome = true) := fun ⟨n, v⟩ hy => by
      rcases S.par n (List.mem_cons_of_mem _ (List.of_mem_zip hy).1) with q | q
      · exact .inl q
      · exact .inr ⟨q, PySem.W.cellsFrom_some _ _ _ (.inl q)⟩
    refine codeAny_call_function hr.depth (KX _ _ lk) rfl S.co S.gen rfl (PySem.W.codeRec_of KX hcd) (hb _ _ _ _ ?_)
    refine wpAny_newFunctionEnv_cellsT S.kind hl0 hkind fun env he s1 ht1 x => ?_
    subst he
    refine ⟨lim.keeps x.toInCall.keep, codeAny_func ?_⟩
    obtain ⟨t, ht, hq⟩ := hbody A outer s H vs Q E (hr.deeper _) hsp
    have I : Inv (cxOf CX P w K mg base N qual scope f cdv A outer s H E) [] (start N vs) H s1 := inv_start S hr.hd e0 hl r x
    refine wpAny_mono (ht [] s1 (start N vs) H _ ht1 I hq) (fun fl s' hs => ?_) fun e s' hs => hs
    have fin : ∀ {σ' : L2.St} {H' : Hp} {v : V} {u : Value}, Inv (cxOf CX P w K mg base N qual scope f cdv A outer s H E) [] σ' H' s' → RelV v u → Q v H' → CE outer P w H s Q u s' :=
      fun {σ' H' v u} J rv q => ⟨v, H', J.os, J.bare, J.base, J.hok, rv, q⟩
    cases fl with
    | ret u =>
      obtain ⟨v, σ', H', J, rv, q⟩ := hs
      exact fin J rv q
    | next =>
      obtain ⟨σ', H', J, q⟩ := hs
      exact fin (v := V.non) (u := Value.none) J rfl q
    | brk =>
      obtain ⟨_, _, _, q⟩ := hs
      exact False.elim q
    | cont =>
      obtain ⟨_, _, _, q⟩ := hs
      exact False.elim q
section
variable {Pg : Program} {w : World} {K : PySem.W.Frag} {mg : Str → Option Value} {base : Heap} {cl : Nat → Addr}
theorem fn_okTC {x qual : Str} {st : Stmt} {f : Addr} {fd : FuncData} {N ps : List Str} {p0 : Str} {k : Nat} {P : List Nat} {b : SF} (F : Fun K x qual st f fd) (S : FnScope N (p0 :: ps) (defScope st)) (hP : ∀ i ∈ P, i < (p0 :: ps).length)
    (hl0 : (defScope st).names.lookup p0 = some .local)
    (hbody : ∀ (cdv : Value) (A : Around) (outer : List Env) (s : Shared) (H : Hp) (E : XK), Room k (A.deeper (PyProof.Rows.envOfC qual (defScope st) s.heap.objs.size f cdv)) → XBt (cxOf CX0 Pg w K mg base N qual (defScope st) f cdv A outer s H E).nox cl P (defBody st) b) :
    FnOk Pg w K mg base CX0 (k + 1) f fd (p0 :: ps) (spF ⟨cl, K⟩ (p0 :: ps).length (fnF N.length (p0 :: ps).length P b)) := by
  obtain ⟨oc, od, kV, doc, pm, an, cdv, ct, osl, rfl, lk, hcd⟩ := F.ex
  refine fn_ofTC lk hcd S hl0 (fun vs H Q E ⟨_, _, _, h, _⟩ => h) fun A outer s H vs Q E hr hsp => ?_
  obtain ⟨t, h, q⟩ := fn_bodyR (R := fun t => PSsT (cxOf CX0 Pg w K mg base N qual (defScope st) f cdv A outer s H E).nox (defBody st) t) S hP (hbody cdv A outer s H E hr) hsp
  exact ⟨t, PSsT.nox h, q⟩
end
end Mh
/-! Mh: t, u = a, b by a tuple: the parts go over as they are -/
namespace Mh
open PySem PySem.Spec PyProof.Rows L2
def sParG (f g : EF) (t u : GF) : SF := fun ms => (f ms).bind fun a => (g a.2).bind fun b => (t a.1 b.2).bind fun m1 => (u b.1 m1).bind fun m2 => some (.nx, m2)
@[simp] theorem sParG_ap (f g : EF) (t u : GF) (ms : En) : sParG f g t u ms = ((f ms).bind fun a => (g a.2).bind fun b => (t a.1 b.2).bind fun m1 => (u b.1 m1).bind fun m2 => some (.nx, m2)) := by unfold sParG; rfl
section
variable {X : Cx} {cl : Nat → Addr} {P : List Nat}
theorem xs_parG {tx ty a b : Expr} {pt pos : Pos} {kt k2 : Nat} {pt2 : Pos} {f g : EF} {W1 W2 : List Nat} {t u : GF} (hc : X.calm = true) (ha : XE X cl P a f) (hb : XE X cl P b g) (ht : XG X cl P tx W1 t) (hu : XG X cl P ty W2 u)
    (hn : (assignEach [tx, ty] X.env).length = 2 := by rfl) (hst : (assignEach [tx, ty] X.env).findIdx? (·.1) = none := by rfl)
    (hq1 : (assignEach (tx :: [ty]) X.env).map (·.2) = assign tx X.env :: (assignEach [ty] X.env).map (·.2) := by rfl) (hq2 : (assignEach (ty :: []) X.env).map (·.2) = assign ty X.env :: (assignEach [] X.env).map (·.2) := by rfl)
    (hs : swapsWithSole [.Tuple [tx, ty] kt pt] (.Tuple [a, b] k2 pt2) pos.line X.env = pure false := by rfl) (hw : swappedStores [.Tuple [tx, ty] kt pt] (.Tuple [a, b] k2 pt2) X.env = pure none := by rfl)
    (he : (assignEach [.Tuple [tx, ty] kt pt] X.env).map (·.2) = [assign (.Tuple [tx, ty] kt pt) X.env] := by rfl)
    (h1 : starEach [a, b] X.env = (false, eval a X.env) :: starEach [b] X.env := by rfl) (h2 : starEach [b] X.env = (false, eval b X.env) :: starEach [] X.env := by rfl) :
    XS X cl P (.Assign [.Tuple [tx, ty] kt pt] (.Tuple [a, b] k2 pt2) pos) (sParG f g t u) := fun E hE =>
  PS.weak (ps_asg (pe_tup (pa_cons (ha E hE) (pa_cons (hb E hE) pa_nil h2) h1)) (pg_tup hc (pgs_cons (ht E hE) (pgs_cons (hu E hE) pgs_nil hq2) hq1) hn hst) hs hw he) fun D σ H ⟨T, ms, o, ms', s, z, k⟩ => by
    unfold sParG at z
    obtain ⟨a, e1, z⟩ := Option.bind_eq_some_iff.mp z
    obtain ⟨b, e2, z⟩ := Option.bind_eq_some_iff.mp z
    obtain ⟨m1, e3, z⟩ := Option.bind_eq_some_iff.mp z
    obtain ⟨m2, e4, z⟩ := Option.bind_eq_some_iff.mp z
    cases z
    refine ⟨T, ms, a.1, a.2, s, e1, fun v H1 s1 => ⟨_, a.2, b.1, b.2, s1, e2, fun w H2 s2 => ⟨by simp [sizeLine_eq], fun p hp => ⟨p, [v, w], rfl, .inl (.inl upd_same), rfl, ?_⟩⟩⟩⟩
    have s3 : Stt ⟨cl, X.K⟩ E ((w, b.1) :: (v, a.1) :: T) σ b.2 (upd H2 p (.tup [v, w])) := by
      obtain ⟨_, _, _, _, _, _, _, ka⟩ := s2.pure
      exact ka p _ hp
    refine ⟨v, [w], rfl, _, b.2, a.1, m1, s3.swap, e3, fun σ' H' _ _ s4 => ⟨w, [], rfl, T, m1, b.1, _, s4, e4, fun σ2 H2' _ _ s5 => ⟨rfl, k σ2 H2' s5⟩⟩⟩
end
end Mh
/-! Mh: a class made, with defaults left out -/
namespace Mh
open PySem PySem.Spec PyProof.Rows L2
structure CalCd (Pg : Program) (w : World) (K : PySem.W.Frag) (mg : Str → Option Value) (base : Heap) (cl : Nat → Addr) (c : Nat) (x : Str) (k n : Nat) (ff : FF) (dvs : List V) : Prop where
  ex : ∃ f fd ps ds, mg x = some (.ref (cl c)) ∧ Mk K (cl c) f ∧ FnOk Pg w K mg base CX0 k f fd ps (spF ⟨cl, K⟩ n ff) ∧ Vals dvs ds ∧ Binds K fd ps ds
section
variable {X : Cx} {cl : Nat → Addr} {P : List Nat}
theorem xe_calCd {k n c j : Nat} {ff : FF} {x : Str} {e : Expr} {es : List Expr} {p pos : Pos} {a : AF} {dvs : List V} {dd : List D} (cc : CalCd X.prog X.w X.K X.mg X.base cl c x k n ff dvs) (hr : Room (k + 1) X.A) (hdd : ∀ B, RepL ⟨cl, X.K⟩ B dvs dd) (hj : (e :: es).length = j) (hn : j + dd.length + 1 = n)
    (hlen : ∀ ms l ms', a ms = some (l, ms') → l.length = j) (ha : XA X cl P (e :: es) a) (hg : Gl X x := by rfl) (hdb : (x == ("__debug__" : Str)) = false := by decide) (he : starEach (e :: es) X.env = (false, eval e X.env) :: starEach es X.env := by rfl) (hpl : (backTo pos (starEach es X.env)).any (·.1) = false := by rfl) :
    XE X cl P (.Call (.Name x p) (e :: es) [] pos) (xMk ff dd c a) := by
  obtain ⟨f, fd, ps, ds, hm, M, F, hv, hb⟩ := cc.ex
  exact xe_mk F M hr hm hb hv hdd hj hn hlen ha hg hdb he hpl
end
end Mh
namespace Mh
open PySem L2
/-! ### a list that stays one's own: its type, its elements with their places -/
def xIs2P (i : Nat) (M N : String) : EF := fun ms => match ms[i]? with
  | some (some m) => (tyOf (frz m)).bind fun t => (kitB t M).bind fun b => (kitB t N).bind fun c => some (.p (.bl (b || c)), ms)
  | _ => none
theorem iteO_ok {K : PySem.W.Frag} {a : Addr} {ds : List D} {cl : Nat → Addr} : IterOk ⟨cl, K⟩ (Ite K a) [(.ref a, .l ds)] (enumD 0 ds) := fun i E T σ ms H s => by
  obtain ⟨b, B, vs, e, hB, ha, rl, q, w, w0⟩ := s.ownL
  cases e
  have hs' : SqL K H a vs := SqL.of ha
  refine ⟨fun h => ⟨vs, hs', by rw [rl.len]; rw [enumD_len] at h; exact h⟩, fun d h => ?_⟩
  obtain ⟨d', hd', rfl⟩ := enumD_get ds 0 i d h
  obtain ⟨v, h1, h2⟩ := rl.get i d' hd'
  refine ⟨⟨vs, v, hs', h1⟩, fun x H' ⟨p, y, e1, e2, e3, e4⟩ => ?_⟩
  subst e1 e3
  have := e4 vs hs'
  rw [h1] at this
  cases this
  rw [Nat.zero_add]
  have s2 := w0 [(_, d')] (by simpa using h2)
  obtain ⟨B', hB', q', kp, kt, _⟩ := s2.pure
  have r := q' v d' (by simp [pures])
  have s3 := kt p [.int (i : Int), v] [.int (i : Int), d'] e2 (.cons (.int _) (.cons r .nil))
  exact s3.under (A := [(v, .p d')])
def sForEO (i : Nat) (tg : GF) (body : SF) : SF := fun ms => (slL ms i).bind fun ds => (forF tg body (enumD 0 ds) (ms.set i none)).bind fun r => if isHole r.2[i]? = true then some (r.1, r.2.set i (some (.l ds))) else none
section
variable {X : Cx} {cl : Nat → Addr} {P : List Nat}
theorem xe_is2P (i : Nat) {M N : String} {x y z : Str} {p0 p q q' tp pos : Pos} {k : Nat} (hm : X.mg "isinstance" = none) (hx : X.mg x = none) (hy : X.mg y = none) (hv : bootBuiltins x = some (.type M) := by decide +kernel) (hv' : bootBuiltins y = some (.type N) := by decide +kernel)
    (hzN : X.N[i]? = some z := by rfl) (hzv : Vis X.env.scope z := by first | exact Or.inl rfl | exact Or.inr (Or.inl rfl) | exact Or.inr (Or.inr rfl)) (hzd : (z == ("__debug__" : Str)) = false := by decide) (hzc : (z == ("__classdict__" : Str)) = false := by decide)
    (hg : Gl X "isinstance" := by rfl) (hgx : Gl X x := by rfl) (hgy : Gl X y := by rfl) (hb : bootBuiltins "isinstance" = some (.builtin "isinstance") := by decide +kernel) (hn : x ≠ "__name__" := by decide) (hdb : (x == ("__debug__" : Str)) = false := by decide) (hn' : y ≠ "__name__" := by decide) (hdb' : (y == ("__debug__" : Str)) = false := by decide)
    (h1 : starEach [.Name z p0, .Tuple [.Name x q, .Name y q'] k tp] X.env = (false, eval (.Name z p0) X.env) :: starEach [.Tuple [.Name x q, .Name y q'] k tp] X.env := by rfl) (h2 : starEach [.Tuple [.Name x q, .Name y q'] k tp] X.env = (false, eval (.Tuple [.Name x q, .Name y q'] k tp) X.env) :: starEach [] X.env := by rfl)
    (h3 : starEach [.Name x q, .Name y q'] X.env = (false, eval (.Name x q) X.env) :: starEach [.Name y q'] X.env := by rfl) (h4 : starEach [.Name y q'] X.env = (false, eval (.Name y q') X.env) :: starEach [] X.env := by rfl)
    (hpl : (backTo pos (starEach [.Tuple [.Name x q, .Name y q'] k tp] X.env)).any (·.1) = false := by rfl) : XE X cl P (.Call (.Name "isinstance" p) [.Name z p0, .Tuple [.Name x q, .Name y q'] k tp] [] pos) (xIs2P i M N) := fun E hE =>
  PE.weak (pe_callB call_isiT hg hm hb (pa_cons (pe_var hzN hzv hzd hzc) (pa_cons (pe_tup (pa_cons (pe_bltn (v := .ty M) hgx hx hv rfl hn hdb) (pa_cons (pe_bltn (v := .ty N) hgy hy hv' rfl hn' hdb') pa_nil h4) h3)) pa_nil h2) h1) (he := h1) (hpl := hpl)) fun σ H Q ⟨T, ms, m, ms', s, z, kk⟩ => by
    unfold xIs2P at z
    cases hm : ms[i]? with
    | none => rw [hm] at z; cases z
    | some o =>
      cases o with
      | none => rw [hm] at z; cases z
      | some mm =>
        rw [hm] at z
        obtain ⟨t, e2, z⟩ := Option.bind_eq_some_iff.mp z
        obtain ⟨b, e3, z⟩ := Option.bind_eq_some_iff.mp z
        obtain ⟨c, e4, z⟩ := Option.bind_eq_some_iff.mp z
        cases z
        obtain ⟨v, hv1⟩ := s.cov i mm hm
        have s1 := s.take hv1 hm
        refine ⟨v, hv1, ⟨by show 2 ≤ sizeLine; decide, fun tp' htp => ?_⟩⟩
        have s2 : Stt ⟨cl, X.K⟩ E ((v, .p (frz mm)) :: T) σ (ms.set i none) (upd H tp' (.tup [.ty M, .ty N])) := by
          obtain ⟨_, _, _, _, _, _, _, kx⟩ := s1.frz.pure
          exact kx tp' _ htp
        have s3 : Stt ⟨cl, X.K⟩ E T σ ms (upd H tp' (.tup [.ty M, .ty N])) := by
          obtain ⟨_, _, _, _, _, _, _, kx⟩ := s.pure
          exact kx tp' _ htp
        refine ⟨v, tp', _, _, _, b || c, rfl, upd_same, .cons (.ty M) (.cons (.ty N) .nil), s2.rep.tyX e2, ?_, kk _ _ (s3.scal fun _ => .bl _)⟩
        refine kitAny_cons (kit_ty e3) (fun hb => ?_) (fun hb => by rw [hb] <;> rfl)
        subst hb
        rw [Bool.false_or]
        exact kitAny_cons (kit_ty e4) (fun hc => by rw [hc]; exact kitAny_nil) (fun hc => hc)
theorem xs_forEO (i : Nat) {x : Str} {p pe pp tpos pos : Pos} {elts : List Expr} {kk : Nat} {body : List Stmt} {W : List Nat} {t : GF} {b : SF} (hp : PassesOwn (model X.prog X.w) X.A X.env X.xe) (hc : X.calm = true) (hm : X.mg "enumerate" = none)
    (hg : XG X cl P (.Tuple elts kk tpos) W t) (hb : XB X cl P body b) (hi : i ∈ P := by decide)
    (hx : X.N[i]? = some x := by rfl) (hv : Vis X.env.scope x := by first | exact Or.inl rfl | exact Or.inr (Or.inl rfl) | exact Or.inr (Or.inr rfl)) (hd : (x == ("__debug__" : Str)) = false := by decide) (hcd : (x == ("__classdict__" : Str)) = false := by decide)
    (hgl : Gl X "enumerate" := by rfl) (hst : starEach [.Name x p] X.env = (false, eval (.Name x p) X.env) :: starEach [] X.env := by rfl)
    (hs : ∀ y, foldedSetIterable (.Call (.Name "enumerate" pe) [.Name x p] [] pp) X.env y = pure y := by intro _; rfl) : XS X cl P (.For (.Tuple elts kk tpos) (.Call (.Name "enumerate" pe) [.Name x p] [] pp) body [] pos) (sForEO i t b) := fun E hE =>
  PS.weak (ps_for hp hc (pi_enum (kk := kk) (elts := elts) (tpos := tpos) hgl hm (pa_cons (pe_var hx hv hd hcd) pa_nil hst) hst) (hg E hE) (hb E hE) hs) fun D σ H ⟨T, ms, o, ms', s, z, k⟩ => by
    unfold sForEO at z
    obtain ⟨ds, e1, z⟩ := Option.bind_eq_some_iff.mp z
    obtain ⟨r, e2, z⟩ := Option.bind_eq_some_iff.mp z
    split at z
    · rename_i hh
      cases z
      have h := slL_eq e1
      obtain ⟨v, h1⟩ := s.cov i _ h
      have s1 := s.take h1 h
      obtain ⟨a, B, vs, rfl, hB, ha, rl, q, w, w0⟩ := s1.ownL
      obtain ⟨iv, hiv, hivi⟩ : ∃ iv ∈ E.prot, iv.1 = i := by
        rw [← hE] at hi
        obtain ⟨iv, h3, h4⟩ := List.mem_map.mp hi
        exact ⟨iv, h3, h4⟩
      have hpr : ∀ {T σ2 ms2 H2}, Stt ⟨cl, X.K⟩ E T σ2 ms2 H2 → σ2[i]? = some (some (.ref a)) := fun {T σ2 ms2 H2} s2 => by
        have e3 := s.prot iv hiv
        have e4 := s2.prot iv hiv
        rw [hivi] at e3 e4
        rw [h1] at e3
        rw [e4, ← e3]
      refine ⟨.ref a, h1, a, vs, rfl, SqL.of ha, ?_⟩
      refine ⟨fun j m σ2 H2 => m = (enumD 0 ds).length - j ∧ j ≤ (enumD 0 ds).length ∧ ∃ ms2, Stt ⟨cl, X.K⟩ E ((.ref a, .l ds) :: T) σ2 ms2 H2 ∧ forF t b ((enumD 0 ds).drop j) ms2 = some r, ⟨_, rfl, Nat.zero_le _, _, s1, e2⟩, ?_⟩
      rintro j m σ2 H2 ⟨rfl, hj, ms2, s2, z2⟩
      by_cases hlt : j < (enumD 0 ds).length
      · have hd : (enumD 0 ds).drop j = (enumD 0 ds)[j] :: (enumD 0 ds).drop (j + 1) := List.drop_eq_getElem_cons hlt
        rw [hd] at z2
        obtain ⟨go, yl⟩ := (iteO_ok j E T σ2 ms2 H2 s2).2 (enumD 0 ds)[j] (List.getElem?_eq_getElem hlt)
        refine .inr ⟨go, fun σ' H' => j + 1 ≤ (enumD 0 ds).length ∧ ∃ ms3, Stt ⟨cl, X.K⟩ E ((.ref a, .l ds) :: T) σ' ms3 H' ∧ forF t b ((enumD 0 ds).drop (j + 1)) ms3 = some r, fun σ' H' ⟨h1, h2⟩ => ⟨_, by omega, rfl, h1, h2⟩, fun x H3 y => ?_⟩
        unfold forF at z2
        obtain ⟨m1, e5, z2⟩ := Option.bind_eq_some_iff.mp z2
        obtain ⟨qq, e6, z2⟩ := Option.bind_eq_some_iff.mp z2
        refine ⟨(.ref a, .l ds) :: T, ms2, .p (enumD 0 ds)[j], m1, yl x H3 y, e5, fun σ3 H4 _ _ s3 => ⟨(.ref a, .l ds) :: T, m1, qq.1, qq.2, s3, e6, ?_⟩⟩
        obtain ⟨qo, qm⟩ := qq
        cases qo with
        | nx => exact fun σ4 H5 s4 => ⟨hlt, qm, s4, z2⟩
        | ct => exact fun σ4 H5 s4 => ⟨hlt, qm, s4, z2⟩
        | bk => cases z2; exact fun σ4 H5 s4 => k σ4 H5 (s4.put (hpr s4) (isHole_eq hh))
        | rt m => cases z2; exact fun v σ4 H5 s4 => k v σ4 H5 (Stt.put (T := (v, m) :: T) (s4.of (s4.rel.perm (List.Perm.swap _ _ _))) (hpr s4) (isHole_eq hh))
      · have e : j = (enumD 0 ds).length := by omega
        subst e
        rw [List.drop_length] at z2
        cases z2
        exact .inl ⟨(iteO_ok _ E T σ2 _ H2 s2).1 (Nat.le_refl _), k σ2 H2 (s2.put (hpr s2) (isHole_eq hh))⟩
    · cases z
end
@[simp] theorem xIs2P_ap (i : Nat) (M N : String) (ms : En) : xIs2P i M N ms = match ms[i]? with
  | some (some m) => (tyOf (frz m)).bind fun t => (kitB t M).bind fun b => (kitB t N).bind fun c => some (.p (.bl (b || c)), ms)
  | _ => none := by unfold xIs2P; rfl
@[simp] theorem sForEO_ap (i : Nat) (tg : GF) (body : SF) (ms : En) : sForEO i tg body ms = (slL ms i).bind fun ds => (forF tg body (enumD 0 ds) (ms.set i none)).bind fun r => if isHole r.2[i]? = true then some (r.1, r.2.set i (some (.l ds))) else none := by unfold sForEO; rfl
end Mh
namespace Mh
open PySem L2
def kv_MANY_NAMES : List (Str × Int) := [("line", 1), ("go", 1), ("call", 2)]
def tb_MANY_NAMES (z : Str) : Option Int := kv_MANY_NAMES.lookup z
def N_law_choose : List Str := ["_law_box", "_law_many", "_law_digit", "_law_raw"]
def b_law_choose : SF := (sSeq (sIf (fB (f2 dGt (xIxO 0 (xC (.int 0))) (xC (.int 0)))) (sSeq (sSet 2 (f2 dMod (xCall (o1 dInt) (aC (xIxO 0 (xC (.int 0))) aN)) (xV 1)))
  (sSeq (sSetIx 0 (f2 dDiv (xIxO 0 (xC (.int 0))) (xV 1)) (xC (.int 0)))
  (sRet (xV 2)))) sNx)
  (sSeq (sSet 3 (f2 dMod (xCall (o1 dInt) (aC (f2M dAddA (f2 dMul (xIxO 0 (xC (.int 1))) (xC (.int 40014))) (xC (.int 43))) aN)) (xC (.int 2147483563))))
  (sSeq (sSetIx 0 (f2M dAddA (f2 dMod (xCall (o1 dInt) (aC (f2M dAddA (f2 dMul (xV 3) (xC (.int 40692))) (xC (.int 3571))) aN)) (xC (.int 2147483629))) (xC (.int 1))) (xC (.int 1)))
  (sRet (f2 dMod (xCall (o1 dInt) (aC (f2 dDiv (f2M dAddA (f2 dMul (xV 3) (xC (.int 2147483647))) (xIxO 0 (xC (.int 1)))) (xC (.int 8191))) aN)) (xV 1))))))
def ff_law_choose : FF := fnF 4 2 [0] b_law_choose
def N_law_one_of : List Str := ["_law_box", "_law_some"]
def b_law_one_of : SF := (sRet (f2 dIx (xV 1) (xFn ff_law_choose [] [some 0, none] (aC (xTk 0) (aC (xCall (o1 dLen) (aC (xV 1) aN)) aN)))))
def ff_law_one_of : FF := fnF 2 2 [0] b_law_one_of
def N_law_deed : List Str := ["_law_box", "_law_names", "_law_form"]
def b_law_deed : SF := (sSeq (sSet 2 (xFn ff_law_choose [] [some 0, none] (aC (xTk 0) (aC (xC (.int 11)) aN))))
  (sSeq (sIf (fB (f2 dLt (xV 2) (xC (.int 2)))) (sRet (xCall dTup (aC (xC (.str "line")) (aC (xFn ff_law_one_of [] [some 0, none] (aC (xTk 0) (aC (xCall dLst (aC (xC (.str "cash")) (aC (xC (.str "desk")) (aC (xC (.str "a")) (aC (xC (.str "x")) aN))))) aN))) aN)))) sNx)
  (sSeq (sIf (fB (f2 dLt (xV 2) (xC (.int 4)))) (sRet (xCall dTup (aC (xC (.str "go")) (aC (xFn ff_law_one_of [] [some 0, none] (aC (xTk 0) (aC (xV 1) aN))) aN)))) sNx)
  (sSeq (sIf (fB (f2 dLt (xV 2) (xC (.int 7)))) (sRet (xCall dTup (aC (xC (.str "call")) (aC (xFn ff_law_one_of [] [some 0, none] (aC (xTk 0) (aC (xV 1) aN))) (aC (xFn ff_law_one_of [] [some 0, none] (aC (xTk 0) (aC (xV 1) aN))) aN))))) sNx)
  (sRet (f2 dIx (xCall dLst (aC (xCall dTup (aC (xC (.str "back")) aN)) (aC (xCall dTup (aC (xC (.str "back")) aN)) (aC (xCall dTup (aC (xC (.str "again")) aN)) (aC (xCall dTup (aC (xC (.str "main")) aN)) aN))))) (f2 dSub (xV 2) (xC (.int 7)))))))))
def ff_law_deed : FF := fnF 3 2 [0] b_law_deed
def N_law_mixed : List Str := ["_law_box", "_law_some", "_law_left", "_law_found", "_law_turn"]
def b_law_mixed : SF := (sSeq (sPar 2 3 (xCall (o1 dListA) (aC (xV 1) aN)) (xCall dLst aN))
  (sSeq (sFor (iR1 (aC (xCall (o1 dLen) (aC (xV 1) aN)) aN)) (gSet 4) (sEx (xApp 3 (xPopAt 2 (xFn ff_law_choose [] [some 0, none] (aC (xTk 0) (aC (xLenO 2) aN)))))))
  (sRet (xV 3))))
def ff_law_mixed : FF := fnF 5 2 [0] b_law_mixed
def N_law_menu : List Str := ["_law_box", "_law_name", "_law_names", "_law_most", "_law_rows", "_law_digit", "_law_tail"]
def b_law_menu : SF := (sSeq (sSet 4 xD0)
  (sSeq (sFor (iL (xSl (xFn ff_law_mixed [] [some 0, none] (aC (xTk 0) (aC (xC (.str "0123459")) aN))) pN (pS (xFn ff_law_choose [] [some 0, none] (aC (xTk 0) (aC (f2M dAddA (xV 3) (xC (.int 1))) aN)))))) (gSet 5) (sDPutF 4 (xFn ff_law_deed [] [some 0, none] (aC (xTk 0) (aC (xV 2) aN))) (xV 5)))
  (sSeq (sSet 6 (xIf (fB (f2 (dEq false) (xFn ff_law_choose [] [some 0, none] (aC (xTk 0) (aC (xC (.int 6)) aN))) (xC (.int 0)))) (xCall dTup (aC (xC (.str "out")) aN)) (xFn ff_law_deed [] [some 0, none] (aC (xTk 0) (aC (xV 2) aN)))))
  (sRet (xCall dLst (aC (xV 1) (aC (xV 4) (aC (xV 6) (aC (f2M dAddA (xC (.int 1)) (xFn ff_law_choose [] [some 0, none] (aC (xTk 0) (aC (xC (.int 3)) aN)))) (aC (f2 (dEq false) (xFn ff_law_choose [] [some 0, none] (aC (xTk 0) (aC (xC (.int 4)) aN))) (xC (.int 0))) aN))))))))))
def ff_law_menu : FF := fnF 7 4 [0] b_law_menu
def N_law_board : List Str := ["_law_box", "_law_many", "_law_most", "_law_some", "_law_names", "_law_name"]
def b_law_board : SF := (sSeq (sSet 3 (xCall dLst (aC (xC (.str "top")) (aC (xC (.str "pay")) (aC (xC (.str "ask")) (aC (xC (.str "bye")) (aC (xC (.str "m")) (aC (xC (.str "mm")) (aC (xC (.str "zzzz")) (aC (xC (.str "tell")) aN))))))))))
  (sSeq (sSet 4 (xSl (xFn ff_law_mixed [] [some 0, none] (aC (xTk 0) (aC (xV 3) aN))) pN (pS (f2M dAddA (xC (.int 1)) (xFn ff_law_choose [] [some 0, none] (aC (xTk 0) (aC (xV 1) aN)))))))
  (sRet (xLc (iL (xV 4)) (gSet 5) tfY (xFn ff_law_menu [] [some 0, none, none, none] (aC (xTk 0) (aC (xV 5) (aC (xV 4) (aC (xV 2) aN))))) [5]))))
def ff_law_board : FF := fnF 6 3 [0] b_law_board
def N_law_menu_text : List Str := ["_law_one", "_law_head", "_law_rows", "_law_digit"]
def b_law_menu_text : SF := (sSeq (sSet 1 (xM1 dJoin (xC (.str " ")) (f2M dAddA (xCall dLst (aC (xC (.str "menu")) (aC (f2 dIx (xV 0) (xC (.int 0))) (aC (xC (.str "tries")) (aC (xCall (o1 dStrA) (aC (f2 dIx (xV 0) (xC (.int 3))) aN)) aN))))) (xIf (fB (f2 dIx (xV 0) (xC (.int 4)))) (xCall dLst (aC (xC (.str "clear")) aN)) (xCall dLst aN)))))
  (sSeq (sSet 2 (xLc (iL (xCall (o1 dSorted) (aC (xLc (iKD (f2 dIx (xV 0) (xC (.int 1)))) (gSet 3) tfY (xCall (o1 dStrA) (aC (xV 3) aN)) [3]) aN))) (gSet 3) tfY (f2M dAddA (f2M dAddA (xV 3) (xC (.str " "))) (xM1 dJoin (xC (.str " ")) (xDGet (f2 dIx (xV 0) (xC (.int 1))) (xV 3)))) [3]))
  (sRet (xM1 dJoin (xC (.str "\n")) (f2M dAddA (f2M dAddA (xCall dLst (aC (xV 1) aN)) (xV 2)) (xCall dLst (aC (f2M dAddA (xC (.str "else ")) (xM1 dJoin (xC (.str " ")) (f2 dIx (xV 0) (xC (.int 2))))) aN)))))))
def ff_law_menu_text : FF := fnF 4 1 [] b_law_menu_text
def N_law_text : List Str := ["_law_told_here", "_law_one"]
def b_law_text : SF := (sRet (xM1 dJoin (xC (.str "\n")) (xLc (iL (xV 0)) (gSet 1) tfY (xFn ff_law_menu_text [] [none] (aC (xV 1) aN)) [1])))
def ff_law_text : FF := fnF 2 1 [] b_law_text
def N_is_name : List Str := ["value", "sign"]
def b_is_name : SF := (sSeq (sIf (tfOr (tfNot (fB (xIsi "str" (xV 0)))) (tfOr (fB (f2 (dInA false) (xV 0) (xC (.tup [(.str "line"), (.str "out"), (.str "main"), (.str "back"), (.str "go"), (.str "call"), (.str "menu"), (.str "else"), (.str "none")])))) (tfNot (fB (f3 dLe dLe (xC (.int 1)) (xCall (o1 dLen) (aC (xV 0) aN)) (xC (.int 4))))))) (sRet (xC (.bl false))) sNx)
  (sRet (xCall (o1 dAll) (aC (xLc (iS (xV 0)) (gSet 1) tfY (f2 (dInA false) (xV 1) (xC (.str "abcdefghijklmnopqrstuvwxyz"))) [1]) aN))))
def ff_is_name : FF := fnF 2 1 [] b_is_name
def N_action_in : List Str := ["text", "words", "word"]
def b_action_in : SF := (sSeq (sIf (tfNot (fB (xIsi "str" (xV 0)))) (sRet (xC .non)) sNx)
  (sSeq (sSet 1 (xM1 dSplit (xV 0) (xC (.str " "))))
  (sSeq (sIf (fB (f2 (dInA false) (xV 0) (xC (.tup [(.str "out"), (.str "again"), (.str "main"), (.str "back")])))) (sRet (xCall dTup (aC (xV 0) aN))) sNx)
  (sSeq (sIf (tfOr (fB (xKIn true tb_MANY_NAMES (f2 dIx (xV 1) (xC (.int 0))))) (fB (f2 (dEq true) (xCall (o1 dLen) (aC (xV 1) aN)) (f2M dAddA (xC (.int 1)) (xKIx tb_MANY_NAMES (f2 dIx (xV 1) (xC (.int 0)))))))) (sRet (xC .non)) sNx)
  (sRet (xIf (fB (xCall (o1 dAll) (aC (xLc (iL (xSl (xV 1) (pS (xC (.int 1))) pN)) (gSet 2) tfY (xFn ff_is_name [] [none] (aC (xV 2) aN)) [2]) aN))) (xCall (o1 dTuple) (aC (xV 1) aN)) (xC .non)))))))
def ff_action_in : FF := fnF 3 1 [] b_action_in
def N_is_digit : List Str := ["value"]
def b_is_digit : SF := (sRet (xAnd (xIsi "str" (xV 0)) (xAnd (f2 (dEq false) (xCall (o1 dLen) (aC (xV 0) aN)) (xC (.int 1))) (f2 (dInA false) (xV 0) (xC (.str "0123456789"))))))
def ff_is_digit : FF := fnF 1 1 [] b_is_digit
def N_number_in : List Str := ["word", "sign"]
def b_number_in : SF := (sSeq (sIf (tfOr (tfNot (fB (f3 dLe dLe (xC (.int 1)) (xCall (o1 dLen) (aC (xV 0) aN)) (xC (.int 2))))) (tfNot (fB (xCall (o1 dAll) (aC (xLc (iS (xV 0)) (gSet 1) tfY (xFn ff_is_digit [] [none] (aC (xV 1) aN)) [1]) aN))))) (sRet (xC .non)) sNx)
  (sSeq (sIf (tfAnd (fB (f2 (dEq false) (xCall (o1 dLen) (aC (xV 0) aN)) (xC (.int 2)))) (fB (f2 (dEq false) (f2 dIx (xV 0) (xC (.int 0))) (xC (.str "0"))))) (sRet (xC .non)) sNx)
  (sRet (xCall (o1 dInt) (aC (xV 0) aN)))))
def ff_number_in : FF := fnF 2 1 [] b_number_in
def N_head_in : List Str := ["line", "words", "clear", "tries"]
def b_head_in : SF := (sSeq (sSet 1 (xM1 dSplit (xV 0) (xC (.str " "))))
  (sSeq (sSet 2 (xAnd (f2 (dEq false) (xCall (o1 dLen) (aC (xV 1) aN)) (xC (.int 5))) (f2 (dEq false) (f2 dIx (xV 1) (xC (.int 4))) (xC (.str "clear")))))
  (sSeq (sIf (tfOr (tfAnd (fB (f2 (dEq true) (xCall (o1 dLen) (aC (xV 1) aN)) (xC (.int 4)))) (tfNot (fB (xV 2)))) (tfOr (fB (f2 (dEq true) (f2 dIx (xV 1) (xC (.int 0))) (xC (.str "menu")))) (fB (f2 (dEq true) (f2 dIx (xV 1) (xC (.int 2))) (xC (.str "tries")))))) (sRet (xC .non)) sNx)
  (sSeq (sSet 3 (xFn ff_number_in [] [none] (aC (f2 dIx (xV 1) (xC (.int 3))) aN)))
  (sRet (xIf (tfAnd (fB (xFn ff_is_name [] [none] (aC (f2 dIx (xV 1) (xC (.int 1))) aN))) (fB (f2 (dIsN true) (xV 3) (xC .non)))) (xCall dTup (aC (f2 dIx (xV 1) (xC (.int 1))) (aC (xV 3) (aC (xV 2) aN)))) (xC .non)))))))
def ff_head_in : FF := fnF 4 1 [] b_head_in
def N_told_in : List Str := ["lines", "begin", "head", "rows", "at", "word", "gap", "action", "row"]
def b_told_in : SF := (sSeq (sIf (fB (f2 dGe (xV 1) (xCall (o1 dLen) (aC (xV 0) aN)))) sNo sNx)
  (sSeq (sPar 2 3 (xFn ff_head_in [] [none] (aC (f2 dIx (xV 0) (xV 1)) aN)) (xCall dLst aN))
  (sSeq (sIf (fB (f2 (dIsN false) (xV 2) (xC .non))) sNo sNx)
  (sSeq (sFor (iR2 (aC (f2M dAddA (xV 1) (xC (.int 1))) (aC (xCall (o1 dLen) (aC (xV 0) aN)) aN))) (gSet 4) (sSeq (sAsg (xM1 dPart (f2 dIx (xV 0) (xV 4)) (xC (.str " "))) (gTupF 3 (gsC (gSet 5) (gsC (gSet 6) (gsC (gSet 7) gsN)))))
  (sSeq (sIf (tfOr (fB (f2 (dIsN false) (xFn ff_action_in [] [none] (aC (xV 7) aN)) (xC .non))) (tfAnd (fB (f2 (dEq true) (xV 5) (xC (.str "else")))) (tfNot (fB (xFn ff_is_digit [] [none] (aC (xV 5) aN)))))) sNo sNx)
  (sSeq (sIf (fB (f2 (dEq false) (xV 5) (xC (.str "else")))) (sRet (xCall dTup (aC (xCall dTup (aC (f2 dIx (xV 2) (xC (.int 0))) (aC (xV 3) (aC (xV 7) (aC (f2 dIx (xV 2) (xC (.int 1))) (aC (f2 dIx (xV 2) (xC (.int 2))) aN)))))) (aC (f2M dAddA (xV 4) (xC (.int 1))) aN)))) sNx)
  (sSeq (sIf (fB (f2 (dInA false) (xV 5) (xLcO 3 (gSet 8) tfY (f2 dIx (xV 8) (xC (.int 0))) [8]))) sNo sNx)
  (sEx (xApp 3 (xCall dTup (aC (xV 5) (aC (xV 7) aN))))))))))
  sNo))))
def ff_told_in : FF := fnF 9 2 [] b_told_in
def N_are_unlike : List Str := ["values"]
def b_are_unlike : SF := (sRet (f2 (dEq false) (xLenSet (xV 0)) (xCall (o1 dLen) (aC (xV 0) aN))))
def ff_are_unlike : FF := fnF 1 1 [] b_are_unlike
def N_deeds_of : List Str := ["menu", "digit", "deed"]
def b_deeds_of : SF := (sRet (xCall dLst (aSt (xLc (iT (xFld 0 "deeds" (xV 0))) (gTupF 2 (gsC (gSet 1) (gsC (gSet 2) gsN))) tfY (xV 2) [1, 2]) (aC (xFld 0 "last" (xV 0)) aN))))
def ff_deeds_of : FF := fnF 3 1 [] b_deeds_of
def N_is_sequence : List Str := ["value"]
def b_is_sequence : SF := (sRet (xIs2P 0 "list" "tuple"))
def ff_is_sequence : FF := fnF 1 1 [0] b_is_sequence
def N_named_in : List Str := ["menu", "deed", "name"]
def b_named_in : SF := (sRet (xLc2 (iL (xFn ff_deeds_of [] [none] (aC (xV 0) aN))) (gSet 1) (fB (f2 (dInA false) (f2 dIx (xV 1) (xC (.int 0))) (xCall dTup (aC (xC (.str "go")) (aC (xC (.str "call")) aN))))) (iT (xSl (xV 1) (pS (xC (.int 1))) pN)) (gSet 2) tfY (xV 2) [1, 2] [2]))
def ff_named_in : FF := fnF 3 1 [] b_named_in
def N_Board_init : List Str := ["self", "menus", "names", "menu", "name", "deed"]
def b_Board_init : SF := (sSeq (sIf (tfOr (tfNot (fB (xFn ff_is_sequence [] [none] (aC (xV 1) aN)))) (tfOr (fB (f2 (dEq false) (xCall (o1 dLen) (aC (xV 1) aN)) (xC (.int 0)))) (tfNot (fB (xCall (o1 dAll) (aC (xLc (iQ (xV 1)) (gSet 3) tfY (xIsO 0 (xV 3)) [3]) aN)))))) sNo sNx)
  (sSeq (sSet 2 (xLc (iQ (xV 1)) (gSet 3) tfY (xFld 0 "name" (xV 3)) [3]))
  (sSeq (sIf (tfNot (fB (xFn ff_are_unlike [] [none] (aC (xV 2) aN)))) sNo sNx)
  (sSeq (sIf (tfNot (fB (xCall (o1 dAll) (aC (xLc2 (iQ (xV 1)) (gSet 3) tfY (iL (xFn ff_named_in [] [none] (aC (xV 3) aN))) (gSet 4) tfY (f2 (dInA false) (xV 4) (xV 2)) [3, 4] [4]) aN)))) sNo sNx)
  (sSeq (sFldO 0 1 "menus" (xCall (o1 dTuple) (aC (xV 1) aN)))
  (sSeq (sFldO 0 1 "names" (xCall (o1 dTuple) (aC (xV 2) aN)))
  (sSeq (sFldO 0 1 "first" (f2 dIx (xV 2) (xC (.int 0))))
  (sFldO 0 1 "lines" (xCall (o1 dTuple) (aC (xSs2 (iQ (xV 1)) (gSet 3) tfY (iL (xFn ff_deeds_of [] [none] (aC (xV 3) aN))) (gSet 5) (fB (f2 (dEq false) (f2 dIx (xV 5) (xC (.int 0))) (xC (.str "line")))) (f2 dIx (xV 5) (xC (.int 1))) [3, 5] [5]) aN))))))))))
def ff_Board_init : FF := fnF 6 2 [0] b_Board_init
def N_is_row : List Str := ["value"]
def b_is_row : SF := (sSeq (sIf (tfOr (tfNot (fB (xIsi "tuple" (xV 0)))) (fB (f2 (dEq true) (xCall (o1 dLen) (aC (xV 0) aN)) (xC (.int 2))))) (sRet (xC (.bl false))) sNx)
  (sRet (xAnd (xFn ff_is_digit [] [none] (aC (f2 dIx (xV 0) (xC (.int 0))) aN)) (f2 (dIsN true) (xFn ff_action_in [] [none] (aC (f2 dIx (xV 0) (xC (.int 1))) aN)) (xC .non)))))
def ff_is_row : FF := fnF 1 1 [] b_is_row
def N_are_rows : List Str := ["value", "row"]
def b_are_rows : SF := (sSeq (sIf (tfOr (tfNot (fB (xFn ff_is_sequence [] [none] (aC (xV 0) aN)))) (tfNot (fB (xCall (o1 dAll) (aC (xLc (iL (xV 0)) (gSet 1) tfY (xFn ff_is_row [] [none] (aC (xV 1) aN)) [1]) aN))))) (sRet (xC (.bl false))) sNx)
  (sRet (xFn ff_are_unlike [] [none] (aC (xLc (iL (xV 0)) (gSet 1) tfY (f2 dIx (xV 1) (xC (.int 0))) [1]) aN))))
def ff_are_rows : FF := fnF 2 1 [] b_are_rows
def N_is_integer : List Str := ["value"]
def b_is_integer : SF := (sRet (xAnd (xIsi "int" (xV 0)) (xNot (xIsi "bool" (xV 0)))))
def ff_is_integer : FF := fnF 1 1 [] b_is_integer
def N_Menu_init : List Str := ["self", "name", "rows", "tail", "tries", "clears", "digit", "action"]
def b_Menu_init : SF := (sSeq (sIf (tfNot (fB (xFn ff_is_name [] [none] (aC (xV 1) aN)))) sNo sNx)
  (sSeq (sIf (tfNot (fB (xFn ff_are_rows [] [none] (aC (xV 2) aN)))) sNo sNx)
  (sSeq (sIf (fB (f2 (dIsN false) (xFn ff_action_in [] [none] (aC (xV 3) aN)) (xC .non))) sNo sNx)
  (sSeq (sIf (tfOr (tfNot (fB (xFn ff_is_integer [] [none] (aC (xV 4) aN)))) (fB (f2 dLt (xV 4) (xC (.int 1))))) sNo sNx)
  (sSeq (sIf (tfNot (fB (xIsi "bool" (xV 5)))) sNo sNx)
  (sSeq (sFldO 0 0 "name" (xV 1))
  (sSeq (sFldO 0 0 "rows" (xCall (o1 dTuple) (aC (xCall (o1 dSorted) (aC (xV 2) aN)) aN)))
  (sSeq (sFldO 0 0 "tail" (xV 3))
  (sSeq (sFldO 0 0 "tries" (xV 4))
  (sSeq (sFldO 0 0 "clears" (xV 5))
  (sSeq (sFldO 0 0 "deeds" (xCall (o1 dTuple) (aC (xLc (iT (xFldO 0 0 "rows")) (gTupF 2 (gsC (gSet 6) (gsC (gSet 7) gsN))) tfY (xCall dTup (aC (xV 6) (aC (xFn ff_action_in [] [none] (aC (xV 7) aN)) aN))) [6, 7]) aN)))
  (sFldO 0 0 "last" (xFn ff_action_in [] [none] (aC (xV 3) aN))))))))))))))
def ff_Menu_init : FF := fnF 8 6 [0] b_Menu_init
def N_Board_read : List Str := ["cls", "text", "lines", "told", "at", "more"]
def b_Board_read : SF := (sSeq (sIf (tfNot (fB (xIsi "str" (xV 1)))) sNo sNx)
  (sSeq (sPar3 2 3 4 (xM1 dSplit (xV 1) (xC (.str "\n"))) (xCall dLst aN) (xC (.int 0)))
  (sSeq (sWh 16777216 (tfOr (fB (f2 dLt (xV 4) (xCall (o1 dLen) (aC (xV 2) aN)))) (fB (f2 (dEq false) (xLenO 3) (xC (.int 0))))) (sSeq (sAsg (xFn ff_told_in [] [none, none] (aC (xV 2) (aC (xV 4) aN))) (gTupF 2 (gsC (gSet 5) (gsC (gSet 4) gsN))))
  (sEx (xApp 3 (xV 5)))))
  (sRet (xMkA ff_Board_init 1 0 (aC (xLcO 3 (gSet 5) tfY (xMkS ff_Menu_init [] 0 (cntD 5 (xV 5))) [5]) aN))))))
def ff_Board_read : FF := fnF 6 2 [] b_Board_read
def N_law_home : List Str := ["_law_told_here"]
def b_law_home : SF := (sRet (xCm ff_Board_read [] 1 (aC (xFn ff_law_text [] [none] (aC (xV 0) aN)) aN)))
def ff_law_home : FF := fnF 1 1 [] b_law_home
def N_is_event : List Str := ["value", "sign"]
def b_is_event : SF := (sSeq (sIf (tfOr (tfNot (fB (xIsi "str" (xV 0)))) (fB (f2 (dEq false) (xV 0) (xC (.str ""))))) (sRet (xC (.bl false))) sNx)
  (sSeq (sIf (fB (f2 (dEq false) (f2 dIx (xV 0) (xC (.int 0))) (xC (.str "-")))) (sRet (xOr (f2 (dEq false) (xCall (o1 dLen) (aC (xV 0) aN)) (xC (.int 1))) (xAnd (f2 (dEq false) (xCall (o1 dLen) (aC (xV 0) aN)) (xC (.int 2))) (xFn ff_is_digit [] [none] (aC (f2 dIx (xV 0) (xC (.int 1))) aN))))) sNx)
  (sRet (xCall (o1 dAll) (aC (xLc (iS (xV 0)) (gSet 1) tfY (xFn ff_is_digit [] [none] (aC (xV 1) aN)) [1]) aN)))))
def ff_is_event : FF := fnF 2 1 [] b_is_event
def N_Board_menu : List Str := ["self", "name", "menu"]
def b_Board_menu : SF := (sSeq (sFor (iT (xFld 1 "menus" (xV 0))) (gSet 2) (sIf (fB (f2 (dEq false) (xFld 0 "name" (xV 2)) (xV 1))) (sRet (xV 2)) sNx))
  sNo)
def ff_Board_menu : FF := fnF 3 2 [] b_Board_menu
def N_Call_finish : List Str := ["self", "how"]
def b_Call_finish : SF := (sSeq (sFldO 0 3 "deep" (xCall dTup aN))
  (sSeq (sFldO 0 3 "rest" (xC (.int 0)))
  (sSeq (sFldO 0 3 "over" (xV 1))
  (sFldO 0 3 "pending" (xC (.str ""))))))
def ff_Call_finish : FF := fnF 2 2 [0] b_Call_finish
def N_Call_start : List Str := ["self", "deep", "menu"]
def b_Call_start : SF := (sSeq (sIf (fB (f2 (dEq false) (xCall (o1 dLen) (aC (xV 1) aN)) (xC (.int 0)))) (sSeq (sEx (xMthO ff_Call_finish [] [none] 0 3 "finish" (aC (xC (.str "out")) aN)))
  sRetN) sNx)
  (sSeq (sSet 2 (xMth ff_Board_menu [] [none] 1 "menu" (xFldO 0 3 "plan") (aC (f2 dIx (xV 1) (xC (.int 0))) aN)))
  (sSeq (sFldO 0 3 "deep" (xCall (o1 dTuple) (aC (xV 1) aN)))
  (sSeq (sFldO 0 3 "rest" (xFld 0 "tries" (xV 2)))
  (sSeq (sEx (xFApp 0 3 "started_names" (xFld 0 "name" (xV 2))))
  (sIf (fB (xFld 0 "clears" (xV 2))) (sFldO 0 3 "pending" (xC (.str ""))) sNx))))))
def ff_Call_start : FF := fnF 3 2 [0] b_Call_start
def N_Call_init : List Str := ["self", "board"]
def b_Call_init : SF := (sSeq (sFldO 0 3 "plan" (xV 1))
  (sSeq (sFldO 0 3 "deep" (xCall dTup aN))
  (sSeq (sFldO 0 3 "rest" (xC (.int 0)))
  (sSeq (sFldO 0 3 "over" (xC .non))
  (sSeq (sFldO 0 3 "many" (xC (.int 0)))
  (sSeq (sFldO 0 3 "started_names" (xCall dLst aN))
  (sSeq (sFldO 0 3 "pending" (xC (.str "")))
  (sEx (xMthO ff_Call_start [] [none] 0 3 "start" (aC (xCall dTup (aC (xFld 1 "first" (xV 1)) aN)) aN))))))))))
def ff_Call_init : FF := fnF 2 2 [0] b_Call_init
def N_Played_init : List Str := ["self", "call"]
def b_Played_init : SF := (sSeq (sFldO 0 4 "stack" (xFld 3 "deep" (xV 1)))
  (sSeq (sFldO 0 4 "tries" (xFld 3 "rest" (xV 1)))
  (sSeq (sFldO 0 4 "end" (xFld 3 "over" (xV 1)))
  (sSeq (sFldO 0 4 "presses" (xFld 3 "many" (xV 1)))
  (sFldO 0 4 "started" (xCall (o1 dTuple) (aC (xFld 3 "started_names" (xV 1)) aN)))))))
def ff_Played_init : FF := fnF 2 2 [0] b_Played_init
def N_Call_happen : List Str := ["self", "deed", "below"]
def b_Call_happen : SF := (sSeq (sSet 2 (xSl (xFldO 0 3 "deep") (pS (xC (.int 1))) pN))
  (sMt (f2 dIx (xV 1) (xC (.int 0))) [("line", (sEx (xMthO ff_Call_finish [] [none] 0 3 "finish" (aC (f2 dIx (xV 1) (xC (.int 1))) aN)))), ("out", (sEx (xMthO ff_Call_finish [] [none] 0 3 "finish" (aC (xC (.str "out")) aN)))), ("again", (sEx (xMthO ff_Call_start [] [none] 0 3 "start" (aC (xFldO 0 3 "deep") aN)))), ("main", (sEx (xMthO ff_Call_start [] [none] 0 3 "start" (aC (xCall dTup (aC (xFld 1 "first" (xFldO 0 3 "plan")) aN)) aN)))), ("back", (sEx (xMthO ff_Call_start [] [none] 0 3 "start" (aC (xV 2) aN))))] (sEx (xMthO ff_Call_start [] [none] 0 3 "start" (aC (xCall dTup (aSt (xSl (xV 1) (pS (xC (.int 1))) pN) (aSt (xV 2) aN))) aN)))))
def ff_Call_happen : FF := fnF 3 2 [0] b_Call_happen
def N_Call_waste : List Str := ["self"]
def b_Call_waste : SF := (sSeq (sFAug true 0 3 "rest" (xC (.int 1)))
  (sIf (fB (f2 (dEq false) (xFldO 0 3 "rest") (xC (.int 0)))) (sEx (xMthO ff_Call_happen [] [none] 0 3 "happen" (aC (xFld 0 "last" (xMth ff_Board_menu [] [none] 1 "menu" (xFldO 0 3 "plan") (aC (f2 dIx (xFldO 0 3 "deep") (xC (.int 0))) aN))) aN))) sNx))
def ff_Call_waste : FF := fnF 1 1 [0] b_Call_waste
def N_Call_press : List Str := ["self", "digit", "own", "deed"]
def b_Call_press : SF := (sSeq (sFAug false 0 3 "many" (xC (.int 1)))
  (sSeq (sFor (iT (xFld 0 "deeds" (xMth ff_Board_menu [] [none] 1 "menu" (xFldO 0 3 "plan") (aC (f2 dIx (xFldO 0 3 "deep") (xC (.int 0))) aN)))) (gTupF 2 (gsC (gSet 2) (gsC (gSet 3) gsN))) (sIf (fB (f2 (dEq false) (xV 2) (xV 1))) (sSeq (sEx (xMthO ff_Call_happen [] [none] 0 3 "happen" (aC (xV 3) aN)))
  sRetN) sNx))
  (sEx (xMthO ff_Call_waste [] [] 0 3 "waste" aN))))
def ff_Call_press : FF := fnF 4 2 [0] b_Call_press
def N_Call_do : List Str := ["self", "event", "digit"]
def b_Call_do : SF := (sSeq (sAsg (xRepl (xV 1) "-" "") (gFldO 0 3 "pending"))
  (sSeq (sIf (fB (f2 (dEq false) (f2 dIx (xV 1) (xC (.int 0))) (xC (.str "-")))) (sEx (xMthO ff_Call_waste [] [] 0 3 "waste" aN)) sNx)
  (sWh 16777216 (tfAnd (fB (f2 (dIsN false) (xFldO 0 3 "over") (xC .non))) (fB (f2 (dEq true) (xFldO 0 3 "pending") (xC (.str ""))))) (sSeq (sAsg (xCall dTup (aC (f2 dIx (xFldO 0 3 "pending") (xC (.int 0))) (aC (xSl (xFldO 0 3 "pending") (pS (xC (.int 1))) pN) aN))) (gTupF 2 (gsC (gSet 2) (gsC (gFldO 0 3 "pending") gsN))))
  (sEx (xMthO ff_Call_press [] [none] 0 3 "press" (aC (xV 2) aN)))))))
def ff_Call_do : FF := fnF 3 2 [0] b_Call_do
def N_play : List Str := ["board", "events", "call", "at", "event"]
def b_play : SF := (sSeq (sIf (tfNot (fB (xFn ff_is_sequence [] [some 1] (aC (xTk 1) aN)))) sNo sNx)
  (sSeq (sSet 2 (xMk ff_Call_init [] 3 (aC (xV 0) aN)))
  (sSeq (sForEO 1 (gTupF 2 (gsC (gSet 3) (gsC (gSet 4) gsN))) (sSeq (sIf (tfOr (tfNot (fB (xFn ff_is_event [] [none] (aC (xV 4) aN)))) (fB (f2 (dIsN true) (xFldO 2 3 "over") (xC .non)))) sNo sNx)
  (sEx (xMthO ff_Call_do [] [none] 2 3 "do" (aC (xV 4) aN)))))
  (sRet (xMk ff_Played_init [] 4 (aC (xV 2) aN))))))
def ff_play : FF := fnF 5 2 [1] b_play
def N_law_one_by_one : List Str := ["_law_home_here", "_law_digits", "_law_found", "_law_sign"]
def b_law_one_by_one : SF := (sSeq (sSet 2 (xCall dLst aN))
  (sSeq (sFor (iS (xV 1)) (gSet 3) (sIf (fB (f2 (dIsN false) (xFld 4 "end" (xFn ff_play [] [none, some 2] (aC (xV 0) (aC (xTk 2) aN)))) (xC .non))) (sEx (xApp 2 (xV 3))) sNx))
  (sRet (xFn ff_play [] [none, some 2] (aC (xV 0) (aC (xTk 2) aN))))))
def ff_law_one_by_one : FF := fnF 4 2 [] b_law_one_by_one
def N_law_seed : List Str := ["_law_script", "_law_k", "_law_cell", "_law_great"]
def b_law_seed : SF := (sSeq (sSet 2 (f2M dAddA (f2 dMul (xC (.int 6971)) (xV 1)) (xC (.int 53))))
  (sSeq (sIf (fB (f2 dLt (xV 1) (xCall (o1 dLen) (aC (xV 0) aN)))) (sSet 2 (xCall (o1 dAbs) (aC (f2 dIx (xV 0) (xV 1)) aN))) (sIf (fB (f2 dGt (xCall (o1 dLen) (aC (xV 0) aN)) (xC (.int 0)))) (sSet 2 (f2M dAddA (xV 2) (f2 dMul (f2 dMod (xCall (o1 dInt) (aC (xCall (o1 dAbs) (aC (f2 dIx (xV 0) (f2 dMod (xCall (o1 dInt) (aC (xV 1) aN)) (xCall (o1 dLen) (aC (xV 0) aN)))) aN)) aN)) (xC (.int 2147483629))) (xC (.int 50111))))) sNx))
  (sSeq (sSet 3 (xIf (fB (f2 dGe (xV 2) (f2 dPow (xC (.int 10)) (xC (.int 18))))) (xV 2) (xC (.int 0))))
  (sRet (xCall dLst (aC (xV 3) (aC (f2M dAddA (f2 dMod (xCall (o1 dInt) (aC (f2M dAddA (f2 dMul (f2 dMod (xCall (o1 dInt) (aC (xV 2) aN)) (xC (.int 2147483629))) (xC (.int 48271))) (f2 dMul (xC (.int 31019)) (xV 1))) aN)) (xC (.int 2147483629))) (xC (.int 1))) aN)))))))
def ff_law_seed : FF := fnF 4 2 [] b_law_seed
def N_law_told : List Str := ["_law_played"]
def b_law_told : SF := (sRet (xCall dTup (aC (xFld 4 "stack" (xV 0)) (aC (xFld 4 "tries" (xV 0)) (aC (xFld 4 "end" (xV 0)) (aC (xFld 4 "presses" (xV 0)) (aC (xFld 4 "started" (xV 0)) aN)))))))
def ff_law_told : FF := fnF 1 1 [] b_law_told
def N_law : List Str := ["_law_script", "_law_k", "_law_box", "_law_turn", "_law_told_here", "_law_plain", "_law_home_here", "_law_still", "_law_digits", "_law_more", "_law_due", "_law_at", "_law_late", "_law_apart", "_law_last", "_law_some", "_law_one"]
def b_law : SF := (sSeq (sFor (iR1 (aC (xCall (o2 dMax) (aC (xC (.int 2)) (aC (xCall (o2 dMin) (aC (xC (.int 3)) (aC (xCall (o1 dLen) (aC (xV 0) aN)) aN))) aN))) aN)) (gSet 1) (sSeq (sSet 2 (xFn ff_law_seed [] [none, none] (aC (xV 0) (aC (xV 1) aN))))
  (sFor (iR1 (aC (xC (.int 4)) aN)) (gSet 3) (sSeq (sSet 4 (xFn ff_law_board [] [some 2, none, none] (aC (xTk 2) (aC (xC (.int 6)) (aC (xC (.int 5)) aN)))))
  (sSeq (sSet 5 (xLc (iL (xV 4)) (gSet 16) tfY (f2M dAddA (xSl (xV 16) pN (pS (xC (.int 4)))) (xCall dLst (aC (xC (.bl false)) aN))) [16]))
  (sSeq (sPar 6 7 (xFn ff_law_home [] [none] (aC (xV 4) aN)) (xFn ff_law_home [] [none] (aC (xV 5) aN)))
  (sSeq (sSet 8 (xC (.str "")))
  (sSeq (sFor (iR1 (aC (f2M dAddA (xC (.int 1)) (xFn ff_law_choose [] [some 2, none] (aC (xTk 2) (aC (xC (.int 12)) aN)))) aN)) (gSet 9) (sSet 8 (f2M dAddA (xV 8) (xFn ff_law_one_of [] [some 2, none] (aC (xTk 2) (aC (xC (.str "0123459")) aN))))))
  (sSeq (sSet 10 (xFn ff_law_told [] [none] (aC (xFn ff_law_one_by_one [] [none, none] (aC (xV 7) (aC (xV 8) aN))) aN)))
  (sSeq (sIf (fB (f2 (dEq true) (xFn ff_law_told [] [none] (aC (xFn ff_play [] [none, none] (aC (xV 7) (aC (xCall dLst (aC (xV 8) aN)) aN))) aN)) (xV 10))) (sRet (xC (.bl false))) sNx)
  (sSeq (sSet 11 (xFn ff_law_choose [] [some 2, none] (aC (xTk 2) (aC (xCall (o1 dLen) (aC (xV 8) aN)) aN))))
  (sSeq (sIf (tfAnd (fB (f2 dGt (xV 11) (xC (.int 0)))) (fB (f2 (dIsN false) (xFld 4 "end" (xFn ff_play [] [none, none] (aC (xV 7) (aC (xCall dLst (aC (xSl (xV 8) pN (pS (xV 11))) aN)) aN)))) (xC .non)))) (sIf (fB (f2 (dEq true) (xFn ff_law_told [] [none] (aC (xFn ff_play [] [none, none] (aC (xV 7) (aC (xCall dLst (aC (xSl (xV 8) pN (pS (xV 11))) (aC (xSl (xV 8) (pS (xV 11)) pN) aN))) aN))) aN)) (xV 10))) (sRet (xC (.bl false))) sNx) sNx)
  (sSeq (sPar 12 13 (xCall dLst (aC (f2M dAddA (xC (.str "-")) (xSl (xV 8) pN (pS (xC (.int 1))))) aN)) (xCall dLst (aC (xC (.str "-")) (aC (xSl (xV 8) pN (pS (xC (.int 1)))) aN))))
  (sSeq (sIf (fB (f2 (dIsN false) (xFld 4 "end" (xFn ff_play [] [none, none] (aC (xV 7) (aC (xCall dLst (aC (xC (.str "-")) aN)) aN)))) (xC .non))) (sIf (fB (f2 (dEq true) (xFn ff_law_told [] [none] (aC (xFn ff_play [] [none, some 12] (aC (xV 7) (aC (xTk 12) aN))) aN)) (xFn ff_law_told [] [none] (aC (xFn ff_play [] [none, some 13] (aC (xV 7) (aC (xTk 13) aN))) aN)))) (sRet (xC (.bl false))) sNx) sNx)
  (sSeq (sIf (fB (f2 dGt (xFld 4 "presses" (xFn ff_play [] [none, none] (aC (xV 6) (aC (xCall dLst (aC (xV 8) aN)) aN)))) (xCall (o1 dLen) (aC (xV 8) aN)))) (sRet (xC (.bl false))) sNx)
  (sSeq (sSet 14 (xFn ff_play [] [none, none] (aC (xV 6) (aC (xCall dLst (aC (xV 8) aN)) aN))))
  (sSeq (sSet 15 (xLc (iL (xV 4)) (gSet 16) (fB (f2 (dInA false) (f2 dIx (xV 16) (xC (.int 0))) (xSl (xFld 4 "started" (xV 14)) (pS (xC (.int 1))) pN))) (f2 dIx (xV 16) (xC (.int 4))) [16]))
  (sIf (tfAnd (fB (f2 (dIsN false) (xFld 4 "end" (xV 14)) (xC .non))) (tfAnd (fB (f2 (dInA true) (xC (.bl true)) (xV 15))) (fB (f2 (dEq true) (xFn ff_law_told [] [none] (aC (xV 14) aN)) (xV 10))))) (sRet (xC (.bl false))) sNx))))))))))))))))))
  (sRet (xC (.bl true))))
def ff_law : FF := fnF 17 1 [] b_law
def N_Menu_read : List Str := ["cls", "text", "lines", "told", "behind"]
def b_Menu_read : SF := (sSeq (sIf (tfNot (fB (xIsi "str" (xV 1)))) sNo sNx)
  (sSeq (sSet 2 (xM1 dSplit (xV 1) (xC (.str "\n"))))
  (sSeq (sAsg (xFn ff_told_in [] [none, none] (aC (xV 2) (aC (xC (.int 0)) aN))) (gTupF 2 (gsC (gSet 3) (gsC (gSet 4) gsN))))
  (sSeq (sIf (fB (f2 dLt (xV 4) (xCall (o1 dLen) (aC (xV 2) aN)))) sNo sNx)
  (sRet (xMkC ff_Menu_init [] 0 0 (cntD 5 (xV 3))))))))
def ff_Menu_read : FF := fnF 5 2 [] b_Menu_read
def N_Menu_str : List Str := ["self", "head", "rows", "digit", "action"]
def b_Menu_str : SF := (sSeq (sSet 1 (f2M dAddA (xJs [(xC (.str "menu ")), (xFmt (xFld 0 "name" (xV 0))), (xC (.str " tries ")), (xFmt (xFld 0 "tries" (xV 0)))]) (xIf (fB (xFld 0 "clears" (xV 0))) (xC (.str " clear")) (xC (.str "")))))
  (sSeq (sSet 2 (xLc (iT (xFld 0 "rows" (xV 0))) (gTupF 2 (gsC (gSet 3) (gsC (gSet 4) gsN))) tfY (xJs [(xFmt (xV 3)), (xC (.str " ")), (xFmt (xV 4))]) [3, 4]))
  (sRet (xM1 dJoin (xC (.str "\n")) (xCall dLst (aC (xV 1) (aSt (xV 2) (aC (xJs [(xC (.str "else ")), (xFmt (xFld 0 "tail" (xV 0)))]) aN))))))))
def ff_Menu_str : FF := fnF 5 1 [] b_Menu_str
def N_Menu_eq : List Str := ["self", "other"]
def b_Menu_eq : SF := (sRet (xAnd (xIsO 0 (xV 1)) (f2 (dEq false) (xCall (o1 (dStrO ff_Menu_str 0)) (aC (xV 0) aN)) (xCall (o1 (dStrO ff_Menu_str 0)) (aC (xV 1) aN)))))
def ff_Menu_eq : FF := fnF 2 2 [] b_Menu_eq
def N_Menu_action : List Str := ["self", "digit", "own", "action"]
def b_Menu_action : SF := (sSeq (sFor (iT (xFld 0 "rows" (xV 0))) (gTupF 2 (gsC (gSet 2) (gsC (gSet 3) gsN))) (sIf (fB (f2 (dEqX ff_Menu_eq 0) (xV 2) (xV 1))) (sRet (xV 3)) sNx))
  (sRet (xC .non)))
def ff_Menu_action : FF := fnF 4 2 [] b_Menu_action
def N_Menu_iter : List Str := ["self"]
def b_Menu_iter : SF := sNo
def ff_Menu_iter : FF := fnF 1 1 [] b_Menu_iter
def N_wall : List Str := ["k"]
def b_wall : SF := (sWh 16777216 (fB (xC (.bl true))) sNx)
def ff_wall : FF := fnF 1 1 [] b_wall
def N_Board_having : List Str := ["self", "name", "digit", "action"]
def b_Board_having : SF := (sEx (xFn ff_wall [] [none] (aC (xC (.int 0)) aN)))
def ff_Board_having : FF := fnF 4 4 [] b_Board_having
def N_Board_len : List Str := ["self"]
def b_Board_len : SF := (sRet (xCall (o1 dLen) (aC (xFld 1 "menus" (xV 0)) aN)))
def ff_Board_len : FF := fnF 1 1 [] b_Board_len
def N_Board_iter : List Str := ["self"]
def b_Board_iter : SF := sNo
def ff_Board_iter : FF := fnF 1 1 [] b_Board_iter
def N_Board_str : List Str := ["self", "menu"]
def b_Board_str : SF := (sRet (xM1 dJoin (xC (.str "\n")) (xLc (iT (xFld 1 "menus" (xV 0))) (gSet 1) tfY (xCall (o1 (dStrO ff_Menu_str 0)) (aC (xV 1) aN)) [1])))
def ff_Board_str : FF := fnF 2 1 [] b_Board_str
def N_Board_eq : List Str := ["self", "other"]
def b_Board_eq : SF := (sRet (xAnd (xIsO 1 (xV 1)) (f2 (dEq false) (xCall (o1 (dStrO ff_Board_str 1)) (aC (xV 0) aN)) (xCall (o1 (dStrO ff_Board_str 1)) (aC (xV 1) aN)))))
def ff_Board_eq : FF := fnF 2 2 [] b_Board_eq
end Mh
namespace Mh
open PySem L2
def Box (b : List D) : Prop := ∃ a c : Int, b = [.int a, .int c] ∧ 0 ≤ a ∧ 0 ≤ c ∧ c < 2147483648
theorem choose_ok {b : List D} {n : Int} (h : Box b) (hn : 0 < n) (hn2 : n < 1073741824) : ∃ r b', Box b' ∧ 0 ≤ r ∧ r < n ∧ ff_law_choose [.l b, .p (.int n)] = some (.p (.int r), [some (.l b'), none]) := by
  obtain ⟨a, c, rfl, ha, hc, hc2⟩ := h
  by_cases h0 : 0 < a
  · refine ⟨a % n, [.int (a / n), .int c], ⟨_, _, rfl, Int.ediv_nonneg ha (by omega), hc, hc2⟩, Int.emod_nonneg _ (by omega), Int.emod_lt_of_pos _ hn, ?_⟩
    simp [ff_law_choose, fnF, b_law_choose, slL, gB, gI, gIc, atI, ixN, h0, hn, CDiv, hn2]
  · have m1 : CMul c 40014 := .inr (by decide)
    have e1 := Int.emod_nonneg (c * 40014 + 43) (b := 2147483563) (by decide)
    have e2 := Int.emod_lt_of_pos (c * 40014 + 43) (b := 2147483563) (by decide)
    generalize hr : (c * 40014 + 43) % 2147483563 = r at e1 e2
    have e3 := Int.emod_nonneg (r * 40692 + 3571) (b := 2147483629) (by decide)
    have e4 := Int.emod_lt_of_pos (r * 40692 + 3571) (b := 2147483629) (by decide)
    have m2 : CMul r 40692 := .inr (by decide)
    have m3 : CMul r 2147483647 := .inr (by decide)
    refine ⟨((r * 2147483647 + ((r * 40692 + 3571) % 2147483629 + 1)) / 8191) % n, [.int a, .int ((r * 40692 + 3571) % 2147483629 + 1)], ⟨_, _, rfl, ha, by omega, by omega⟩, Int.emod_nonneg _ (by omega), Int.emod_lt_of_pos _ hn, ?_⟩
    simp [ff_law_choose, fnF, b_law_choose, slL, gB, gI, gIc, atI, ixN, h0, hn, CDiv, hn2, m1, m2, m3, hr]
theorem atI_of {α : Type} {xs : List α} {r : Int} (h0 : 0 ≤ r) (h1 : r < xs.length) : ∃ x, x ∈ xs ∧ atI xs r = some x := by
  have h2 : r.toNat < xs.length := by omega
  refine ⟨xs[r.toNat], List.getElem_mem h2, ?_⟩
  simp [atI, ixN, h0, h1, h2]
theorem one_of_ok {b : List D} {ds : List D} {m : M} (hm : frz m = .lst ds) (h : Box b) (hn : 0 < ds.length) (hn2 : ds.length < 1073741824) : ∃ d b', Box b' ∧ d ∈ ds ∧ ff_law_one_of [.l b, m] = some (.p d, [some (.l b'), none]) := by
  obtain ⟨r, b', hb, h0, h1, e⟩ := choose_ok (n := ds.length) h (by omega) (by omega)
  obtain ⟨d, hd, e2⟩ := atI_of h0 h1
  refine ⟨d, b', hb, hd, ?_⟩
  simp [ff_law_one_of, fnF, b_law_one_of, e, e2, hm]
/-- loops: an invariant over what is left to walk -/
theorem forF_inv {tg : GF} {body : SF} (I : List D → En → Prop) (step : ∀ d ds ms, I (d :: ds) ms → ∃ m1 o, tg (.p d) ms = some m1 ∧ body m1 = some o ∧ (o.1 = .nx ∨ o.1 = .ct) ∧ I ds o.2) : ∀ ds ms, I ds ms → ∃ ms', forF tg body ds ms = some (.nx, ms') ∧ I [] ms'
  | [], ms, h => ⟨ms, rfl, h⟩
  | d :: ds, ms, h => by
    obtain ⟨m1, o, e1, e2, e3, h2⟩ := step d ds ms h
    obtain ⟨ms', e4, h3⟩ := forF_inv I step ds o.2 h2
    refine ⟨ms', ?_, h3⟩
    obtain ⟨o1, om⟩ := o
    rcases e3 with e3 | e3 <;> (simp only at e3; subst e3; simp [forF, e1, e2, e4])
theorem rngD0 (lo : Int) : rngD lo 0 = [] := rfl
theorem eraseIdx_perm {α : Type} : ∀ {l : List α} {i : Nat} {x : α}, l[i]? = some x → l.Perm (x :: l.eraseIdx i)
  | [], i, x, h => by simp at h
  | y :: l, 0, x, h => by simp at h; subst h; exact .refl _
  | y :: l, i + 1, x, h => by
    have := eraseIdx_perm (l := l) (i := i) (x := x) (by simpa using h)
    exact (this.cons y).trans (List.Perm.swap _ _ _)
theorem mixed_ok {b : List D} {d : D} {ds : List D} (h : Box b) (hd : dListA d = some (.l ds)) (hl : dLen d = some (.p (.int ds.length))) (hn : ds.length < 1000) :
    ∃ ys b', Box b' ∧ ys.Perm ds ∧ ff_law_mixed [.l b, .p d] = some (.p (.lst ys), [some (.l b'), none]) := by
  have key := forF_inv (tg := gSet 4) (body := (sEx (xApp 3 (xPopAt 2 (xFn ff_law_choose [] [some 0, none] (aC (xTk 0) (aC (xLenO 2) aN)))))))
    (fun rest ms => ∃ b' left found w, ms = [some (.l b'), some (.p d), some (.l left), some (.l found), w] ∧ Box b' ∧ left.length = rest.length ∧ (found ++ left).Perm ds) (fun x rest ms ⟨b', left, found, w, hm, hb, hlen, hp⟩ => by
      subst hm
      have hlen2 : left.length = rest.length + 1 := by simpa using hlen
      have hpl := hp.length_eq
      simp at hpl
      obtain ⟨r, b2, hb2, h0, h1, e⟩ := choose_ok (n := left.length) hb (by omega) (by omega)
      have h2 : r.toNat < left.length := by omega
      have hsl : sizeLine = 16777216 := sizeLine_eq
      refine ⟨[some (.l b'), some (.p d), some (.l left), some (.l found), some (.p x)], (.nx, [some (.l b2), some (.p d), some (.l (left.eraseIdx r.toNat)), some (.l (found ++ [left[r.toNat]])), some (.p x)]), rfl, ?_, .inl rfl, b2, left.eraseIdx r.toNat, found ++ [left[r.toNat]], _, rfl, hb2, ?_, ?_⟩
      rotate_left
      · rw [List.length_eraseIdx]; simp [h2]; omega
      · refine List.Perm.trans ?_ hp
        rw [List.append_assoc]
        exact (eraseIdx_perm (List.getElem?_eq_getElem h2)).symm.append_left found
      · have c1 : left.length ≤ sizeLine := by omega
        have c2 : found.length < sizeLine := by omega
        simp [slL, e, h0, h1, h2, c1, c2])
  obtain ⟨ms', e1, b', left, found, w, rfl, hb, hl0, hp⟩ := key (rngD 0 ds.length) [some (.l b), some (.p d), some (.l ds), some (.l []), none] ⟨b, ds, [], none, rfl, h, (rngD_len _ _).symm, .refl _⟩
  have : left = [] := List.length_eq_zero_iff.mp hl0
  subst this
  refine ⟨found, b', hb, by simpa using hp, ?_⟩
  have s1 : sPar 2 3 (xCall (o1 dListA) (aC (xV 1) aN)) (xCall dLst aN) [some (.l b), some (.p d), none, none, none] = some (.nx, [some (.l b), some (.p d), some (.l ds), some (.l []), none]) := by simp [hd, dLst]
  have s2 : iR1 (aC (xCall (o1 dLen) (aC (xV 1) aN)) aN) [some (.l b), some (.p d), some (.l ds), some (.l []), none] = some (rngD 0 ds.length, [some (.l b), some (.p d), some (.l ds), some (.l []), none]) := iR1_of (by simp [hl]) (by omega)
  have e0 : ff_law_mixed [.l b, .p d] = fnF 5 2 [0] b_law_mixed [.l b, .p d] := rfl
  rw [e0]
  unfold fnF b_law_mixed
  simp [List.replicate, s1, s2, e1, -sPar_ap]
end Mh
namespace Mh
open PySem L2
@[simp] theorem ofS_inj (a b : String) : (Str.ofString a = Str.ofString b) ↔ a = b := by
  refine ⟨fun h => ?_, fun h => by rw [h]⟩
  have e : TL.tl (Str.ofString a) = TL.tl (Str.ofString b) := by rw [h]
  rw [TL.tl_ofString, TL.tl_ofString] at e
  have inj : ∀ l m : List Char, l.map Char.toNat = m.map Char.toNat → l = m := by
    intro l
    induction l with
    | nil => intro m h; cases m with | nil => rfl | cons => cases h
    | cons c l ih =>
      intro m h
      cases m with
      | nil => cases h
      | cons d m =>
        simp only [List.map_cons, List.cons.injEq] at h
        rw [Char.toNat_inj.mp h.1, ih m h.2]
  exact String.toList_inj.mp (inj _ _ e)
@[simp] theorem ofS_beq (a b : String) : (Str.ofString a == Str.ofString b) = (a == b) := by
  by_cases h : a = b
  · subst h; simp
  · have h2 : ¬ Str.ofString a = Str.ofString b := fun e => h ((ofS_inj a b).mp e)
    rw [beq_false_of_ne h, beq_false_of_ne h2]
/-- a comprehension, turn by turn: what is known (ms0) comes back after each turn -/
theorem lcF_map {tg : GF} {tt : TF} {te : EF} {vs : List Nat} (ms0 : En) (f : D → D) : ∀ (ds : List D) (acc : List D), acc.length + ds.length ≤ 1000000 → (∀ d ∈ ds, ∃ m1 m2 y m3, tg (.p d) ms0 = some m1 ∧ tt m1 = some (true, m2) ∧ te m2 = some (y, m3) ∧ frz y = f d ∧ wpM m3 vs = ms0) →
    lcF tg tt te vs ds ms0 acc = some (acc ++ ds.map f, ms0)
  | [], acc, _, _ => by simp [lcF]
  | d :: ds, acc, hl, h => by
    obtain ⟨m1, m2, y, m3, e1, e2, e3, e4, e5⟩ := h d List.mem_cons_self
    have ih := lcF_map (tg := tg) (tt := tt) (te := te) (vs := vs) ms0 f ds (acc ++ [f d]) (by simp at hl ⊢; omega) fun x hx => h x (List.mem_cons_of_mem _ hx)
    have a : acc.length < sizeLine := by rw [sizeLine_eq]; simp at hl; omega
    simp [lcF, e1, e2, e3, e4, e5, a, ih]
/-- .. over things of a type, with a test -/
theorem lcF_fm {α : Type} {tg : GF} {tt : TF} {te : EF} {vs : List Nat} (ms0 : En) (enc : α → D) (c : α → Bool) (f : α → D) : ∀ (xs : List α) (acc : List D), acc.length + xs.length ≤ 1000000 → (∀ x ∈ xs, ∃ m1 m2, tg (.p (enc x)) ms0 = some m1 ∧ tt m1 = some (c x, m2) ∧ (c x = false → wpM m2 vs = ms0) ∧ (c x = true → ∃ y m3, te m2 = some (y, m3) ∧ frz y = f x ∧ wpM m3 vs = ms0)) →
    lcF tg tt te vs (xs.map enc) ms0 acc = some (acc ++ (xs.filter c).map f, ms0)
  | [], acc, _, _ => by simp [lcF]
  | x :: xs, acc, hl, h => by
    obtain ⟨m1, m2, e1, e2, e3, e4⟩ := h x List.mem_cons_self
    cases hc : c x with
    | false =>
      have ih := lcF_fm (tg := tg) (tt := tt) (te := te) (vs := vs) ms0 enc c f xs acc (by simp at hl ⊢; omega) fun x hx => h x (List.mem_cons_of_mem _ hx)
      have a : acc.length < sizeLine := by rw [sizeLine_eq]; simp at hl; omega
      rw [hc] at e2
      simp [lcF, e1, e2, e3 hc, a, ih, hc]
    | true =>
      obtain ⟨y, m3, e5, e6, e7⟩ := e4 hc
      have ih := lcF_fm (tg := tg) (tt := tt) (te := te) (vs := vs) ms0 enc c f xs (acc ++ [f x]) (by simp at hl ⊢; omega) fun x hx => h x (List.mem_cons_of_mem _ hx)
      have a : acc.length < sizeLine := by rw [sizeLine_eq]; simp at hl; omega
      rw [hc] at e2
      simp [lcF, e1, e2, e5, e6, e7, a, ih, hc]
/-- .. without a test -/
theorem lcF_mp {α : Type} {tg : GF} {tt : TF} {te : EF} {vs : List Nat} (ms0 : En) (enc : α → D) (f : α → D) (xs : List α) (hl : xs.length ≤ 1000000) (h : ∀ x ∈ xs, ∃ m1 m2 y m3, tg (.p (enc x)) ms0 = some m1 ∧ tt m1 = some (true, m2) ∧ te m2 = some (y, m3) ∧ frz y = f x ∧ wpM m3 vs = ms0) :
    lcF tg tt te vs (xs.map enc) ms0 [] = some (xs.map f, ms0) := by
  have := lcF_fm (tg := tg) (tt := tt) (te := te) (vs := vs) ms0 enc (fun _ => true) f xs [] (by simpa using hl) fun x hx => by
    obtain ⟨m1, m2, y, m3, e1, e2, e3, e4, e5⟩ := h x hx
    exact ⟨m1, m2, e1, e2, fun z => (nomatch z), fun _ => ⟨y, m3, e3, e4, e5⟩⟩
  rw [this, List.filter_eq_self.mpr fun _ _ => rfl, List.nil_append]
/-- .. where the first turn freezes something -/
theorem lcF_mp2 {α : Type} {tg : GF} {tt : TF} {te : EF} {vs : List Nat} (ms0 ms1 : En) (enc : α → D) (f : α → D) (xs : List α) (hne : xs ≠ []) (hl : xs.length ≤ 1000000) (h : ∀ x ∈ xs, ∀ ms, ms = ms0 ∨ ms = ms1 → ∃ m1 m2 y m3, tg (.p (enc x)) ms = some m1 ∧ tt m1 = some (true, m2) ∧ te m2 = some (y, m3) ∧ frz y = f x ∧ wpM m3 vs = ms1) :
    lcF tg tt te vs (xs.map enc) ms0 [] = some (xs.map f, ms1) := by
  have key : ∀ (xs : List α) (acc : List D), acc.length + xs.length ≤ 1000000 → (∀ x ∈ xs, ∃ m1 m2 y m3, tg (.p (enc x)) ms1 = some m1 ∧ tt m1 = some (true, m2) ∧ te m2 = some (y, m3) ∧ frz y = f x ∧ wpM m3 vs = ms1) → lcF tg tt te vs (xs.map enc) ms1 acc = some (acc ++ xs.map f, ms1) := by
    intro xs acc hl h
    have := lcF_fm (tg := tg) (tt := tt) (te := te) (vs := vs) ms1 enc (fun _ => true) f xs acc hl fun x hx => by
      obtain ⟨m1, m2, y, m3, e1, e2, e3, e4, e5⟩ := h x hx
      exact ⟨m1, m2, e1, e2, fun z => (nomatch z), fun _ => ⟨y, m3, e3, e4, e5⟩⟩
    rw [this, List.filter_eq_self.mpr fun _ _ => rfl]
  cases xs with
  | nil => exact absurd rfl hne
  | cons x xs =>
    obtain ⟨m1, m2, y, m3, e1, e2, e3, e4, e5⟩ := h x List.mem_cons_self ms0 (.inl rfl)
    have k := key xs [f x] (by simp at hl ⊢; omega) fun z hz => h z (List.mem_cons_of_mem _ hz) ms1 (.inr rfl)
    have a : 0 < sizeLine := by rw [sizeLine_eq]; omega
    simp [lcF, e1, e2, e3, e4, e5, a, k]
theorem blsD_true : ∀ (l : List D), (∀ d ∈ l, d = .bl true) → blsD l = some (l.map fun _ => true)
  | [], _ => rfl
  | d :: l, h => by
    obtain rfl := h d List.mem_cons_self
    rw [List.map_cons]; show (blsD l).map _ = _; rw [blsD_true l fun x hx => h x (List.mem_cons_of_mem _ hx)]; rfl
theorem dAll_true {l : List D} (h : ∀ d ∈ l, d = .bl true) : dAll (.lst l) = some (.p (.bl true)) := by
  show (blsD l).map _ = _
  rw [blsD_true l h]
  simp
theorem dAll_tt {α : Type} (l : List α) : dAll (.lst (l.map fun _ => D.bl true)) = some (.p (.bl true)) := dAll_true fun d hd => by
  obtain ⟨_, _, rfl⟩ := List.mem_map.mp hd
  rfl
theorem kb_str : kitB "str" "str" = some true := by decide +kernel
theorem kb_tup : kitB "tuple" "tuple" = some true := by decide +kernel
theorem kb_ll : kitB "list" "list" = some true := by decide +kernel
theorem kb_lt : kitB "list" "tuple" = some false := by decide +kernel
theorem kb_tl : kitB "tuple" "list" = some false := by decide +kernel
theorem kb_int : kitB "int" "int" = some true := by decide +kernel
theorem kb_ib : kitB "int" "bool" = some false := by decide +kernel
theorem kb_bb : kitB "bool" "bool" = some true := by decide +kernel
theorem kb_is : kitB "int" "str" = some false := by decide +kernel
theorem kb_bs : kitB "bool" "str" = some false := by decide +kernel
theorem kb_ns : kitB "NoneType" "str" = some false := by decide +kernel
theorem kb_ts : kitB "tuple" "str" = some false := by decide +kernel
theorem kb_ls : kitB "list" "str" = some false := by decide +kernel

/-! ### names -/
def barred : List Str := ["line", "out", "main", "back", "go", "call", "menu", "else", "none"]
structure Nm (z : Str) : Prop where
  bar : z ∉ barred
  pos : 1 ≤ z.length
  le : z.length ≤ 4
  abc : ∀ c ∈ z.cps.toList, 97 ≤ c ∧ c ≤ 122
instance (z : Str) : Decidable (Nm z) := decidable_of_iff (z ∉ barred ∧ 1 ≤ z.length ∧ z.length ≤ 4 ∧ ∀ c ∈ z.cps.toList, 97 ≤ c ∧ c ≤ 122) ⟨fun h => ⟨h.1, h.2.1, h.2.2.1, h.2.2.2⟩, fun h => ⟨h.1, h.2, h.3, h.4⟩⟩
theorem abc_in : ((List.range' 97 26).all fun c => inS ⟨#[c]⟩ "abcdefghijklmnopqrstuvwxyz") = true := by decide +kernel
theorem abc_in' {c : Nat} (h : 97 ≤ c ∧ c ≤ 122) : inS ⟨#[c]⟩ "abcdefghijklmnopqrstuvwxyz" = true :=
  List.all_eq_true.mp abc_in c (List.mem_range'_1.mpr ⟨h.1, by omega⟩)
theorem flat_strs (xs : List Str) : (xs.map D.str).mapM flatD = some (xs.map V.str) := by
  induction xs with
  | nil => rfl
  | cons x xs ih => simp only [List.map_cons, List.mapM_cons, ih, flatD]; rfl
theorem inV_strs (z : Str) : ∀ xs : List Str, inV (.str z) (xs.map V.str) = decide (z ∈ xs)
  | [] => by simp [inV]
  | x :: xs => by
    have ih := inV_strs z xs
    simp only [List.map_cons, List.mem_cons]
    simp only [inV, List.any_cons] at ih ⊢
    rw [ih]
    have e : eqV (.str x) (.str z) = decide (z = x) := by
      by_cases h : z = x
      · subst h; simp [eqV]
      · have h2 : ¬ x = z := fun q => h q.symm
        simp [eqV, h, h2]
    rw [e, Bool.decide_or]
theorem dInA_strs (z : Str) (xs : List Str) (neg : Bool) {d : D} (h : seqD d = some (xs.map D.str)) : dInA neg (.str z) d = some (.bl (if neg then !decide (z ∈ xs) else decide (z ∈ xs))) := by
  have e : dInA neg (.str z) d = dIn neg (.str z) d := by
    cases d <;> first | rfl | cases h
  rw [e]
  unfold dIn
  rw [h]
  simp only [flatD, Option.bind_some, flat_strs, Option.map_some, inV_strs]
theorem name_in {z : Str} (h : Nm z) : ff_is_name [.p (.str z)] = some (.p (.bl true), [none]) := by
  have hs : z.length ≤ sizeLine := by rw [sizeLine_eq]; have := h.le; omega
  have h1 : ((1 : Int) ≤ (z.length : Int)) := by have := h.pos; omega
  have h2 : ((z.length : Int) ≤ (4 : Int)) := by have := h.le; omega
  have b := dInA_strs z barred false (d := .tup (barred.map .str)) rfl
  have nb := h.bar
  simp only [nb, decide_false] at b
  have lc : lcF (gSet 1) tfY (f2 (dInA false) (xV 1) (xC (.str "abcdefghijklmnopqrstuvwxyz"))) [1] (chars z) [some (.p (.str z)), none] [] = some ([] ++ (chars z).map (fun _ => D.bl true), [some (.p (.str z)), none]) :=
    lcF_map _ _ _ _ (by simp [chars]; have := h.le; simp only [Str.length] at this; omega) fun d hd => by
      obtain ⟨c, hc, rfl⟩ := List.mem_map.mp hd
      refine ⟨_, _, .p (.bl true), [some (.p (.str z)), some (.p (.str ⟨#[c]⟩))], rfl, rfl, ?_, rfl, rfl⟩
      have := abc_in' (h.abc c hc)
      simp [dInA, this]
  have al := dAll_true (l := (chars z).map (fun _ => D.bl true)) (by simp)
  simp only [barred, List.map_cons, List.map_nil] at b
  simp at lc
  simp [ff_is_name, fnF, b_is_name, kb_str, dLen, hs, gB, h1, h2, b, lc, al]
end Mh
namespace Mh
open PySem L2
/-! ### actions -/
inductive Act where
  | line (x : Str) | out | again | main | back | go (n : Str) | call (n t : Str)
deriving DecidableEq
def Act.ws : Act → List Str
  | .line x => ["line", x]
  | .out => ["out"]
  | .again => ["again"]
  | .main => ["main"]
  | .back => ["back"]
  | .go n => ["go", n]
  | .call n t => ["call", n, t]
/-- the names behind the first word -/
def Act.args : Act → List Str
  | .line x => [x]
  | .go n => [n]
  | .call n t => [n, t]
  | _ => []
/-- the menus that an action names -/
def Act.nms : Act → List Str
  | .go n => [n]
  | .call n t => [n, t]
  | _ => []
def Act.Ok (a : Act) : Prop := ∀ z ∈ a.args, Nm z
def actT (a : Act) : Str := Txt.join " " a.ws
def encA (a : Act) : D := .tup (a.ws.map .str)
theorem nm_no {z : Str} (h : Nm z) {k : Nat} (hk : k < 97) : k ∉ z.cps.toList := fun hm => by
  have := h.abc k hm
  omega
theorem Act.no {a : Act} (h : a.Ok) {k : Nat} (hk : k < 97) : ∀ w ∈ a.ws, k ∉ TL.tl w := by
  have key : ∀ w ∈ (["line", "out", "again", "main", "back", "go", "call"] : List Str), ∀ c ∈ TL.tl w, 97 ≤ c := by decide +kernel
  have k2 : ∀ w ∈ (["line", "out", "again", "main", "back", "go", "call"] : List Str), k ∉ TL.tl w := fun w hw hm => by have := key w hw k hm; omega
  cases a <;> simp only [Act.ws, List.mem_cons, List.not_mem_nil, or_false, forall_eq_or_imp, forall_eq] <;> simp only [Act.Ok, Act.args, List.mem_cons, List.not_mem_nil, or_false, forall_eq_or_imp, forall_eq] at h
  · exact ⟨k2 _ (by decide), nm_no h hk⟩
  · exact k2 _ (by decide)
  · exact k2 _ (by decide)
  · exact k2 _ (by decide)
  · exact k2 _ (by decide)
  · exact ⟨k2 _ (by decide), nm_no h hk⟩
  · exact ⟨k2 _ (by decide), nm_no h.1 hk, nm_no h.2 hk⟩
theorem split_sp {ws : List Str} (h0 : ws ≠ []) (h : ∀ w ∈ ws, 32 ∉ TL.tl w) : Txt.split (Txt.join " " ws) " " = ws :=
  TL.split_join (y := " ") (s := 32) (S := []) (by decide +kernel) (by decide +kernel) h0 h
theorem Act.ws_ne (a : Act) : a.ws ≠ [] := by cases a <;> simp [Act.ws]
theorem act_split {a : Act} (h : a.Ok) : Txt.split (actT a) " " = a.ws := split_sp a.ws_ne (Act.no h (by decide))
theorem Act.ws_inj {a b : Act} (h : a.ws = b.ws) : a = b := by
  cases a <;> cases b <;> simp only [Act.ws, List.cons.injEq, and_true, true_and] at h <;>
    first | rfl | exact congrArg _ h | (obtain ⟨rfl, rfl⟩ := h; rfl) | exact absurd h (by decide) | exact absurd h.1 (by decide)
theorem actT_inj {a b : Act} (ha : a.Ok) (hb : b.Ok) (h : actT a = actT b) : a = b := Act.ws_inj (by rw [← act_split ha, ← act_split hb, h])
theorem len_join1 (x : Str) : Txt.join " " [x] = x := by rw [TL.join_eq]; rfl
theorem join2 (x y : Str) : Txt.join " " [x, y] = x ++ " " ++ y := by rw [TL.join_eq]; rfl
theorem join3 (x y z : Str) : Txt.join " " [x, y, z] = x ++ " " ++ (y ++ " " ++ z) := by rw [TL.join_eq]; rfl
theorem len_app (a b : Str) : (a ++ b).length = a.length + b.length := Str.length_append a b
theorem actT_len {a : Act} (h : a.Ok) : (actT a).length ≤ 14 := by
  have l1 : ("line" : Str).length = 4 := by decide
  have l2 : ("go" : Str).length = 2 := by decide
  have l3 : ("call" : Str).length = 4 := by decide
  have l4 : (" " : Str).length = 1 := by decide
  cases a <;> simp only [Act.Ok, Act.args, List.mem_cons, List.not_mem_nil, or_false, forall_eq_or_imp, forall_eq] at h <;> simp only [actT, Act.ws]
  · rw [join2, len_app, len_app]; have := h.le; omega
  · rw [len_join1]; decide
  · rw [len_join1]; decide
  · rw [len_join1]; decide
  · rw [len_join1]; decide
  · rw [join2, len_app, len_app]; have := h.le; omega
  · rw [join3, len_app, len_app, len_app, len_app]; have := h.1.le; have := h.2.le; omega
theorem tl_join_no {k : Nat} (hk : k ≠ 32) {ws : List Str} (h : ∀ w ∈ ws, k ∉ TL.tl w) : k ∉ TL.tl (Txt.join " " ws) := by
  rw [TL.join_eq]
  induction ws with
  | nil => intro hm; cases hm
  | cons w ws ih =>
    have h1 := h w List.mem_cons_self
    have ih2 := ih fun x hx => h x (List.mem_cons_of_mem _ hx)
    cases ws with
    | nil => exact h1
    | cons w2 ws =>
      have e : Str.join " " (w :: w2 :: ws) = w ++ " " ++ Str.join " " (w2 :: ws) := rfl
      rw [e, TL.tl_append, TL.tl_append, List.mem_append, List.mem_append, not_or, not_or]
      refine ⟨⟨h1, ?_⟩, ih2⟩
      have e2 : TL.tl (" " : Str) = [32] := by decide +kernel
      rw [e2]
      simpa using hk
theorem actT_nl {a : Act} (h : a.Ok) : 10 ∉ TL.tl (actT a) := tl_join_no (by decide) (Act.no h (by decide))
theorem dSplit_sp (x : Str) (h : x.length ≤ 1000000) : dSplit (.str x) (.str " ") = some (.l ((Txt.split x " ").map .str)) := by
  have : ((" " : Str).length == 0) = false ∧ x.length + 2 ≤ sizeLine := ⟨by decide, by rw [sizeLine_eq]; omega⟩
  exact if_pos this
theorem sp_alone {x : Str} (h : 32 ∈ TL.tl x) : x ∉ (["out", "again", "main", "back"] : List Str) := by
  have key : ∀ w ∈ (["out", "again", "main", "back"] : List Str), 32 ∉ TL.tl w := by decide +kernel
  exact fun hm => key x hm h
theorem mem_join {x y : Str} {ws : List Str} : 32 ∈ TL.tl (Txt.join " " (x :: y :: ws)) := by
  rw [TL.join_eq]
  have e : Str.join " " (x :: y :: ws) = x ++ " " ++ Str.join " " (y :: ws) := rfl
  have e2 : TL.tl (" " : Str) = [32] := by decide +kernel
  rw [e, TL.tl_append, TL.tl_append, e2]
  simp
/-- a comprehension of names: all are -/
theorem names_lc {w0 w1 : Option M} (xs : List Str) (h : ∀ z ∈ xs, Nm z) (hl : xs.length ≤ 1000) : lcF (gSet 2) tfY (xFn ff_is_name [] [none] (aC (xV 2) aN)) [2] (xs.map D.str) [w0, w1, none] [] = some ((xs.map D.str).map (fun _ => D.bl true), [w0, w1, none]) := by
  refine (lcF_map _ (fun _ => D.bl true) _ _ (by simp; omega) fun d hd => ?_).trans (by simp only [List.nil_append])
  obtain ⟨z, hz, rfl⟩ := List.mem_map.mp hd
  exact ⟨_, _, .p (.bl true), [w0, w1, some (.p (.str z))], rfl, rfl, by simp [name_in (h z hz)], rfl, rfl⟩
theorem tb_l : tb_MANY_NAMES "line" = some 1 := by decide +kernel
theorem tb_g : tb_MANY_NAMES "go" = some 1 := by decide +kernel
theorem tb_c : tb_MANY_NAMES "call" = some 2 := by decide +kernel
theorem act_in {a : Act} (h : a.Ok) : ff_action_in [.p (.str (actT a))] = some (.p (encA a), [none]) := by
  have hl := actT_len h
  have sp := dSplit_sp (actT a) (by omega)
  rw [act_split h] at sp
  have al := dInA_strs (actT a) ["out", "again", "main", "back"] false (d := .tup [.str "out", .str "again", .str "main", .str "back"]) rfl
  by_cases ha : a = .out ∨ a = .again ∨ a = .main ∨ a = .back
  · have e : actT a ∈ (["out", "again", "main", "back"] : List Str) ∧ a.ws = [actT a] := by
      rcases ha with rfl | rfl | rfl | rfl <;> (simp only [actT, Act.ws, len_join1]; decide)
    simp only [e.1, decide_true] at al
    simp [ff_action_in, fnF, b_action_in, kb_str, sp, al, dTup, sizeLine_eq, encA, e.2, isStrD]
  · have hn : actT a ∉ (["out", "again", "main", "back"] : List Str) := by
      refine sp_alone ?_
      cases a <;> simp at ha <;> exact mem_join
    simp only [hn, decide_false] at al
    have nl := names_lc (w0 := some (.p (.str (actT a)))) (w1 := some (.p (.lst (a.ws.map .str)))) a.args h (by cases a <;> simp [Act.args])
    have da := dAll_true (l := (a.args.map D.str).map fun _ => D.bl true) (by simp)
    cases a <;> simp at ha <;> simp only [Act.ws, Act.args, List.map_cons, List.map_nil] at sp nl da <;>
      simp [ff_action_in, fnF, b_action_in, kb_str, sp, al, dTup, sizeLine_eq, encA, isStrD, Act.ws, atI, ixN, tb_l, tb_g, tb_c, isNotKey, dSl, cutG, HT.sIx, nl, da, dTuple]
end Mh
namespace Mh
open PySem L2
/-! ### digits, sorted rows -/
def digs : List Str := ["0", "1", "2", "3", "4", "5", "6", "7", "8", "9"]
theorem digs_nd : digs.Nodup := by decide
def okB (r : Option (M × En)) (b : Bool) : Bool := match r with
  | some (.p (.bl c), [none]) => c == b
  | _ => false
theorem okB_eq {r : Option (M × En)} {b : Bool} (h : okB r b = true) : r = some (.p (.bl b), [none]) := by
  unfold okB at h
  split at h
  · rw [eq_of_beq h]
  · cases h
theorem digs_ok : (digs.all fun x => okB (ff_is_digit [.p (.str x)]) true) = true := by decide +kernel
theorem digit_in {x : Str} (h : x ∈ digs) : ff_is_digit [.p (.str x)] = some (.p (.bl true), [none]) := okB_eq (List.all_eq_true.mp digs_ok x h)
theorem digs_len : ∀ x ∈ digs, x.length = 1 := by decide
theorem digs_no : ∀ x ∈ digs, ∀ c ∈ TL.tl x, 48 ≤ c ∧ c ≤ 57 := by decide +kernel
/-- a row of texts -/
def encT (p : Str × Str) : D := .tup [.str p.1, .str p.2]
theorem leD_str (a b : Str) : leD (.str a) (.str b) = decide (TL.tl a ≤ TL.tl b) := by
  show (!PySem.W.dataLt (pdD (.str b)) (pdD (.str a))) = _
  rw [pdD_str, pdD_str, PySem.W.dataLt_str, PySem.W.not_lt_str]
theorem leD_row {p q : Str × Str} (h : p.1 ≠ q.1) : leD (encT p) (encT q) = decide (TL.tl p.1 ≤ TL.tl q.1) := by
  show (!PySem.W.dataLt (pdD (.tup [.str q.1, .str q.2])) (pdD (.tup [.str p.1, .str p.2]))) = _
  rw [pdD_pair, pdD_pair, PySem.W.dataLt_pair (by simp [PySem.W.alike]) (by simp [PySem.W.alike]), if_neg (by simpa [PyData.eqv] using fun e : q.1 = p.1 => h e.symm), PySem.W.dataLt_str, PySem.W.not_lt_str]
theorem leD_t : PySem.W.TotalLe leD := PySem.W.sortLe_total (PyProof.Rows.listOrd PyProof.Rows.itemOrd) false fun d => PySem.W.keyToks (pdD d)
theorem leD_tr (a b c : D) : leD a b = true → leD b c = true → leD a c = true := leD_t.trans a b c
theorem leD_to (a b : D) : (leD a b || leD b a) = true := by rw [Bool.or_eq_true]; exact leD_t.total a b
/-- sorted, when the order of the keys is told -/
theorem sort_is {α : Type} (enc : α → D) {l l' : List α} (hp : l.Perm l') (ho : l'.Pairwise fun a b => leD (enc a) (enc b) = true ∧ leD (enc b) (enc a) = false) : (l.map enc).mergeSort leD = l'.map enc := by
  have h1 : ((l.map enc).mergeSort leD).Perm (l'.map enc) := (List.mergeSort_perm _ _).trans (hp.map enc)
  have h2 : ((l.map enc).mergeSort leD).Pairwise fun a b => leD a b = true := List.pairwise_mergeSort leD_tr leD_to _
  have h3 : (l'.map enc).Pairwise fun a b => leD a b = true := List.pairwise_map.mpr (ho.imp fun h => h.1)
  refine List.Perm.eq_of_pairwise (le := fun a b => leD a b = true) (fun a b ha hb e1 e2 => ?_) h2 h3 h1
  obtain ⟨x, hx, rfl⟩ := List.mem_map.mp (h1.mem_iff.mp ha)
  obtain ⟨y, hy, rfl⟩ := List.mem_map.mp hb
  have tri : x = y ∨ leD (enc x) (enc y) = false ∨ leD (enc y) (enc x) = false := by
    clear h1 h2 h3 hp ha hb
    induction l' with
    | nil => cases hx
    | cons z zs ih =>
      obtain ⟨o1, o2⟩ := List.pairwise_cons.mp ho
      rcases List.mem_cons.mp hx with e | hx'
      · rcases List.mem_cons.mp hy with e' | hy'
        · exact .inl (e.trans e'.symm)
        · exact .inr (.inr (e ▸ (o1 y hy').2))
      · rcases List.mem_cons.mp hy with e' | hy'
        · exact .inr (.inl (e' ▸ (o1 x hx').2))
        · exact ih o2 hx' hy'
  rcases tri with t | t | t
  · rw [t]
  · rw [t] at e1; cases e1
  · rw [t] at e2; cases e2
theorem digs_lt : digs.Pairwise fun a b => TL.tl a ≤ TL.tl b ∧ ¬ TL.tl b ≤ TL.tl a := by decide +kernel
/-- rows by digits, ascending -/
def canon {β : Type} (T : List (Str × β)) : List (Str × β) := digs.filterMap fun d => (T.lookup d).map fun a => (d, a)
theorem lookup_mem {β : Type} {T : List (Str × β)} {k : Str} {a : β} (h : T.lookup k = some a) : (k, a) ∈ T := by
  induction T with
  | nil => cases h
  | cons p T ih =>
    obtain ⟨x, y⟩ := p
    rw [List.lookup_cons] at h
    cases hb : k == x with
    | true => rw [hb] at h; cases h; rw [eq_of_beq hb]; exact List.mem_cons_self
    | false => rw [hb] at h; exact List.mem_cons_of_mem _ (ih h)
theorem lookup_of {β : Type} {T : List (Str × β)} {k : Str} {a : β} (nd : (T.map (·.1)).Nodup) (h : (k, a) ∈ T) : T.lookup k = some a := by
  induction T with
  | nil => cases h
  | cons p T ih =>
    obtain ⟨x, y⟩ := p
    rw [List.map_cons, List.nodup_cons] at nd
    rw [List.lookup_cons]
    rcases List.mem_cons.mp h with e | h2
    · cases e; simp
    · have : k ≠ x := fun e => nd.1 (List.mem_map.mpr ⟨(k, a), h2, e⟩)
      rw [beq_false_of_ne this]
      exact ih nd.2 h2
theorem lookup_none {β : Type} {T : List (Str × β)} {k : Str} (h : k ∉ T.map (·.1)) : T.lookup k = none := by
  cases e : T.lookup k with
  | none => rfl
  | some a => exact absurd (List.mem_map_of_mem (f := (·.1)) (lookup_mem e)) h
theorem canon_mem {β : Type} {T : List (Str × β)} {p : Str × β} : p ∈ canon T ↔ p.1 ∈ digs ∧ T.lookup p.1 = some p.2 := by
  unfold canon
  rw [List.mem_filterMap]
  constructor
  · rintro ⟨d, hd, e⟩
    obtain ⟨a, e1, rfl⟩ := Option.map_eq_some_iff.mp e
    exact ⟨hd, e1⟩
  · rintro ⟨hd, e⟩
    exact ⟨p.1, hd, by rw [e]; rfl⟩
theorem canon_lt {β : Type} (T : List (Str × β)) : (canon T).Pairwise fun p q => TL.tl p.1 ≤ TL.tl q.1 ∧ ¬ TL.tl q.1 ≤ TL.tl p.1 := by
  unfold canon
  refine List.Pairwise.filterMap _ ?_ digs_lt
  intro a b h p hp q hq
  obtain ⟨x, _, rfl⟩ := Option.map_eq_some_iff.mp hp
  obtain ⟨y, _, rfl⟩ := Option.map_eq_some_iff.mp hq
  exact h
theorem canon_nd {β : Type} (T : List (Str × β)) : ((canon T).map (·.1)).Nodup := by
  refine List.pairwise_map.mpr ((canon_lt T).imp ?_)
  intro p q h e
  rw [e] at h
  exact h.2 h.1
theorem canon_perm {β : Type} {T : List (Str × β)} (nd : (T.map (·.1)).Nodup) (dg : ∀ p ∈ T, p.1 ∈ digs) : (canon T).Perm T := by
  have n1 : (canon T).Nodup := List.Pairwise.of_map (·.1) (fun _ _ h e => h (by rw [e])) (canon_nd T)
  have n2 : T.Nodup := List.Pairwise.of_map (·.1) (fun _ _ h e => h (by rw [e])) nd
  refine (List.perm_ext_iff_of_nodup n1 n2).mpr fun p => ?_
  rw [canon_mem]
  constructor
  · rintro ⟨_, e⟩; exact lookup_mem e
  · exact fun h => ⟨dg p h, lookup_of nd h⟩
theorem canon_lookup {β : Type} {T : List (Str × β)} {d : Str} (h : d ∈ digs) : (canon T).lookup d = T.lookup d := by
  cases e : T.lookup d with
  | some a => exact lookup_of (canon_nd T) (canon_mem.mpr ⟨h, e⟩)
  | none =>
    refine lookup_none fun hm => ?_
    obtain ⟨p, hp, rfl⟩ := List.mem_map.mp hm
    rw [(canon_mem.mp hp).2] at e
    cases e
theorem canon_map {β γ : Type} (f : β → γ) (T : List (Str × β)) : canon (T.map fun p => (p.1, f p.2)) = (canon T).map fun p => (p.1, f p.2) := by
  have e : ∀ d, (T.map fun p => (p.1, f p.2)).lookup d = (T.lookup d).map f := by
    intro d
    induction T with
    | nil => rfl
    | cons p T ih =>
      obtain ⟨x, y⟩ := p
      rw [List.map_cons, List.lookup_cons, List.lookup_cons]
      cases d == x <;> simp [ih]
  unfold canon
  rw [List.map_filterMap]
  congr 1
  funext d
  rw [e]
  cases T.lookup d <;> rfl
theorem canon_ext {β : Type} {T U : List (Str × β)} (h : ∀ d ∈ digs, T.lookup d = U.lookup d) : canon T = canon U := by
  unfold canon
  have key : ∀ l : List Str, (∀ d ∈ l, T.lookup d = U.lookup d) → l.filterMap (fun d => (T.lookup d).map fun a => (d, a)) = l.filterMap fun d => (U.lookup d).map fun a => (d, a) := by
    intro l
    induction l with
    | nil => intro _; rfl
    | cons d l ih =>
      intro h
      rw [List.filterMap_cons, List.filterMap_cons, h d List.mem_cons_self, ih fun x hx => h x (List.mem_cons_of_mem _ hx)]
  exact key digs h
theorem sorted_rows {T : List (Str × Str)} (nd : (T.map (·.1)).Nodup) (dg : ∀ p ∈ T, p.1 ∈ digs) : dSorted (.lst (T.map encT)) = some (.l ((canon T).map encT)) := by
  have h1 : (T.map encT).all isPairS = true := List.all_eq_true.mpr fun d hd => by
    obtain ⟨p, _, rfl⟩ := List.mem_map.mp hd
    rfl
  have h2 := sort_is encT (canon_perm nd dg).symm ((canon_lt T).imp fun {p q} h => by
    have n1 : p.1 ≠ q.1 := fun e => h.2 (by rw [e]; exact List.le_refl _)
    have n2 : q.1 ≠ p.1 := fun e => n1 e.symm
    rw [leD_row n1, leD_row n2]
    exact ⟨decide_eq_true h.1, decide_eq_false h.2⟩)
  show (if _ then _ else _) = _
  rw [if_pos (.inr h1), h2]
end Mh
namespace Mh
open PySem L2
/-! ### menus -/
structure Mn where
  name : Str
  rows : List (Str × Act)
  tail : Act
  tries : Nat
  clears : Bool
deriving DecidableEq
structure Mn.Ok (m : Mn) : Prop where
  nm : Nm m.name
  cn : canon m.rows = m.rows
  ac : ∀ p ∈ m.rows, p.2.Ok
  tl : m.tail.Ok
  t1 : 1 ≤ m.tries
  t3 : m.tries ≤ 3
def rowsT (R : List (Str × Act)) : List (Str × Str) := R.map fun p => (p.1, actT p.2)
def encA2 (p : Str × Act) : D := .tup [.str p.1, encA p.2]
def fsMn (m : Mn) : List (Str × M) :=
  [("name", .p (.str m.name)), ("rows", .p (.tup ((rowsT m.rows).map encT))), ("tail", .p (.str (actT m.tail))), ("tries", .p (.int m.tries)), ("clears", .p (.bl m.clears)), ("deeds", .p (.tup (m.rows.map encA2))), ("last", .p (encA m.tail))]
def obMn (m : Mn) : D := .obj 0 (frzF (fsMn m))
@[simp 2000] theorem frz_mn (m : Mn) : frz (.o 0 (fsMn m)) = obMn m := rfl
/-- drawn rows: unlike digits -/
structure Rws (R : List (Str × Act)) : Prop where
  nd : (R.map (·.1)).Nodup
  dg : ∀ p ∈ R, p.1 ∈ digs
  ac : ∀ p ∈ R, p.2.Ok
theorem Rws.len {R : List (Str × Act)} (h : Rws R) : R.length ≤ 10 := by
  rw [← (canon_perm h.nd h.dg).length_eq]
  exact List.length_filterMap_le _ _
theorem Mn.Ok.rws {m : Mn} (h : m.Ok) : Rws m.rows where
  nd := by rw [← h.cn]; exact canon_nd _
  dg := fun p hp => by rw [← h.cn] at hp; exact (canon_mem.mp hp).1
  ac := h.ac
theorem Rws.canon {R : List (Str × Act)} (h : Rws R) : Rws (canon R) where
  nd := canon_nd _
  dg := fun p hp => (canon_mem.mp hp).1
  ac := fun p hp => h.ac p (lookup_mem (canon_mem.mp hp).2)
theorem canon_idem {β : Type} (T : List (Str × β)) : Mh.canon (Mh.canon T) = Mh.canon T := canon_ext fun d hd => canon_lookup hd
/-- the menu of drawn parts -/
def mkMn (nm : Str) (R : List (Str × Act)) (t : Act) (n : Nat) (c : Bool) : Mn := ⟨nm, Mh.canon R, t, n, c⟩
theorem mkMn_ok {nm : Str} {R : List (Str × Act)} {t : Act} {n : Nat} {c : Bool} (h1 : Nm nm) (h2 : Rws R) (h3 : t.Ok) (h4 : 1 ≤ n) (h5 : n ≤ 3) : (mkMn nm R t n c).Ok := ⟨h1, canon_idem R, h2.canon.ac, h3, h4, h5⟩
theorem Mn.Ok.same {m : Mn} (h : m.Ok) : mkMn m.name m.rows m.tail m.tries m.clears = m := by
  unfold mkMn
  rw [h.cn]
theorem rowsT_keys (R : List (Str × Act)) : (rowsT R).map (·.1) = R.map (·.1) := by simp [rowsT]
theorem row_in {p : Str × Act} (h : p.1 ∈ digs) (h2 : p.2.Ok) : ff_is_row [.p (encT (p.1, actT p.2))] = some (.p (.bl true), [none]) := by
  have d1 := digit_in h
  have a1 := act_in h2
  simp [ff_is_row, fnF, b_is_row, encT, kb_tup, atI, ixN, d1, a1, dIsN, encA]
theorem strs_mapD (xs : List Str) : strsD (xs.map D.str) = some xs := by
  induction xs with
  | nil => rfl
  | cons x xs ih => rw [List.map_cons]; show (strsD (xs.map D.str)).map _ = _; rw [ih]; rfl
theorem seq_l (ds : List D) (m : M) (h : frz m = .lst ds) : ff_is_sequence [m] = some (.p (.bl true), [some m]) := by
  simp [ff_is_sequence, fnF, b_is_sequence, kb_ll, kb_lt, h]
theorem seq_t (ds : List D) (m : M) (h : frz m = .tup ds) : ff_is_sequence [m] = some (.p (.bl true), [some m]) := by
  simp [ff_is_sequence, fnF, b_is_sequence, kb_tl, kb_tup, h]
theorem unlike_in {xs : List Str} {m : M} (hm : frz m = .lst (xs.map .str)) (nd : xs.Nodup) (hl : xs.length ≤ 1000) : ff_are_unlike [m] = some (.p (.bl true), [none]) := by
  have su := strs_mapD xs
  have h4 : xs.length ≤ 4000 := by omega
  simp only [ff_are_unlike, fnF, b_are_unlike, List.map_cons, List.map_nil, sRet_ap, f2_ap, xLenSet_ap, xV_ap, List.replicate, List.cons_append, List.nil_append, List.getElem?_cons_zero, Option.bind_some, hm, frz_p, su]
  simp [nd, h4]
theorem rowsT_enc (R : List (Str × Act)) : (rowsT R).map encT = R.map fun p => encT (p.1, actT p.2) := by unfold rowsT; rw [List.map_map]; rfl
theorem rows_in {R : List (Str × Act)} {m : M} (hm : frz m = .lst ((rowsT R).map encT)) (h : Rws R) : ff_are_rows [m] = some (.p (.bl true), [none]) := by
  have hl := h.len
  have l1 : ∀ w0 : Option M, lcF (gSet 1) tfY (xFn ff_is_row [] [none] (aC (xV 1) aN)) [1] (R.map fun p => encT (p.1, actT p.2)) [w0, none] [] = some (R.map fun _ => D.bl true, [w0, none]) := fun w0 =>
    lcF_mp [w0, none] _ _ R (by omega) fun p hp => ⟨_, _, .p (.bl true), [w0, some (.p (encT (p.1, actT p.2)))], rfl, rfl, by simp [row_in (h.dg p hp) (h.ac p hp)], rfl, rfl⟩
  have l2 : ∀ w0 : Option M, lcF (gSet 1) tfY (f2 dIx (xV 1) (xC (.int 0))) [1] (R.map fun p => encT (p.1, actT p.2)) [w0, none] [] = some (R.map fun p => D.str p.1, [w0, none]) := fun w0 =>
    lcF_mp [w0, none] _ _ R (by omega) fun p hp => ⟨_, _, .p (.str p.1), [w0, some (.p (encT (p.1, actT p.2)))], rfl, rfl, by simp [encT, atI, ixN], rfl, rfl⟩
  have un := unlike_in (xs := R.map (·.1)) (m := .l (R.map fun p => D.str p.1)) (by rw [List.map_map]; rfl) h.nd (by simp; omega)
  have sq := seq_l _ (.p (.lst (R.map fun p => encT (p.1, actT p.2)))) rfl
  rw [rowsT_enc] at hm
  simp only [ff_are_rows, fnF, b_are_rows]
  simp [hm, sq, l1, l2, dAll_tt, un]
end Mh
namespace Mh
open PySem L2
theorem int_in (n : Int) : ff_is_integer [.p (.int n)] = some (.p (.bl true), [none]) := by
  simp [ff_is_integer, fnF, b_is_integer, kb_int, kb_ib]
theorem rowsT_mem {R : List (Str × Act)} (h : Rws R) : (∀ p ∈ rowsT R, p.1 ∈ digs) ∧ ((rowsT R).map (·.1)).Nodup := by
  refine ⟨fun p hp => ?_, by rw [rowsT_keys]; exact h.nd⟩
  obtain ⟨q, hq, rfl⟩ := List.mem_map.mp hp
  exact h.dg q hq
theorem init_ok {R : List (Str × Act)} {m : M} {nm : Str} {t : Act} {n : Nat} {c : Bool} (hm : frz m = .lst ((rowsT R).map encT)) (h1 : Nm nm) (h2 : Rws R) (h3 : t.Ok) (h4 : 1 ≤ n) :
    ff_Menu_init [.o 0 [], .p (.str nm), m, .p (.str (actT t)), .p (.int n), .p (.bl c)] = some (.p .non, some (.o 0 (fsMn (mkMn nm R t n c))) :: [none, none, none, none, none]) := by
  have n1 := name_in h1
  have r1 := rows_in (m := .p (.lst ((rowsT R).map encT))) rfl h2
  have a1 := act_in h3
  have i1 := int_in n
  have h5 : ¬ ((n : Int) < 1) := by omega
  have hc := h2.canon
  have hl := hc.len
  obtain ⟨rm1, rm2⟩ := rowsT_mem h2
  have s1 := sorted_rows rm2 rm1
  have cm : canon (rowsT R) = rowsT (canon R) := canon_map actT R
  rw [cm] at s1
  have lc : ∀ w0 w1 w2 w3 w4 w5 : Option M, lcF (gTupF 2 (gsC (gSet 6) (gsC (gSet 7) gsN))) tfY (xCall dTup (aC (xV 6) (aC (xFn ff_action_in [] [none] (aC (xV 7) aN)) aN))) [6, 7] ((rowsT (canon R)).map encT) [w0, w1, w2, w3, w4, w5, none, none] [] = some ((canon R).map encA2, [w0, w1, w2, w3, w4, w5, none, none]) := by
    intro w0 w1 w2 w3 w4 w5
    rw [rowsT_enc]
    refine lcF_mp _ _ _ (canon R) (by omega) fun p hp => ?_
    exact ⟨_, _, .p (encA2 p), [w0, w1, w2, w3, w4, w5, some (.p (.str p.1)), some (.p (.str (actT p.2)))], rfl, rfl, by simp [act_in (hc.ac p hp), dTup, sizeLine_eq, encA2], rfl, rfl⟩
  simp [ff_Menu_init, fnF, b_Menu_init, hm, n1, r1, a1, i1, dIsN, encA, gB, h5, kb_bb, s1, dTuple, slO, putM, pM, lc, fsMn, mkMn, List.lookup]
end Mh
namespace Mh
open PySem L2
/-! ### the text of a menu -/
structure Mn.Raw (m : Mn) : Prop where
  nm : Nm m.name
  rw : Rws m.rows
  tl : m.tail.Ok
  t1 : 1 ≤ m.tries
  t3 : m.tries ≤ 3
theorem Mn.Ok.raw {m : Mn} (h : m.Ok) : m.Raw := ⟨h.nm, h.rws, h.tl, h.t1, h.t3⟩
def Mn.cn (m : Mn) : Mn := { m with rows := canon m.rows }
theorem Mn.Raw.cn {m : Mn} (h : m.Raw) : m.cn.Ok := ⟨h.nm, canon_idem _, h.rw.canon.ac, h.tl, h.t1, h.t3⟩
theorem Mn.Ok.cn_eq {m : Mn} (h : m.Ok) : m.cn = m := by unfold Mn.cn; rw [h.cn]
def headW (m : Mn) : List Str := (("menu" : Str) :: m.name :: ("tries" : Str) :: Str.ofString (toString (m.tries : Int)) :: []) ++ (if m.clears then [("clear" : Str)] else [])
def headL (m : Mn) : Str := Txt.join " " (headW m)
def rowL (p : Str × Act) : Str := p.1 ++ " " ++ actT p.2
def elseL (m : Mn) : Str := "else" ++ " " ++ actT m.tail
def menuL (m : Mn) : List Str := headL m :: (m.rows.map rowL ++ [elseL m])
def menuT (m : Mn) : Str := Txt.join "\n" (menuL m)
theorem tl_sp : TL.tl (" " : Str) = [32] := by decide +kernel
theorem tl_nl : TL.tl ("\n" : Str) = [10] := by decide +kernel
theorem tl_em : TL.tl Str.empty = [] := by decide +kernel
theorem len_of_tl {x : Str} {n : Nat} (h : (TL.tl x).length = n) : x.length = n := by rw [TL.len_tl]; exact h
theorem num_facts {n : Nat} (h1 : 1 ≤ n) (h3 : n ≤ 3) : (Str.ofString (toString (n : Int))).length = 1 ∧ (n : Int).natAbs.log2 < 1920 ∧ (∀ c ∈ TL.tl (Str.ofString (toString (n : Int))), 48 ≤ c ∧ c ≤ 57) := by
  have : n = 1 ∨ n = 2 ∨ n = 3 := by omega
  rcases this with rfl | rfl | rfl <;> decide +kernel
theorem headW_no {m : Mn} (h : m.Raw) {k : Nat} (hk : k < 48) : ∀ w ∈ headW m, k ∉ TL.tl w := by
  have k2 : ∀ w ∈ (["menu", "tries", "clear"] : List Str), ∀ c ∈ TL.tl w, 97 ≤ c := by decide +kernel
  obtain ⟨_, _, k3⟩ := num_facts h.t1 h.t3
  intro w hw hm
  simp only [headW, List.mem_append, List.mem_cons, List.not_mem_nil, or_false] at hw
  rcases hw with (rfl | rfl | rfl | rfl) | hw
  · have := k2 _ (by decide) k hm; omega
  · exact nm_no h.nm (by omega) hm
  · have := k2 _ (by decide) k hm; omega
  · have := k3 k hm; omega
  · split at hw
    · rw [List.mem_singleton] at hw; subst hw; have := k2 _ (by decide) k hm; omega
    · cases hw
theorem headL_split {m : Mn} (h : m.Raw) : Txt.split (headL m) " " = headW m := split_sp (by simp [headW]) (headW_no h (by decide))
theorem headL_nl {m : Mn} (h : m.Raw) : 10 ∉ TL.tl (headL m) := tl_join_no (by decide) (headW_no h (by decide))
theorem rowL_nl {p : Str × Act} (h : p.1 ∈ digs) (h2 : p.2.Ok) : 10 ∉ TL.tl (rowL p) := by
  unfold rowL
  rw [TL.tl_append, TL.tl_append, tl_sp]
  simp only [List.mem_append, not_or]
  refine ⟨⟨fun hm => ?_, by decide⟩, actT_nl h2⟩
  have := digs_no _ h _ hm
  omega
theorem elseL_nl {m : Mn} (h : m.Raw) : 10 ∉ TL.tl (elseL m) := by
  unfold elseL
  rw [TL.tl_append, TL.tl_append, tl_sp]
  simp only [List.mem_append, not_or]
  exact ⟨⟨by decide +kernel, by decide⟩, actT_nl h.tl⟩
theorem menuL_nl {m : Mn} (h : m.Raw) : ∀ l ∈ menuL m, 10 ∉ TL.tl l := by
  intro l hl
  simp only [menuL, List.mem_cons, List.mem_append, List.mem_map, List.not_mem_nil, or_false] at hl
  rcases hl with rfl | ⟨p, hp, rfl⟩ | rfl
  · exact headL_nl h
  · exact rowL_nl (h.rw.dg p hp) (h.rw.ac p hp)
  · exact elseL_nl h
theorem split_nl {ls : List Str} (h0 : ls ≠ []) (h : ∀ l ∈ ls, 10 ∉ TL.tl l) : Txt.split (Txt.join "\n" ls) "\n" = ls :=
  TL.split_join (y := "\n") (s := 10) (S := []) (by decide +kernel) (by decide +kernel) h0 h
theorem headL_len {m : Mn} (h : m.Raw) : (headL m).length ≤ 30 := by
  have e : (headL m).length ≤ ((headW m).map (·.length)).sum + (headW m).length := by
    unfold headL
    rw [TL.join_eq]
    have := PySem.StrLaws.join_length_le " " (headW m)
    have l1 : (" " : Str).length = 1 := by decide
    rw [l1] at this
    omega
  obtain ⟨k1, _, _⟩ := num_facts h.t1 h.t3
  have l1 : ("menu" : Str).length = 4 := by decide
  have l2 : ("tries" : Str).length = 5 := by decide
  have l3 : ("clear" : Str).length = 5 := by decide
  have l4 := h.nm.le
  refine Nat.le_trans e ?_
  unfold headW
  split <;> simp only [List.map_append, List.map_cons, List.map_nil, List.sum_append, List.sum_cons, List.sum_nil, List.length_append, List.length_cons, List.length_nil, l1, l2, l3, k1] <;> omega
theorem rowL_len {p : Str × Act} (h : p.1 ∈ digs) (h2 : p.2.Ok) : (rowL p).length ≤ 16 := by
  unfold rowL
  rw [len_app, len_app]
  have l1 : (" " : Str).length = 1 := by decide
  have := digs_len _ h
  have := actT_len h2
  omega
theorem elseL_len {m : Mn} (h : m.Raw) : (elseL m).length ≤ 20 := by
  unfold elseL
  rw [len_app, len_app]
  have l1 : (" " : Str).length = 1 := by decide
  have l2 : ("else" : Str).length = 4 := by decide
  have := actT_len h.tl
  omega
theorem menuL_len {m : Mn} (h : m.Raw) : ∀ l ∈ menuL m, l.length ≤ 30 := by
  intro l hl
  simp only [menuL, List.mem_cons, List.mem_append, List.mem_map, List.not_mem_nil, or_false] at hl
  rcases hl with rfl | ⟨p, hp, rfl⟩ | rfl
  · exact headL_len h
  · exact Nat.le_trans (rowL_len (h.rw.dg p hp) (h.rw.ac p hp)) (by decide)
  · exact Nat.le_trans (elseL_len h) (by decide)
theorem menuL_cnt {m : Mn} (h : m.Raw) : (menuL m).length ≤ 12 := by
  have := h.rw.len
  simp [menuL]
  omega
theorem sum_len {k : Nat} : ∀ {ls : List Str}, (∀ l ∈ ls, l.length ≤ k) → (ls.map (·.length)).sum ≤ ls.length * k
  | [], _ => by simp
  | l :: ls, h => by
    have h1 := h l List.mem_cons_self
    have h2 := sum_len (ls := ls) fun x hx => h x (List.mem_cons_of_mem _ hx)
    simp only [List.map_cons, List.sum_cons, List.length_cons, Nat.add_mul, Nat.one_mul]
    omega
/-- joined lines -/
theorem dJoin_nl {d : D} {ls : List Str} (hd : seqD d = some (ls.map D.str)) (h : (ls.map (·.length)).sum + ls.length ≤ 1000000) : dJoin (.str "\n") d = some (.p (.str (Txt.join "\n" ls))) := by
  have l1 : ("\n" : Str).length = 1 := by decide
  show (seqD d).bind _ = _
  rw [hd]
  simp only [Option.bind_some, strs_mapD, l1]
  rw [if_pos (by omega)]
theorem dJoin_sp {d : D} {ls : List Str} (hd : seqD d = some (ls.map D.str)) (h : (ls.map (·.length)).sum + ls.length ≤ 1000000) : dJoin (.str " ") d = some (.p (.str (Txt.join " " ls))) := by
  have l1 : (" " : Str).length = 1 := by decide
  show (seqD d).bind _ = _
  rw [hd]
  simp only [Option.bind_some, strs_mapD, l1]
  rw [if_pos (by omega)]
theorem menuL_sum {m : Mn} (h : m.Raw) : ((menuL m).map (·.length)).sum + (menuL m).length ≤ 1000 := by
  have h1 := sum_len (menuL_len h)
  have h2 := menuL_cnt h
  have h3 : (menuL m).length * 30 ≤ 12 * 30 := Nat.mul_le_mul_right _ h2
  omega
end Mh
namespace Mh
open PySem L2
theorem sl_of {n : Nat} (h : n ≤ 1000000) : n ≤ sizeLine := by rw [sizeLine_eq]; omega
theorem sl_lt {n : Nat} (h : n < 1000000) : n < sizeLine := by rw [sizeLine_eq]; omega
theorem lk_name (m : Mn) : dFld 0 "name" (obMn m) = some (.str m.name) := rfl
theorem lk_rows (m : Mn) : dFld 0 "rows" (obMn m) = some (.tup ((rowsT m.rows).map encT)) := rfl
theorem lk_tail (m : Mn) : dFld 0 "tail" (obMn m) = some (.str (actT m.tail)) := rfl
theorem lk_tries (m : Mn) : dFld 0 "tries" (obMn m) = some (.int m.tries) := rfl
theorem lk_clears (m : Mn) : dFld 0 "clears" (obMn m) = some (.bl m.clears) := rfl
theorem lk_deeds (m : Mn) : dFld 0 "deeds" (obMn m) = some (.tup (m.rows.map encA2)) := rfl
theorem lk_last (m : Mn) : dFld 0 "last" (obMn m) = some (encA m.tail) := rfl
theorem em_app (x : Str) : Str.empty ++ x = x := TL.ext_tl (by rw [TL.tl_append, tl_em, List.nil_append])
theorem app_em (x : Str) : x ++ Str.ofString "" = x := TL.ext_tl (by rw [TL.tl_append]; exact List.append_nil _)
theorem app_as (x y z : Str) : x ++ y ++ z = x ++ (y ++ z) := TL.ext_tl (by simp only [TL.tl_append, List.append_assoc])
theorem headL_eq (m : Mn) : headL m = ((("menu " : Str) ++ m.name) ++ " tries ") ++ Str.ofString (toString (m.tries : Int)) ++ (if m.clears then (" clear" : Str) else ("" : Str)) := by
  have a1 : TL.tl ("menu " : Str) = TL.tl ("menu" : Str) ++ [32] := by decide +kernel
  have a2 : TL.tl (" tries " : Str) = [32] ++ TL.tl ("tries" : Str) ++ [32] := by decide +kernel
  have a3 : TL.tl (" clear" : Str) = [32] ++ TL.tl ("clear" : Str) := by decide +kernel
  have a4 : TL.tl ("" : Str) = [] := by decide +kernel
  refine TL.ext_tl ?_
  unfold headL headW
  rw [TL.join_eq, TL.tl_join]
  cases m.clears <;> simp [TL.joinL, TL.tl_append, a1, a2, a3, a4, tl_sp] <;> simp only [← TL.tl.eq_def, a1, a2, a3, a4, tl_sp] <;> simp
theorem str_ok {m : Mn} (h : m.Raw) : ff_Menu_str [.p (obMn m)] = some (.p (.str (menuT m)), [none]) := by
  obtain ⟨g2, g1, _⟩ := num_facts h.t1 h.t3
  have n1 := h.nm.le
  have t1 := actT_len h.tl
  have hl := h.rw.len
  have l1 : ("menu " : Str).length = 5 := by decide
  have l2 : (" tries " : Str).length = 7 := by decide
  have l3 : (" clear" : Str).length = 6 := by decide
  have l4 : ("else " : Str).length = 5 := by decide
  have l5 : (" " : Str).length = 1 := by decide
  have l6 : ("" : Str).length = 0 := by decide
  have e5 : elseL m = ("else " : Str) ++ actT m.tail := by
    have a : (("else" : Str) ++ " ") = "else " := by decide +kernel
    unfold elseL
    rw [a]
  have lc : ∀ w0 w1 w2 : Option M, lcF (gTupF 2 (gsC (gSet 3) (gsC (gSet 4) gsN))) tfY (xJs [(xFmt (xV 3)), (xC (.str " ")), (xFmt (xV 4))]) [3, 4] (m.rows.map fun p => encT (p.1, actT p.2)) [w0, w1, w2, none, none] [] = some (m.rows.map fun p => D.str (rowL p), [w0, w1, w2, none, none]) := by
    intro w0 w1 w2
    refine lcF_mp _ _ _ m.rows (by omega) fun p hp => ?_
    have b1 := digs_len _ (h.rw.dg p hp)
    have b2 := actT_len (h.rw.ac p hp)
    have c1 : p.1.length ≤ sizeLine := sl_of (by omega)
    have c2 : (actT p.2).length ≤ sizeLine := sl_of (by omega)
    have c3 : (p.1 ++ " ").length ≤ sizeLine := sl_of (by rw [len_app, l5]; omega)
    have c4 : (p.1 ++ " " ++ actT p.2).length ≤ sizeLine := sl_of (by rw [len_app, len_app, l5]; omega)
    exact ⟨_, _, .p (.str (rowL p)), [w0, w1, w2, some (.p (.str p.1)), some (.p (.str (actT p.2)))], rfl, rfl, by simp [jsF, dFmt, em_app, c1, c2, c3, c4, rowL], rfl, rfl⟩
  have hj := dJoin_nl (d := .lst (D.str (headL m) :: (m.rows.map (fun p => D.str (rowL p)) ++ [D.str (elseL m)]))) (ls := menuL m) (by simp [seqD, menuL, Function.comp_def]) (by have := menuL_sum h; omega)
  have hh : xJs [(xC (.str "menu ")), (xFmt (xFld 0 "name" (xV 0))), (xC (.str " tries ")), (xFmt (xFld 0 "tries" (xV 0)))] [some (.p (obMn m)), none, none, none, none] = some (.p (.str (((("menu " : Str) ++ m.name) ++ " tries ") ++ Str.ofString (toString (m.tries : Int)))), [some (.p (obMn m)), none, none, none, none]) := by
    have c1 : m.name.length ≤ sizeLine := sl_of (by omega)
    have c2 : ("menu " : Str).length ≤ sizeLine := sl_of (by rw [l1]; omega)
    have c3 : (("menu " : Str) ++ m.name).length ≤ sizeLine := sl_of (by rw [len_app, l1]; omega)
    have c4 : (("menu " : Str) ++ m.name ++ " tries ").length ≤ sizeLine := sl_of (by rw [len_app, len_app, l1, l2]; omega)
    have c5 : (("menu " : Str) ++ m.name ++ " tries " ++ Str.ofString (toString (m.tries : Int))).length ≤ sizeLine := sl_of (by rw [len_app, len_app, len_app, l1, l2, g2]; omega)
    have g3 : m.tries.log2 < 1920 := by simpa using g1
    rw [show (toString (m.tries : Int) : String) = (m.tries : Int).repr from rfl] at c5
    simp [jsF, dFmt, em_app, c1, c2, c3, c4, lk_name, lk_tries, g3, c5]
  have hd : sSet 1 (f2M dAddA (xJs [(xC (.str "menu ")), (xFmt (xFld 0 "name" (xV 0))), (xC (.str " tries ")), (xFmt (xFld 0 "tries" (xV 0)))]) (xIf (fB (xFld 0 "clears" (xV 0))) (xC (.str " clear")) (xC (.str "")))) [some (.p (obMn m)), none, none, none, none] = some (.nx, [some (.p (obMn m)), some (.p (.str (headL m))), none, none, none]) := by
    have c5 : (("menu " : Str) ++ m.name ++ " tries " ++ Str.ofString (toString (m.tries : Int))).length ≤ 20 := by rw [len_app, len_app, len_app, l1, l2, g2]; omega
    have c6 : (("menu " : Str) ++ m.name ++ " tries " ++ Str.ofString (toString (m.tries : Int))).length + (" clear" : Str).length ≤ sizeLine := sl_of (by rw [l3]; omega)
    have c7 : (("menu " : Str) ++ m.name ++ " tries " ++ Str.ofString (toString (m.tries : Int))).length + ("" : Str).length ≤ sizeLine := sl_of (by rw [l6]; omega)
    rw [headL_eq]
    generalize ("menu " : Str) ++ m.name ++ " tries " ++ Str.ofString (toString (m.tries : Int)) = z at *
    rw [sSet_ap, f2M_ap, hh]
    cases hc : m.clears <;> simp [lk_clears, hc, c6, c7]
  have he : xJs [(xC (.str "else ")), (xFmt (xFld 0 "tail" (xV 0)))] = fun ms => xJs [(xC (.str "else ")), (xFmt (xFld 0 "tail" (xV 0)))] ms := rfl
  have c8 : (actT m.tail).length ≤ sizeLine := sl_of (by omega)
  have c9 : ("else " : Str).length ≤ sizeLine := sl_of (by rw [l4]; omega)
  have c10 : (("else " : Str) ++ actT m.tail).length ≤ sizeLine := sl_of (by rw [len_app, l4]; omega)
  have c11 : m.rows.length + 1 + 1 ≤ sizeLine := sl_of (by omega)
  rw [e5] at hj
  simp only [ff_Menu_str, fnF, b_Menu_str, List.map_cons, List.map_nil, List.replicate, List.cons_append, List.nil_append, Nat.reduceSub, sSeq_ap, hd, Option.bind_some]
  simp [lk_rows, rowsT_enc, lc, jsF, dFmt, lk_tail, em_app, c8, c9, c10, dLst, c11, isStrD, Function.comp_def, hj, menuT]
end Mh
namespace Mh
open PySem L2
/-! ### == of menus, actions of digits -/
theorem strO_ok {m : Mn} (h : m.Raw) : dStrO ff_Menu_str 0 (obMn m) = some (.p (.str (menuT m))) := by
  show (ff_Menu_str [.p (obMn m)]).bind _ = _
  rw [str_ok h]; rfl
theorem eq_mn {a b : Mn} (ha : a.Raw) (hb : b.Raw) : ff_Menu_eq [.p (obMn a), .p (obMn b)] = some (.p (.bl (decide (menuT a = menuT b))), [none, none]) := by
  have i1 : isoD 0 (obMn b) = some true := rfl
  simp [ff_Menu_eq, fnF, b_Menu_eq, i1, strO_ok ha, strO_ok hb]
theorem eq_self {a : Mn} (ha : a.Raw) : ff_Menu_eq [.p (obMn a), .p (obMn a)] = some (.p (.bl true), [none, none]) := by
  rw [eq_mn ha ha]; simp
theorem eq_text {m : Mn} (z : Str) : ff_Menu_eq [.p (obMn m), .p (.str z)] = some (.p (.bl false), [none, none]) := by
  have i1 : isoD 0 (.str z) = some false := rfl
  simp [ff_Menu_eq, fnF, b_Menu_eq, i1]
def optD : Option Act → D
  | none => .non
  | some a => .str (actT a)
theorem act_loop {o : D} {z : Str} : ∀ (rows : List (Str × Act)) (w1 w2 : Option M), ∃ w3 w4, forF (gTupF 2 (gsC (gSet 2) (gsC (gSet 3) gsN))) (sIf (fB (f2 (dEqX ff_Menu_eq 0) (xV 2) (xV 1))) (sRet (xV 3)) sNx) (rows.map fun p => encT (p.1, actT p.2)) [some (.p o), some (.p (.str z)), w1, w2] =
    some (match rows.lookup z with | some a => (.rt (.p (.str (actT a))), [some (.p o), some (.p (.str z)), w3, w4]) | none => (.nx, [some (.p o), some (.p (.str z)), w3, w4]))
  | [], w1, w2 => ⟨w1, w2, rfl⟩
  | (k, a) :: rows, w1, w2 => by
    by_cases h : k = z
    · subst h
      exact ⟨some (.p (.str k)), some (.p (.str (actT a))), by simp [forF, encT, dEqX]⟩
    · have h2 : (z == k) = false := by simpa using fun e : z = k => h e.symm
      obtain ⟨w3, w4, e⟩ := act_loop rows (some (.p (.str k))) (some (.p (.str (actT a))))
      refine ⟨w3, w4, ?_⟩
      rw [List.lookup_cons, h2]
      simpa [forF, encT, dEqX, h] using e
theorem action_str (m : Mn) (z : Str) : ff_Menu_action [.p (obMn m), .p (.str z)] = some (.p (optD (m.rows.lookup z)), [none, none]) := by
  obtain ⟨w3, w4, e⟩ := act_loop (o := obMn m) (z := z) m.rows none none
  cases h : m.rows.lookup z with
  | none =>
    rw [h] at e
    simp [ff_Menu_action, fnF, b_Menu_action, List.replicate, lk_rows, rowsT_enc, e, optD]
  | some a =>
    rw [h] at e
    simp [ff_Menu_action, fnF, b_Menu_action, List.replicate, lk_rows, rowsT_enc, e, optD]
/-- a value that is no digit -/
theorem act_odd {o d : D} : ∀ (rows : List (Str × Act)) (w1 w2 : Option M), (∀ p ∈ rows, dEqX ff_Menu_eq 0 (.str p.1) d = some (.bl false)) → ∃ w3 w4, forF (gTupF 2 (gsC (gSet 2) (gsC (gSet 3) gsN))) (sIf (fB (f2 (dEqX ff_Menu_eq 0) (xV 2) (xV 1))) (sRet (xV 3)) sNx) (rows.map fun p => encT (p.1, actT p.2)) [some (.p o), some (.p d), w1, w2] =
    some (.nx, [some (.p o), some (.p d), w3, w4])
  | [], w1, w2, _ => ⟨w1, w2, rfl⟩
  | (k, a) :: rows, w1, w2, hr => by
    obtain ⟨w3, w4, e⟩ := act_odd (o := o) (d := d) rows (some (.p (.str k))) (some (.p (.str (actT a)))) fun p hp => hr p (List.mem_cons_of_mem _ hp)
    have hk := hr (k, a) List.mem_cons_self
    refine ⟨w3, w4, ?_⟩
    simpa [forF, encT, hk] using e
theorem action_odd {m : Mn} {d : D} (h : ∀ p ∈ m.rows, dEqX ff_Menu_eq 0 (.str p.1) d = some (.bl false)) : ff_Menu_action [.p (obMn m), .p d] = some (.p .non, [none, none]) := by
  obtain ⟨w3, w4, e⟩ := act_odd (o := obMn m) (d := d) m.rows none none h
  simp [ff_Menu_action, fnF, b_Menu_action, List.replicate, lk_rows, rowsT_enc, e]
end Mh
namespace Mh
open PySem L2
/-! ### reading -/
theorem rngD_succ (i : Int) (n : Nat) : rngD i (n + 1) = .int i :: rngD (i + 1) n := by
  unfold rngD
  rw [List.range_succ_eq_map]
  simp only [List.map_cons, List.map_map]
  congr 1
  · simp
  · refine List.map_congr_left fun k _ => ?_
    simp only [Function.comp_apply, D.int.injEq, Nat.succ_eq_add_one, Int.natCast_add, Int.natCast_one]
    omega
theorem rngD_zero (i : Int) : rngD i 0 = [] := rfl
theorem atI_nat {α : Type} (xs : List α) (i : Nat) : atI xs (i : Int) = xs[i]? := by
  unfold atI ixN
  rw [if_pos (Int.natCast_nonneg i)]
  by_cases h : i < xs.length
  · rw [if_pos (by omega)]; simp
  · rw [if_neg (by omega), List.getElem?_eq_none (by omega)]; rfl
theorem num_in {n : Nat} (h1 : 1 ≤ n) (h3 : n ≤ 3) : ff_number_in [.p (.str (Str.ofString (toString (n : Int))))] = some (.p (.int n), [none]) := by
  have key : ∀ (r : Option (M × En)) (i : Int), (match r with | some (.p (.int j), [none]) => decide (j = i) | _ => false) = true → r = some (.p (.int i), [none]) := by
    intro r i h
    split at h
    · rw [of_decide_eq_true h]
    · cases h
  have : n = 1 ∨ n = 2 ∨ n = 3 := by omega
  rcases this with rfl | rfl | rfl <;> exact key _ _ (by decide +kernel)
theorem head_in {m : Mn} (h : m.Raw) : ff_head_in [.p (.str (headL m))] = some (.p (.tup [.str m.name, .int m.tries, .bl m.clears]), [none]) := by
  have sp := dSplit_sp (headL m) (by have := headL_len h; omega)
  rw [headL_split h] at sp
  have n1 := name_in h.nm
  have n2 := num_in h.t1 h.t3
  rw [show (toString (m.tries : Int) : String) = (m.tries : Int).repr from rfl] at n2
  unfold headW at sp
  rw [show (toString (m.tries : Int) : String) = (m.tries : Int).repr from rfl] at sp
  cases hc : m.clears <;> rw [hc] at sp <;> simp at sp <;>
    simp [ff_head_in, fnF, b_head_in, isStrD, sp, atI, ixN, n1, n2, dIsN, dTup, sizeLine_eq]
theorem part_row {p : Str × Act} (h : p.1 ∈ digs) (h2 : p.2.Ok) : dPart (.str (rowL p)) (.str " ") = some (.p (.tup [.str p.1, .str " ", .str (actT p.2)])) := by
  have hl : (rowL p).length ≤ sizeLine := sl_of (by have := rowL_len h h2; omega)
  have e := TL.partition_app (y := " ") (s := 32) (S := []) tl_sp (a := p.1) (b := actT p.2) (fun hm => by have := digs_no _ h _ hm; omega)
  have : ((" " : Str).length == 0) = false ∧ (rowL p).length ≤ sizeLine := ⟨by decide, hl⟩
  refine (if_pos this).trans ?_
  unfold rowL
  rw [e]
theorem part_else {m : Mn} (h : m.Raw) : dPart (.str (elseL m)) (.str " ") = some (.p (.tup [.str "else", .str " ", .str (actT m.tail)])) := by
  have hl : (elseL m).length ≤ sizeLine := sl_of (by have := elseL_len h; omega)
  have e := TL.partition_app (y := " ") (s := 32) (S := []) tl_sp (a := "else") (b := actT m.tail) (by decide +kernel)
  have : ((" " : Str).length == 0) = false ∧ (elseL m).length ≤ sizeLine := ⟨by decide, hl⟩
  refine (if_pos this).trans ?_
  unfold elseL
  rw [e]
theorem digs_else : ∀ d ∈ digs, d ≠ "else" := by decide
/-- what told_in tells of a menu -/
def toldM (m : Mn) : D := .tup [.str m.name, .lst ((rowsT m.rows).map encT), .str (actT m.tail), .int m.tries, .bl m.clears]
/-- the body of told_in's loop -/
def bTold : SF := (sSeq (sAsg (xM1 dPart (f2 dIx (xV 0) (xV 4)) (xC (.str " "))) (gTupF 3 (gsC (gSet 5) (gsC (gSet 6) (gsC (gSet 7) gsN)))))
  (sSeq (sIf (tfOr (fB (f2 (dIsN false) (xFn ff_action_in [] [none] (aC (xV 7) aN)) (xC .non))) (tfAnd (fB (f2 (dEq true) (xV 5) (xC (.str "else")))) (tfNot (fB (xFn ff_is_digit [] [none] (aC (xV 5) aN)))))) sNo sNx)
  (sSeq (sIf (fB (f2 (dEq false) (xV 5) (xC (.str "else")))) (sRet (xCall dTup (aC (xCall dTup (aC (f2 dIx (xV 2) (xC (.int 0))) (aC (xV 3) (aC (xV 7) (aC (f2 dIx (xV 2) (xC (.int 1))) (aC (f2 dIx (xV 2) (xC (.int 2))) aN)))))) (aC (f2M dAddA (xV 4) (xC (.int 1))) aN)))) sNx)
  (sSeq (sIf (fB (f2 (dInA false) (xV 5) (xLcO 3 (gSet 8) tfY (f2 dIx (xV 8) (xC (.int 0))) [8]))) sNo sNx)
  (sEx (xApp 3 (xCall dTup (aC (xV 5) (aC (xV 7) aN)))))))))
theorem told_row {ls : List D} {w1 w2 w4 w5 w6 w7 : Option M} {done : List (Str × Act)} {p : Str × Act} {i : Nat} (hd : Rws (done ++ [p])) (hi : ls[i]? = some (.str (rowL p))) :
    ∃ v4 v5 v6 v7, bTold [some (.p (.lst ls)), w1, w2, some (.l (done.map fun q => encT (q.1, actT q.2))), some (.p (.int i)), w5, w6, w7, none] = some (.nx, [some (.p (.lst ls)), w1, w2, some (.l ((done ++ [p]).map fun q => encT (q.1, actT q.2))), v4, v5, v6, v7, none]) := by
  have hp : p ∈ done ++ [p] := by simp
  have dg := hd.dg p hp
  have ac := hd.ac p hp
  have hl := hd.len
  have a1 := act_in ac
  have d1 := digit_in dg
  have pr := part_row dg ac
  have ne := digs_else _ dg
  have at1 : atI ls (i : Int) = some (.str (rowL p)) := by rw [atI_nat, hi]
  have lc : ∀ w0 w1 w2 w4 w5 w6 w7 : Option M, lcF (gSet 8) tfY (f2 dIx (xV 8) (xC (.int 0))) [8] (done.map fun q => encT (q.1, actT q.2)) [w0, w1, w2, none, w4, w5, w6, w7, none] [] = some (done.map fun q => D.str q.1, [w0, w1, w2, none, w4, w5, w6, w7, none]) := by
    intro w0 w1 w2 w4 w5 w6 w7
    refine lcF_mp _ _ _ done (by simp at hl; omega) fun q hq => ?_
    exact ⟨_, _, .p (.str q.1), [w0, w1, w2, none, w4, w5, w6, w7, some (.p (encT (q.1, actT q.2)))], rfl, rfl, by simp [encT, atI, ixN], rfl, rfl⟩
  have nin : p.1 ∉ done.map (·.1) := by
    have := hd.nd
    rw [List.map_append, List.nodup_append] at this
    exact fun hm => this.2.2 _ hm _ (by simp) rfl
  have inn := dInA_strs p.1 (done.map (·.1)) false (d := .lst (done.map fun q => D.str q.1)) (by simp [seqD, Function.comp_def])
  simp only [nin, decide_false] at inn
  have hs : done.length < 16777216 := by simp at hl; omega
  refine ⟨some (.p (.int i)), some (.p (.str p.1)), some (.p (.str " ")), some (.p (.str (actT p.2))), ?_⟩
  have is : isStrD (.str (rowL p)) = true := rfl
  have ee : D.tup [.str p.1, .str (actT p.2)] = encT (p.1, actT p.2) := rfl
  unfold bTold
  simp [at1, pr, is, a1, d1, ne, dIsN, encA, slL, lc, inn, hs, dTup, sizeLine_eq, ee]
theorem told_else {ls : List D} {w1 w5 w6 w7 w8 : Option M} {m : Mn} {i : Nat} (h : m.Raw) (hi : ls[i]? = some (.str (elseL m))) :
    ∃ ms', bTold [some (.p (.lst ls)), w1, some (.p (.tup [.str m.name, .int m.tries, .bl m.clears])), some (.l (m.rows.map fun q => encT (q.1, actT q.2))), some (.p (.int i)), w5, w6, w7, w8] = some (.rt (.p (.tup [toldM m, .int (i + 1 : Nat)])), ms') ∧ ms'.length = 9 := by
  have a1 := act_in h.tl
  have pr := part_else h
  have at1 : atI ls (i : Int) = some (.str (elseL m)) := by rw [atI_nat, hi]
  have is : isStrD (.str (elseL m)) = true := rfl
  refine ⟨[some (.p (.lst ls)), w1, some (.p (.tup [.str m.name, .int m.tries, .bl m.clears])), some (.p (.lst (m.rows.map fun q => encT (q.1, actT q.2)))), some (.p (.int i)), some (.p (.str "else")), some (.p (.str " ")), some (.p (.str (actT m.tail))), w8], ?_, rfl⟩
  unfold bTold
  simp [at1, pr, is, a1, dIsN, encA, dTup, sizeLine_eq, atI_nat, toldM, rowsT_enc]
  simp [atI, ixN]
theorem told_loop {ls : List D} {w1 : Option M} {m : Mn} (h : m.Raw) : ∀ (todo done : List (Str × Act)) (i k : Nat) (w4 w5 w6 w7 : Option M), m.rows = done ++ todo → (∀ j, ∀ p, todo[j]? = some p → ls[i + j]? = some (.str (rowL p))) → ls[i + todo.length]? = some (.str (elseL m)) →
    ∃ ms', forF (gSet 4) bTold (rngD (i : Int) (todo.length + 1 + k)) [some (.p (.lst ls)), w1, some (.p (.tup [.str m.name, .int m.tries, .bl m.clears])), some (.l (done.map fun q => encT (q.1, actT q.2))), w4, w5, w6, w7, none] = some (.rt (.p (.tup [toldM m, .int (i + todo.length + 1 : Nat)])), ms') ∧ ms'.length = 9
  | [], done, i, k, w4, w5, w6, w7, e, _, h2 => by
    rw [List.append_nil] at e
    obtain ⟨ms', r, ln⟩ := told_else (w1 := w1) (w5 := w5) (w6 := w6) (w7 := w7) (w8 := none) h h2
    rw [e] at r
    refine ⟨ms', ?_, ln⟩
    rw [List.length_nil, show 0 + 1 + k = k + 1 from by omega, rngD_succ]
    simp only [List.length_nil, Nat.add_zero] at r
    simp [forF, r]
  | p :: todo, done, i, k, w4, w5, w6, w7, e, h1, h2 => by
    have hd : Rws (done ++ [p]) := by
      have hr := h.rw
      rw [e] at hr
      refine ⟨?_, fun q hq => hr.dg q ?_, fun q hq => hr.ac q ?_⟩
      · have := hr.nd
        rw [show done ++ p :: todo = (done ++ [p]) ++ todo from by simp, List.map_append, List.nodup_append] at this
        exact this.1
      · rcases List.mem_append.mp hq with q1 | q1
        · exact List.mem_append_left _ q1
        · rw [List.mem_singleton.mp q1]; simp
      · rcases List.mem_append.mp hq with q1 | q1
        · exact List.mem_append_left _ q1
        · rw [List.mem_singleton.mp q1]; simp
    obtain ⟨v4, v5, v6, v7, r⟩ := told_row (w1 := w1) (w2 := some (.p (.tup [.str m.name, .int m.tries, .bl m.clears]))) (w4 := none) (w5 := w5) (w6 := w6) (w7 := w7) hd (h1 0 p rfl)
    obtain ⟨ms', r2, ln⟩ := told_loop (w1 := w1) h todo (done ++ [p]) (i + 1) k v4 v5 v6 v7 (by rw [e]; simp) (fun j q hq => by
      have := h1 (j + 1) q (by simpa using hq)
      rw [show i + 1 + j = i + (j + 1) from by omega]; exact this) (by
      rw [show i + 1 + todo.length = i + (p :: todo).length from by simp; omega]; exact h2)
    refine ⟨ms', ?_, ln⟩
    rw [List.length_cons, show todo.length + 1 + 1 + k = (todo.length + 1 + k) + 1 from by omega, rngD_succ]
    rw [show i + (todo.length + 1) + 1 = i + 1 + todo.length + 1 from by omega]
    have ei : ((i : Int) + 1) = ((i + 1 : Nat) : Int) := by omega
    rw [ei]
    simp only [Nat.add_zero] at r
    simp [forF, r]
    simpa using r2
/-- told_in: the menu that begins at a line -/
theorem told_ok {ls : List Str} {m : Mn} {b : Nat} (h : m.Raw) (hb : ∀ j l, (menuL m)[j]? = some l → ls[b + j]? = some l) (hl : ls.length ≤ 1000) :
    ff_told_in [.p (.lst (ls.map .str)), .p (.int b)] = some (.p (.tup [toldM m, .int (b + (menuL m).length : Nat)]), [none, none]) := by
  have hb' : ∀ j l, (menuL m)[j]? = some l → (ls.map D.str)[b + j]? = some (.str l) := fun j l e => by
    rw [List.getElem?_map, hb j l e]; rfl
  have el : (menuL m).length = m.rows.length + 2 := by simp [menuL]
  have at0 : atI (ls.map D.str) (b : Int) = some (.str (headL m)) := by rw [atI_nat]; exact hb' 0 _ rfl
  have hlast : ls[b + (m.rows.length + 1)]? = some (elseL m) := hb _ _ (by simp [menuL])
  have hlen : b + (m.rows.length + 1) < ls.length := (List.getElem?_eq_some_iff.mp hlast).1
  obtain ⟨ms', r, ln⟩ := told_loop (ls := ls.map D.str) (w1 := some (.p (.int b))) h m.rows [] (b + 1) (ls.length - (b + 1) - (m.rows.length + 1)) none none none none (by simp) (fun j p hp => by
    rw [show b + 1 + j = b + (j + 1) from by omega]
    refine hb' _ _ ?_
    have hj : j < m.rows.length := (List.getElem?_eq_some_iff.mp hp).1
    simp only [menuL, List.getElem?_cons_succ]
    rw [List.getElem?_append_left (by simpa using hj), List.getElem?_map, hp]; rfl) (by
    rw [show b + 1 + m.rows.length = b + (m.rows.length + 1) from by omega, List.getElem?_map, hlast]; rfl)
  rw [show m.rows.length + 1 + (ls.length - (b + 1) - (m.rows.length + 1)) = ls.length - (b + 1) from by omega] at r
  have hh := head_in h
  have c1 : ¬ (((ls.length : Nat) : Int) ≤ (b : Int)) := by omega
  have it : iR2 (aC (f2M dAddA (xV 1) (xC (.int 1))) (aC (xCall (o1 dLen) (aC (xV 0) aN)) aN)) [some (.p (.lst (ls.map .str))), some (.p (.int b)), some (.p (.tup [.str m.name, .int m.tries, .bl m.clears])), some (.l []), none, none, none, none, none] =
      some (rngD ((b + 1 : Nat) : Int) (ls.length - (b + 1)), [some (.p (.lst (ls.map .str))), some (.p (.int b)), some (.p (.tup [.str m.name, .int m.tries, .bl m.clears])), some (.l []), none, none, none, none, none]) :=
    iR2_of (by simp) (by omega) (by omega)
  have ee : ff_told_in = fnF 9 2 [] (sSeq (sIf (fB (f2 dGe (xV 1) (xCall (o1 dLen) (aC (xV 0) aN)))) sNo sNx)
    (sSeq (sPar 2 3 (xFn ff_head_in [] [none] (aC (f2 dIx (xV 0) (xV 1)) aN)) (xCall dLst aN))
    (sSeq (sIf (fB (f2 (dIsN false) (xV 2) (xC .non))) sNo sNx)
    (sSeq (sFor (iR2 (aC (f2M dAddA (xV 1) (xC (.int 1))) (aC (xCall (o1 dLen) (aC (xV 0) aN)) aN))) (gSet 4) bTold) sNo)))) := rfl
  rw [show b + 1 + m.rows.length + 1 = b + (menuL m).length from by omega] at r
  simp only [List.map_nil] at r
  simp only [Int.natCast_add, Int.natCast_one] at r it
  rw [ee]
  simp [fnF, gB, c1, at0, hh, dLst, dIsN, it, r]
  match ms', ln with
  | _ :: _ :: _, _ => rfl
end Mh
namespace Mh
open PySem L2
theorem mk_mn {m : Mn} (h : m.Raw) {r : M} (hr : frz r = .lst ((rowsT m.rows).map encT)) (ms : En) : mkG ff_Menu_init 0 [.p (.str m.name), r, .p (.str (actT m.tail)), .p (.int m.tries), .p (.bl m.clears)] ms = some (.o 0 (fsMn m.cn), ms) := by
  unfold mkG
  rw [init_ok hr h.nm h.rw h.tl h.t1]
  rfl
theorem menuT_split {m : Mn} (h : m.Raw) : Txt.split (menuT m) "\n" = menuL m := split_nl (by simp [menuL]) (menuL_nl h)
theorem menuT_len {m : Mn} (h : m.Raw) : (menuT m).length ≤ 1000 := by
  have e := PySem.StrLaws.join_length_le "\n" (menuL m)
  have l1 : ("\n" : Str).length = 1 := by decide
  rw [l1] at e
  have := menuL_sum h
  unfold menuT
  rw [TL.join_eq]
  omega
theorem read_ok {m : Mn} (h : m.Raw) : ff_Menu_read [.p (.cls 0), .p (.str (menuT m))] = some (.o 0 (fsMn m.cn), [none, none]) := by
  have hl := menuT_len h
  have sp : dSplit (.str (menuT m)) (.str "\n") = some (.l ((menuL m).map .str)) := by
    have : (("\n" : Str).length == 0) = false ∧ (menuT m).length + 2 ≤ sizeLine := ⟨by decide, sl_of (by omega)⟩
    refine (if_pos this).trans ?_
    rw [menuT_split h]
  have to := told_ok (ls := menuL m) (m := m) (b := 0) h (fun j l e => by rw [Nat.zero_add]; exact e) (by have := menuL_cnt h; omega)
  rw [Nat.zero_add, show ((0 : Nat) : Int) = 0 from rfl] at to
  have mk := fun ms => mk_mn h (r := .p (.lst ((rowsT m.rows).map encT))) rfl ms
  have is : isStrD (.str (menuT m)) = true := rfl
  simp [ff_Menu_read, fnF, b_Menu_read, kb_str, is, sp, to, toldM, gB, mk]
end Mh
namespace Mh
open PySem L2
/-! ### draws: actions, menus -/
def lns : List Str := ["cash", "desk", "a", "x"]
theorem lns_nm : ∀ x ∈ lns, Nm x := by decide +kernel
structure Drawn (names : List Str) (a : Act) : Prop where
  nms : ∀ z ∈ a.nms, z ∈ names
  ln : ∀ x, a = .line x → x ∈ lns
theorem Drawn.ok {names : List Str} {a : Act} (h : Drawn names a) (hs : ∀ x ∈ names, Nm x) : a.Ok := by
  intro z hz
  cases a with
  | line x => rw [show z = x from by simpa [Act.args] using hz]; exact lns_nm _ (h.ln x rfl)
  | go n => exact hs _ (h.nms z hz)
  | call n t => exact hs _ (h.nms z hz)
  | _ => cases hz
theorem one_str {b : List D} {xs : List Str} {m : M} (hm : frz m = .lst (xs.map .str)) (h : Box b) (hn : xs ≠ []) (hn2 : xs.length < 1000) : ∃ x b', Box b' ∧ x ∈ xs ∧ ff_law_one_of [.l b, m] = some (.p (.str x), [some (.l b'), none]) := by
  have h0 : 0 < xs.length := List.length_pos_iff.mpr hn
  obtain ⟨d, b', hb, hd, e⟩ := one_of_ok (ds := xs.map D.str) hm h (by simpa using h0) (by simp; omega)
  obtain ⟨x, hx, rfl⟩ := List.mem_map.mp hd
  exact ⟨x, b', hb, hx, e⟩
theorem deed_ok {b : List D} {names : List Str} (h : Box b) (hn : names ≠ []) (hl : names.length < 1000) :
    ∃ a b', Box b' ∧ Drawn names a ∧ ff_law_deed [.l b, .p (.lst (names.map .str))] = some (.p (encA a), [some (.l b'), none]) := by
  obtain ⟨r, b1, hb1, h0, h1, e⟩ := choose_ok (n := 11) h (by decide) (by decide)
  by_cases c2 : r < 2
  · obtain ⟨x, b2, hb2, hx, e2⟩ := one_str (xs := lns) (m := .l (lns.map .str)) rfl hb1 (by decide) (by decide)
    refine ⟨.line x, b2, hb2, ⟨fun z hz => (by cases hz), fun y e => (by cases e; exact hx)⟩, ?_⟩
    have e3 : lns.map D.str = [.str "cash", .str "desk", .str "a", .str "x"] := rfl
    rw [e3] at e2
    simp [ff_law_deed, fnF, b_law_deed, List.replicate, e, gB, c2, dLst, dTup, sizeLine_eq, e2, encA, Act.ws]
  · by_cases c4 : r < 4
    · obtain ⟨x, b2, hb2, hx, e2⟩ := one_str (xs := names) (m := .p (.lst (names.map .str))) rfl hb1 hn hl
      refine ⟨.go x, b2, hb2, ⟨fun z hz => by rw [show z = x from by simpa [Act.nms] using hz]; exact hx, fun y e => by cases e⟩, ?_⟩
      simp [ff_law_deed, fnF, b_law_deed, List.replicate, e, gB, c2, c4, dLst, dTup, sizeLine_eq, e2, encA, Act.ws]
    · by_cases c7 : r < 7
      · obtain ⟨x, b2, hb2, hx, e2⟩ := one_str (xs := names) (m := .p (.lst (names.map .str))) rfl hb1 hn hl
        obtain ⟨y, b3, hb3, hy, e3⟩ := one_str (xs := names) (m := .p (.lst (names.map .str))) rfl hb2 hn hl
        refine ⟨.call x y, b3, hb3, ⟨fun z hz => by
          rcases (show z = x ∨ z = y from by simpa [Act.nms] using hz) with rfl | rfl
          · exact hx
          · exact hy, fun y e => by cases e⟩, ?_⟩
        simp [ff_law_deed, fnF, b_law_deed, List.replicate, e, gB, c2, c4, c7, dLst, dTup, sizeLine_eq, e2, e3, encA, Act.ws]
      · have hr : r = 7 ∨ r = 8 ∨ r = 9 ∨ r = 10 := by omega
        rcases hr with rfl | rfl | rfl | rfl
        · exact ⟨.back, b1, hb1, ⟨fun z hz => (by cases hz), fun y e => by cases e⟩, by simp [ff_law_deed, fnF, b_law_deed, List.replicate, e, gB, gI, dLst, dTup, sizeLine_eq, atI, ixN, encA, Act.ws]⟩
        · exact ⟨.back, b1, hb1, ⟨fun z hz => (by cases hz), fun y e => by cases e⟩, by simp [ff_law_deed, fnF, b_law_deed, List.replicate, e, gB, gI, dLst, dTup, sizeLine_eq, atI, ixN, encA, Act.ws]⟩
        · exact ⟨.again, b1, hb1, ⟨fun z hz => (by cases hz), fun y e => by cases e⟩, by simp [ff_law_deed, fnF, b_law_deed, List.replicate, e, gB, gI, dLst, dTup, sizeLine_eq, atI, ixN, encA, Act.ws]⟩
        · exact ⟨.main, b1, hb1, ⟨fun z hz => (by cases hz), fun y e => by cases e⟩, by simp [ff_law_deed, fnF, b_law_deed, List.replicate, e, gB, gI, dLst, dTup, sizeLine_eq, atI, ixN, encA, Act.ws]⟩
theorem perm_map {α β : Type} (f : α → β) {ys : List β} {zs : List β} (h : ys.Perm zs) : ∀ {l : List α}, zs = l.map f → ∃ l' : List α, ys = l'.map f ∧ l'.Perm l := by
  induction h with
  | nil => intro l e; exact ⟨[], rfl, by cases l with | nil => exact .refl _ | cons => cases e⟩
  | cons x p ih =>
    intro l e
    cases l with
    | nil => cases e
    | cons a l =>
      cases e
      obtain ⟨l', e1, p1⟩ := ih rfl
      exact ⟨a :: l', by rw [e1]; rfl, p1.cons a⟩
  | swap x y l0 =>
    intro l e
    cases l with
    | nil => cases e
    | cons a l =>
      cases l with
      | nil => cases e
      | cons c l =>
        cases e
        exact ⟨c :: a :: l, rfl, .swap _ _ _⟩
  | trans p q i1 i2 =>
    intro l e
    obtain ⟨l1, e1, p1⟩ := i2 e
    obtain ⟨l2, e2, p2⟩ := i1 e1
    exact ⟨l2, e2, p2.trans p1⟩
theorem cutG_sub {α : Type} (xs : List α) (lo hi : Option Int) : (cutG xs lo hi).Sublist xs := by
  unfold cutG
  exact (List.take_sublist _ _).trans (List.drop_sublist _ _)
theorem cutG_map {α β : Type} (f : α → β) (xs : List α) (lo hi : Option Int) : cutG (xs.map f) lo hi = (cutG xs lo hi).map f := by
  unfold cutG
  simp [List.map_take, List.map_drop]
def dgs : List Str := ["0", "1", "2", "3", "4", "5", "9"]
theorem dgs_digs : ∀ x ∈ dgs, x ∈ digs := by decide
theorem chars_dgs : chars "0123459" = dgs.map D.str := by
  have e : (("0123459" : Str).cps.toList.map fun c => (⟨#[c]⟩ : Str)) = dgs := by decide +kernel
  rw [← e, List.map_map]
  rfl
/-- drawn rows as a dict -/
def encR (R : List (Str × Act)) : List (Key × D) := R.map fun p => ((.inr p.1 : Key), encA p.2)
/-- a drawn menu as the law holds it -/
def oneL (m : Mn) : List D := [.str m.name, .dct (encR m.rows), encA m.tail, .int m.tries, .bl m.clears]
structure RwsD (names : List Str) (R : List (Str × Act)) : Prop where
  nd : (R.map (·.1)).Nodup
  dg : ∀ p ∈ R, p.1 ∈ dgs
  ws : ∀ p ∈ R, Drawn names p.2
structure MnD (names : List Str) (m : Mn) : Prop where
  rws : RwsD names m.rows
  tl : Drawn names m.tail
  t1 : 1 ≤ m.tries
  t3 : m.tries ≤ 3
theorem MnD.raw {names : List Str} {m : Mn} (h : MnD names m) (hs : ∀ x ∈ names, Nm x) (hn : Nm m.name) : m.Raw :=
  ⟨hn, ⟨h.rws.nd, fun p hp => dgs_digs _ (h.rws.dg p hp), fun p hp => (h.rws.ws p hp).ok hs⟩, h.tl.ok hs, h.t1, h.t3⟩
theorem put_new {R : List (Str × Act)} {z : Str} {a : Act} (h : z ∉ R.map (·.1)) : putKD (encR R) (.inr z) (encA a) = encR (R ++ [(z, a)]) := by
  unfold putKD
  have e : ((encR R).any fun kv => decide (kv.1 = (Sum.inr z : Key))) = false := by
    rw [List.any_eq_false]
    intro kv hkv
    obtain ⟨p, hp, rfl⟩ := List.mem_map.mp hkv
    simp only [decide_eq_true_eq, Sum.inr.injEq]
    intro hz
    exact h (List.mem_map.mpr ⟨p, hp, hz⟩)
  rw [e]
  simp [encR]
theorem menu_ok {b : List D} {names : List Str} {m : M} {nm : Str} {most : Int} (hm : frz m = .lst (names.map .str)) (h : Box b) (hn : names ≠ []) (hl : names.length < 1000) (h0 : 0 ≤ most) (h1 : most < 1000) :
    ∃ mn b', Box b' ∧ MnD names mn ∧ mn.name = nm ∧ ff_law_menu [.l b, .p (.str nm), m, .p (.int most)] = some (.l (oneL mn), [some (.l b'), none, none, none]) := by
  obtain ⟨ys, b1, hb1, hp, e1⟩ := mixed_ok (d := .str "0123459") (ds := chars "0123459") h (by simp [dListA]; decide +kernel) (by simp [dLen]; decide +kernel) (by decide +kernel)
  obtain ⟨zs, rfl, hz⟩ := perm_map D.str hp chars_dgs
  obtain ⟨r, b2, hb2, r0, r1, e2⟩ := choose_ok (n := most + 1) hb1 (by omega) (by omega)
  generalize hq : cutG zs none (some r) = qs
  have hqs : qs.Sublist zs := by rw [← hq]; exact cutG_sub _ _ _
  have hqn : qs.Nodup := hqs.nodup (hz.nodup_iff.mpr (by decide))
  have hqd : ∀ x ∈ qs, x ∈ dgs := fun x hx => hz.mem_iff.mp (hqs.subset hx)
  have hql : qs.length ≤ 7 := by
    have := hqs.length_le
    rw [hz.length_eq] at this
    exact this
  have key := forF_inv (tg := gSet 5) (body := (sDPutF 4 (xFn ff_law_deed [] [some 0, none] (aC (xTk 0) (aC (xV 2) aN))) (xV 5)))
    (fun rest ms => ∃ b' R m' w, ms = [some (.l b'), some (.p (.str nm)), some m', some (.p (.int most)), some (.dk (encR R)), w, none] ∧ frz m' = .lst (names.map .str) ∧ Box b' ∧ RwsD names R ∧ ∃ q : List Str, rest = q.map .str ∧ (R.map (·.1) ++ q).Nodup ∧ (∀ x ∈ q, x ∈ dgs) ∧ R.length + q.length ≤ 7)
    (fun x rest ms ⟨b', R, m', w, hms, hm', hb', hR, q, hrest, hnd, hdg, hlen⟩ => by
      subst hms
      cases q with
      | nil => cases hrest
      | cons z q =>
        cases hrest
        obtain ⟨a, b3, hb3, hws, e3⟩ := deed_ok (names := names) hb' hn hl
        have hzn : z ∉ R.map (·.1) := fun hz => (List.nodup_append.mp hnd).2.2 z hz z List.mem_cons_self rfl
        refine ⟨[some (.l b'), some (.p (.str nm)), some m', some (.p (.int most)), some (.dk (encR R)), some (.p (.str z)), none], (.nx, [some (.l b3), some (.p (.str nm)), some (.p (.lst (names.map .str))), some (.p (.int most)), some (.dk (encR (R ++ [(z, a)]))), some (.p (.str z)), none]), rfl, ?_, .inl rfl, b3, R ++ [(z, a)], _, _, rfl, rfl, hb3, ⟨?_, ?_, ?_⟩, q, rfl, ?_, fun x hx => hdg x (List.mem_cons_of_mem _ hx), ?_⟩
        · have hlR : (encR R).length < sizeLine := by rw [sizeLine_eq]; simp [encR]; simp at hlen; omega
          simp [e3, hm', slK, put_new hzn, hlR]
        · rw [List.map_append]
          exact (List.nodup_append.mp (by simpa [List.append_assoc] using hnd : ((R.map (·.1) ++ [z]) ++ q).Nodup)).1
        · intro p hp
          rcases List.mem_append.mp hp with hp | hp
          · exact hR.dg p hp
          · rw [List.mem_singleton.mp hp]; exact hdg z List.mem_cons_self
        · intro p hp
          rcases List.mem_append.mp hp with hp | hp
          · exact hR.ws p hp
          · rw [List.mem_singleton.mp hp]; exact hws
        · simpa [List.append_assoc] using hnd
        · simp at hlen ⊢; omega)
  obtain ⟨ms', f1, b4, R, m', w, rfl, hm', hb4, hR, q, hq0, _, _, _⟩ := key (qs.map .str) [some (.l b2), some (.p (.str nm)), some m, some (.p (.int most)), some (.dk (encR [])), none, none]
    ⟨b2, [], m, none, rfl, hm, hb2, ⟨by simp, by simp, by simp⟩, qs, rfl, by simpa using hqn, hqd, by simpa using hql⟩
  obtain ⟨r2, b5, hb5, s0, s1, e3⟩ := choose_ok (n := 6) hb4 (by decide) (by decide)
  have hit : iL (xSl (xFn ff_law_mixed [] [some 0, none] (aC (xTk 0) (aC (xC (.str "0123459")) aN))) pN (pS (xFn ff_law_choose [] [some 0, none] (aC (xTk 0) (aC (f2M dAddA (xV 3) (xC (.int 1))) aN))))) [some (.l b), some (.p (.str nm)), some m, some (.p (.int most)), some (.dk (encR [])), none, none] = some (qs.map .str, [some (.l b2), some (.p (.str nm)), some m, some (.p (.int most)), some (.dk (encR [])), none, none]) := by
    simp [e1, e2, dSl, cutG_map, hq]
  have fin : ∀ (t : Act) (b6 : List D) (w2 : Option M) (m2 : M), Box b6 → ∃ (n : Nat) (c : Bool) (b' : List D), Box b' ∧ 1 ≤ n ∧ n ≤ 3 ∧ (sRet (xCall dLst (aC (xV 1) (aC (xV 4) (aC (xV 6) (aC (f2M dAddA (xC (.int 1)) (xFn ff_law_choose [] [some 0, none] (aC (xTk 0) (aC (xC (.int 3)) aN)))) (aC (f2 (dEq false) (xFn ff_law_choose [] [some 0, none] (aC (xTk 0) (aC (xC (.int 4)) aN))) (xC (.int 0))) aN))))))) [some (.l b6), some (.p (.str nm)), some m2, some (.p (.int most)), some (.dk (encR R)), w2, some (.p (encA t))] =
      some (.rt (.l [.str nm, .dct (encR R), encA t, .int n, .bl c]), [some (.l b'), some (.p (.str nm)), some m2, some (.p (.int most)), some (.p (.dct (encR R))), w2, some (.p (encA t))]) := by
    intro t b6 w2 m2 hb6
    obtain ⟨r3, b7, hb7, t0, t1, e4⟩ := choose_ok (n := 3) hb6 (by decide) (by decide)
    obtain ⟨r4, b8, hb8, u0, u1, e5⟩ := choose_ok (n := 4) hb7 (by decide) (by decide)
    refine ⟨1 + r3.toNat, decide (r4 = 0), b8, hb8, by omega, by omega, ?_⟩
    have e6 : ((1 + r3.toNat : Nat) : Int) = 1 + r3 := by omega
    rw [e6]
    simp [e4, e5, dLst, sizeLine_eq]
  have f0 : encR [] = [] := rfl
  rw [f0] at f1 hit
  by_cases c : r2 = 0
  · subst c
    obtain ⟨n, cc, b6, hb6, n1, n2, e6⟩ := fin .out b5 w m' hb5
    refine ⟨⟨nm, R, .out, n, cc⟩, b6, hb6, ⟨hR, ⟨fun z hz => (by cases hz), fun y e => by cases e⟩, n1, n2⟩, rfl, ?_⟩
    have eo : encA .out = .tup [.str "out"] := rfl
    rw [eo] at e6
    simp [ff_law_menu, fnF, b_law_menu, List.replicate, hit, f1, e3, dTup, sizeLine_eq, -iL_ap, -sRet_ap, e6, oneL, eo]
  · obtain ⟨a, b7, hb7, hws, e7⟩ := deed_ok (names := names) hb5 hn hl
    obtain ⟨n, cc, b6, hb6, n1, n2, e6⟩ := fin a b7 w (.p (.lst (names.map .str))) hb7
    refine ⟨⟨nm, R, a, n, cc⟩, b6, hb6, ⟨hR, hws, n1, n2⟩, rfl, ?_⟩
    simp [ff_law_menu, fnF, b_law_menu, List.replicate, hit, f1, e3, c, hm', e7, dTup, sizeLine_eq, -iL_ap, -sRet_ap, e6, oneL]
end Mh
namespace Mh
open PySem L2
theorem cp18 : CPow 10 18 := by unfold CPow; decide
theorem cp20 : CPow 10 20 := by unfold CPow; decide
def bSeed : SF := (sSeq (sSet 3 (xIf (fB (f2 dGe (xV 2) (f2 dPow (xC (.int 10)) (xC (.int 18))))) (xV 2) (xC (.int 0))))
      (sRet (xCall dLst (aC (xV 3) (aC (f2M dAddA (f2 dMod (xCall (o1 dInt) (aC (f2M dAddA (f2 dMul (f2 dMod (xCall (o1 dInt) (aC (xV 2) aN)) (xC (.int 2147483629))) (xC (.int 48271))) (f2 dMul (xC (.int 31019)) (xV 1))) aN)) (xC (.int 2147483629))) (xC (.int 1))) aN)))))
theorem bSeed_ok (c : Int) (k : Nat) (w : Option M) (hc : 0 ≤ c) : ∃ b w3, Box b ∧ bSeed [w, some (.p (.int k)), some (.p (.int c)), none] = some (.rt (.l b), [w, some (.p (.int k)), some (.p (.int c)), w3]) := by
  have m3 : ∀ i, CMul i 48271 := fun i => .inr (by decide)
  have m4 : CMul 31019 (k : Int) := .inl (by decide)
  have e1 := Int.emod_nonneg (c % 2147483629 * 48271 + 31019 * (k : Int)) (b := 2147483629) (by decide)
  have e2 := Int.emod_lt_of_pos (c % 2147483629 * 48271 + 31019 * (k : Int)) (b := 2147483629) (by decide)
  refine ⟨[.int (if 1000000000000000000 ≤ c then c else 0), .int ((c % 2147483629 * 48271 + 31019 * k) % 2147483629 + 1)], some (.p (.int (if 1000000000000000000 ≤ c then c else 0))), ⟨_, _, rfl, ?_, ?_, ?_⟩, ?_⟩
  · split <;> omega
  · omega
  · omega
  · unfold bSeed
    by_cases h : (1000000000000000000 : Int) ≤ c
    · simp [cp18, gB, gI, gIc, h, m3, m4, dLst, sizeLine_eq]
    · simp [cp18, gB, gI, gIc, h, m3, m4, dLst, sizeLine_eq]
theorem seed_ok (is : List Int) (k : Nat) : ∃ b, Box b ∧ ff_law_seed [.p (.lst (is.map .int)), .p (.int k)] = some (.l b, [none, none]) := by
  have m1 : CMul 6971 (k : Int) := .inl (by decide)
  have m2 : ∀ i, CMul i 50111 := fun i => .inr (by decide)
  have absn : ∀ i : Int, 0 ≤ (if i < 0 then -i else i) := fun i => by split <;> omega
  have ee : ff_law_seed = fnF 4 2 [] (sSeq (sSet 2 (f2M dAddA (f2 dMul (xC (.int 6971)) (xV 1)) (xC (.int 53))))
    (sSeq (sIf (fB (f2 dLt (xV 1) (xCall (o1 dLen) (aC (xV 0) aN)))) (sSet 2 (xCall (o1 dAbs) (aC (f2 dIx (xV 0) (xV 1)) aN))) (sIf (fB (f2 dGt (xCall (o1 dLen) (aC (xV 0) aN)) (xC (.int 0)))) (sSet 2 (f2M dAddA (xV 2) (f2 dMul (f2 dMod (xCall (o1 dInt) (aC (xCall (o1 dAbs) (aC (f2 dIx (xV 0) (f2 dMod (xCall (o1 dInt) (aC (xV 1) aN)) (xCall (o1 dLen) (aC (xV 0) aN)))) aN)) aN)) (xC (.int 2147483629))) (xC (.int 50111))))) sNx)) bSeed)) := rfl
  have fin : ∀ c : Int, 0 ≤ c → ∃ b, Box b ∧ ∃ w3, bSeed [some (.p (.lst (is.map .int))), some (.p (.int k)), some (.p (.int c)), none] = some (.rt (.l b), [some (.p (.lst (is.map .int))), some (.p (.int k)), some (.p (.int c)), w3]) := fun c hc => by
    obtain ⟨b, w3, hb, e⟩ := bSeed_ok c k (some (.p (.lst (is.map .int)))) hc
    exact ⟨b, hb, w3, e⟩
  rw [ee]
  by_cases h1 : k < is.length
  · have ha : atI (is.map D.int) (k : Int) = some (.int is[k]) := by rw [atI_nat]; simp [h1]
    obtain ⟨b, hb, w3, e⟩ := fin (if is[k] < 0 then -is[k] else is[k]) (absn _)
    exact ⟨b, hb, by simp [fnF, gB, gI, gIc, m1, h1, ha, e]⟩
  · by_cases h2 : 0 < is.length
    · have hm0 := Int.emod_nonneg (k : Int) (b := is.length) (by omega)
      have hm1 := Int.emod_lt_of_pos (k : Int) (b := is.length) (by omega)
      obtain ⟨x, ha⟩ : ∃ x, atI (is.map D.int) ((k : Int) % (is.length : Int)) = some (.int x) := by
        obtain ⟨d, hd, e⟩ := atI_of (xs := is.map D.int) hm0 (by simpa using hm1)
        obtain ⟨x, _, rfl⟩ := List.mem_map.mp hd
        exact ⟨x, e⟩
      have h3 : (0 : Int) < (is.length : Int) := by omega
      have q := Int.emod_nonneg (if x < 0 then -x else x) (b := 2147483629) (by decide)
      obtain ⟨b, hb, w3, e⟩ := fin (6971 * (k : Int) + 53 + (if x < 0 then -x else x) % 2147483629 * 50111) (by omega)
      refine ⟨b, hb, ?_⟩
      simp [fnF, gB, gI, gIc, m1, m2, h1, h2, h3, ha, e]
    · obtain ⟨b, hb, w3, e⟩ := fin (6971 * (k : Int) + 53) (by omega)
      refine ⟨b, hb, ?_⟩
      simp [fnF, gB, gI, gIc, m1, m2, h1, h2, e]
end Mh
namespace Mh
open PySem L2
theorem lcF_inv {tg : GF} {tt : TF} {te : EF} {vs : List Nat} (I : List D → List D → En → Prop) (step : ∀ d rest acc ms, I (d :: rest) acc ms → ∃ m1 m2 y m3, tg (.p d) ms = some m1 ∧ tt m1 = some (true, m2) ∧ te m2 = some (y, m3) ∧ acc.length < sizeLine ∧ I rest (acc ++ [frz y]) (wpM m3 vs)) :
    ∀ ds acc ms, I ds acc ms → ∃ acc' ms', lcF tg tt te vs ds ms acc = some (acc', ms') ∧ I [] acc' ms'
  | [], acc, ms, h => ⟨acc, ms, by simp [lcF], h⟩
  | d :: ds, acc, ms, h => by
    obtain ⟨m1, m2, y, m3, e1, e2, e3, e4, e5⟩ := step d ds acc ms h
    obtain ⟨acc', ms', e6, e7⟩ := lcF_inv I step ds _ _ e5
    exact ⟨acc', ms', by simp [lcF, e1, e2, e3, e4, e6], e7⟩
/-! ### any values -/
end Mh
namespace Mh
open PySem L2
/-! ### == of tuples of texts and of rows -/
def SOk (x : Str) : Prop := ∀ c ∈ TL.tl x, c < 1114112
theorem sok_lay {x : Str} (h : SOk x) : (PyData.str x).canLay0 = true := by
  simp only [PyData.canLay0, PyData.strOk]
  rw [Array.all_eq_true]
  intro i hi
  have := h (x.cps[i]) (by simp [TL.tl])
  simpa using this
theorem sok_of {x : Str} (h : ∀ c ∈ TL.tl x, c < 1000) : SOk x := fun c hc => by have := h c hc; omega
theorem eqB_big {x y : D} {a b : PyData} (fx : flatD x = none) (ex : toPD x = some a) (ey : toPD y = some b) (ax : a.canLay0 = true) (ay : b.canLay0 = true) (dx : a.depth ≤ 60) (dy : b.depth ≤ 60) : eqB x y = some (PyData.eqv a b) := by
  have q1 : eqS x y = none := by unfold eqS; rw [fx]; rfl
  have s1 : SeqAt.shaped a = true := by
    unfold SeqAt.shaped
    rw [ax]
    simp; omega
  have s2 : SeqAt.shaped b = true := by
    unfold SeqAt.shaped
    rw [ay]
    simp; omega
  unfold eqB
  rw [q1]
  unfold eqO
  simp [ex, ey, s1, s2]
theorem pds_strs : ∀ xs : List Str, toPDs (xs.map D.str) = some (xs.map .str)
  | [] => rfl
  | x :: xs => by simp [toPDs, toPD, pds_strs xs]
theorem lay_strs : ∀ {xs : List Str}, (∀ x ∈ xs, SOk x) → PyData.canLayAll0 (xs.map .str) = true
  | [], _ => by simp [PyData.canLayAll0]
  | x :: xs, h => by simp [PyData.canLayAll0, sok_lay (h x List.mem_cons_self), lay_strs fun y hy => h y (List.mem_cons_of_mem _ hy)]
theorem dep_strs : ∀ xs : List Str, PyData.depthAll (xs.map .str) = 0
  | [] => by simp [PyData.depthAll]
  | x :: xs => by simp [PyData.depthAll, PyData.depth, dep_strs xs]
theorem eqv_strs : ∀ xs ys : List Str, PyData.eqvAll (xs.map .str) (ys.map .str) = decide (xs = ys)
  | [], [] => by simp [PyData.eqvAll]
  | [], y :: ys => by simp [PyData.eqvAll]
  | x :: xs, [] => by simp [PyData.eqvAll]
  | x :: xs, y :: ys => by
    simp only [List.map_cons, PyData.eqvAll, PyData.eqv, eqv_strs xs ys, List.cons.injEq]
    by_cases h : x = y <;> by_cases h2 : xs = ys <;> simp [h, h2]
/-- tuples of texts -/
theorem eqB_tups {xs ys : List Str} (h : ∀ x ∈ xs, SOk x) (h2 : ∀ x ∈ ys, SOk x) : eqB (.tup (xs.map .str)) (.tup (ys.map .str)) = some (decide (xs = ys)) := by
  have := eqB_big (x := .tup (xs.map .str)) (y := .tup (ys.map .str)) (a := .tuple (xs.map .str)) (b := .tuple (ys.map .str)) rfl (by simp only [toPD, pds_strs]; rfl) (by simp only [toPD, pds_strs]; rfl) (by simp only [PyData.canLay0]; exact lay_strs h) (by simp only [PyData.canLay0]; exact lay_strs h2)
    (by simp only [PyData.depth, dep_strs]; omega) (by simp only [PyData.depth, dep_strs]; omega)
  rw [this]
  simp only [PyData.eqv, eqv_strs]
def pdRow (p : Str × Str) : PyData := .tuple [.str p.1, .str p.2]
theorem pds_rows : ∀ T : List (Str × Str), toPDs (T.map encT) = some (T.map pdRow)
  | [] => rfl
  | x :: xs => by simp [toPDs, toPD, pds_rows xs, encT, pdRow]
theorem lay_rows : ∀ {T : List (Str × Str)}, (∀ p ∈ T, SOk p.1 ∧ SOk p.2) → PyData.canLayAll0 (T.map pdRow) = true
  | [], _ => by simp [PyData.canLayAll0]
  | x :: xs, h => by
    obtain ⟨h1, h2⟩ := h x List.mem_cons_self
    simp [PyData.canLayAll0, pdRow, PyData.canLay0, lay_rows fun y hy => h y (List.mem_cons_of_mem _ hy)]
    exact ⟨by simpa [PyData.canLay0] using sok_lay h1, by simpa [PyData.canLay0] using sok_lay h2⟩
theorem dep_rows : ∀ T : List (Str × Str), PyData.depthAll (T.map pdRow) ≤ 1
  | [] => by simp [PyData.depthAll]
  | x :: xs => by
    have := dep_rows xs
    simp only [List.map_cons, PyData.depthAll, pdRow, PyData.depth]
    omega
theorem eqv_rows : ∀ T U : List (Str × Str), PyData.eqvAll (T.map pdRow) (U.map pdRow) = decide (T = U)
  | [], [] => by simp [PyData.eqvAll]
  | [], y :: ys => by simp [PyData.eqvAll]
  | x :: xs, [] => by simp [PyData.eqvAll]
  | (a, b) :: xs, (c, d) :: ys => by
    simp only [List.map_cons, PyData.eqvAll, pdRow, PyData.eqv]
    have := eqv_rows xs ys
    simp only [List.cons.injEq, Prod.mk.injEq]
    rw [this]
    by_cases h : a = c <;> by_cases h2 : b = d <;> by_cases h3 : xs = ys <;> simp [h, h2, h3]
theorem eqB_rows {T U : List (Str × Str)} (h : ∀ p ∈ T, SOk p.1 ∧ SOk p.2) (h2 : ∀ p ∈ U, SOk p.1 ∧ SOk p.2) : eqB (.tup (T.map encT)) (.tup (U.map encT)) = some (decide (T = U)) := by
  have d1 := dep_rows T
  have d2 := dep_rows U
  have := eqB_big (x := .tup (T.map encT)) (y := .tup (U.map encT)) (a := .tuple (T.map pdRow)) (b := .tuple (U.map pdRow)) rfl (by simp only [toPD, pds_rows]; rfl) (by simp only [toPD, pds_rows]; rfl) (by simp only [PyData.canLay0]; exact lay_rows h) (by simp only [PyData.canLay0]; exact lay_rows h2)
    (by simp only [PyData.depth]; omega) (by simp only [PyData.depth]; omega)
  rw [this]
  simp only [PyData.eqv, eqv_rows]
theorem actT_sok {a : Act} (h : a.Ok) : SOk (actT a) := by
  have key : ∀ w ∈ (["line", "out", "again", "main", "back", "go", "call"] : List Str), ∀ c ∈ TL.tl w, c < 1000 := by decide +kernel
  have nmw : ∀ w ∈ a.ws, ∀ c ∈ TL.tl w, c < 1000 := by
    have nmk : ∀ z, Nm z → ∀ c ∈ TL.tl z, c < 1000 := fun z hz c hc => by have := hz.abc c hc; omega
    intro w hw
    cases a <;> simp only [Act.ws, List.mem_cons, List.not_mem_nil, or_false] at hw <;> simp only [Act.Ok, Act.args, List.mem_cons, List.not_mem_nil, or_false, forall_eq_or_imp, forall_eq] at h
    · rcases hw with rfl | rfl
      · exact key _ (by decide)
      · exact nmk _ h
    · subst hw; exact key _ (by decide)
    · subst hw; exact key _ (by decide)
    · subst hw; exact key _ (by decide)
    · subst hw; exact key _ (by decide)
    · rcases hw with rfl | rfl
      · exact key _ (by decide)
      · exact nmk _ h
    · rcases hw with rfl | rfl | rfl
      · exact key _ (by decide)
      · exact nmk _ h.1
      · exact nmk _ h.2
  refine sok_of ?_
  unfold actT
  rw [TL.join_eq]
  generalize a.ws = ws at nmw
  induction ws with
  | nil => intro c hc; cases hc
  | cons w ws ih =>
    have h1 := nmw w List.mem_cons_self
    have ih2 := ih fun x hx => nmw x (List.mem_cons_of_mem _ hx)
    cases ws with
    | nil => exact h1
    | cons w2 ws =>
      intro c hc
      have e : Str.join " " (w :: w2 :: ws) = w ++ " " ++ Str.join " " (w2 :: ws) := rfl
      rw [e, TL.tl_append, TL.tl_append, tl_sp] at hc
      simp only [List.mem_append, List.mem_singleton] at hc
      rcases hc with (hc | hc) | hc
      · exact h1 c hc
      · omega
      · exact ih2 c hc
theorem digs_sok : ∀ d ∈ digs, SOk d := fun d hd => sok_of fun c hc => by have := digs_no d hd c hc; omega
theorem rows_sok {R : List (Str × Act)} (h : Rws R) : ∀ p ∈ rowsT R, SOk p.1 ∧ SOk p.2 := by
  intro p hp
  obtain ⟨q, hq, rfl⟩ := List.mem_map.mp hp
  exact ⟨digs_sok _ (h.dg q hq), actT_sok (h.ac q hq)⟩
/-! ### the package's menu of a drawn one -/
theorem getK_encR {R : List (Str × Act)} {z : Str} : getK (encR R) (.inr z) = (R.lookup z).map encA := by
  unfold getK
  induction R with
  | nil => rfl
  | cons p R ih =>
    obtain ⟨x, a⟩ := p
    rw [List.lookup_cons]
    show (List.find? _ (((.inr x : Key), encA a) :: encR R)).map _ = _
    rw [List.find?_cons]
    by_cases h : x = z
    · subst h; simp
    · have h2 : (z == x) = false := by simpa using fun e : z = x => h e.symm
      rw [h2]
      simpa [h] using ih
theorem act_join {a : Act} (h : a.Ok) : dJoin (.str " ") (encA a) = some (.p (.str (actT a))) := by
  refine dJoin_sp (d := encA a) (ls := a.ws) rfl ?_
  have l1 : ("line" : Str).length = 4 := by decide
  have l2 : ("go" : Str).length = 2 := by decide
  have l3 : ("call" : Str).length = 4 := by decide
  have l4 : ("out" : Str).length = 3 := by decide
  have l5 : ("again" : Str).length = 5 := by decide
  have l6 : ("main" : Str).length = 4 := by decide
  have l7 : ("back" : Str).length = 4 := by decide
  cases a <;> simp only [Act.Ok, Act.args, List.mem_cons, List.not_mem_nil, or_false, forall_eq_or_imp, forall_eq] at h <;> simp only [Act.ws, List.map_cons, List.map_nil, List.sum_cons, List.sum_nil, List.length_cons, List.length_nil, l1, l2, l3, l4, l5, l6, l7]
  · have := h.le; omega
  · omega
  · omega
  · omega
  · omega
  · have := h.le; omega
  · have := h.1.le; have := h.2.le; omega
end Mh
namespace Mh
open PySem L2
theorem lc2F_fm {α : Type} {tg : GF} {tt : TF} {it1 : IF} {tg1 : GF} {tt1 : TF} {te : EF} {vs vs1 : List Nat} (ms0 : En) (enc : α → D) (g : α → List D) (N : Nat) : ∀ (xs : List α) (acc : List D), acc.length + (xs.flatMap g).length ≤ N →
    (∀ x ∈ xs, ∃ m1, tg (.p (enc x)) ms0 = some m1 ∧ ((∃ m2, tt m1 = some (false, m2) ∧ g x = [] ∧ wpM m2 vs = ms0) ∨ (∃ m2 l m3, tt m1 = some (true, m2) ∧ it1 m2 = some (l, m3) ∧ ∀ acc : List D, acc.length + (g x).length ≤ N → ∃ r, lcF tg1 tt1 te vs1 l (wpM m3 vs1) acc = some (acc ++ g x, r) ∧ wpM r vs = ms0))) →
    lc2F tg tt it1 tg1 tt1 te vs vs1 (xs.map enc) ms0 acc = some (acc ++ xs.flatMap g, ms0)
  | [], acc, _, _ => by simp [lc2F]
  | x :: xs, acc, hN, h => by
    rw [List.flatMap_cons, List.length_append] at hN
    obtain ⟨m1, e1, h2⟩ := h x List.mem_cons_self
    have ih := fun acc hacc => lc2F_fm (tg := tg) (tt := tt) (it1 := it1) (tg1 := tg1) (tt1 := tt1) (te := te) (vs := vs) (vs1 := vs1) ms0 enc g N xs acc hacc fun y hy => h y (List.mem_cons_of_mem _ hy)
    rw [List.map_cons]
    unfold lc2F
    rw [e1, Option.bind_some]
    rcases h2 with ⟨m2, e2, e3, e4⟩ | ⟨m2, l, m3, e2, e3, k⟩
    · rw [e2, Option.bind_some, if_neg (by simp), e4, ih _ (by omega), List.flatMap_cons, e3, List.nil_append]
    · obtain ⟨r, e5, e6⟩ := k acc (by omega)
      rw [e2, Option.bind_some, if_pos rfl, e3, Option.bind_some, e5, Option.bind_some, e6, ih _ (by rw [List.length_append]; omega), List.flatMap_cons, List.append_assoc]
theorem lcF_mpa {α : Type} {tg : GF} {tt : TF} {te : EF} {vs : List Nat} (ms0 : En) (enc : α → D) (f : α → D) (xs : List α) (acc : List D) (hl : acc.length + xs.length ≤ 1000000) (h : ∀ x ∈ xs, ∃ m1 m2 y m3, tg (.p (enc x)) ms0 = some m1 ∧ tt m1 = some (true, m2) ∧ te m2 = some (y, m3) ∧ frz y = f x ∧ wpM m3 vs = ms0) :
    lcF tg tt te vs (xs.map enc) ms0 acc = some (acc ++ xs.map f, ms0) := by
  have := lcF_fm (tg := tg) (tt := tt) (te := te) (vs := vs) ms0 enc (fun _ => true) f xs acc hl fun x hx => by
    obtain ⟨m1, m2, y, m3, e1, e2, e3, e4, e5⟩ := h x hx
    exact ⟨m1, m2, e1, e2, (by intro z; cases z), fun _ => ⟨y, m3, e3, e4, e5⟩⟩
  rw [List.filter_eq_self.mpr (fun _ _ => rfl)] at this
  exact this
/-! ### boards -/
def Mn.acts (m : Mn) : List Act := m.rows.map (·.2) ++ [m.tail]
def Mn.nms (m : Mn) : List Str := m.acts.flatMap Act.nms
def Act.lns : Act → List Str
  | .line x => [x]
  | _ => []
def Mn.lns (m : Mn) : List Str := m.acts.flatMap Act.lns
theorem Mn.acts_len {m : Mn} (h : m.Ok) : m.acts.length ≤ 11 := by
  have := h.rws.len
  simp [Mn.acts]
  omega
theorem Mn.acts_ok {m : Mn} (h : m.Ok) : ∀ a ∈ m.acts, a.Ok := by
  intro a ha
  simp only [Mn.acts, List.mem_append, List.mem_map, List.mem_singleton] at ha
  rcases ha with ⟨p, hp, rfl⟩ | rfl
  · exact h.ac p hp
  · exact h.tl
theorem deeds_ok {m : Mn} (h : m.Ok) : ff_deeds_of [.p (obMn m)] = some (.l (m.acts.map encA), [none]) := by
  have hl := h.rws.len
  have l1 : lcF (gTupF 2 (gsC (gSet 1) (gsC (gSet 2) gsN))) tfY (xV 2) [1, 2] (m.rows.map encA2) [some (.p (obMn m)), none, none] [] = some (m.rows.map fun p => encA p.2, [some (.p (obMn m)), none, none]) :=
    lcF_mp _ _ _ m.rows (by omega) fun p hp => ⟨_, _, .p (encA p.2), [some (.p (obMn m)), some (.p (.str p.1)), some (.p (encA p.2))], rfl, rfl, rfl, rfl, rfl⟩
  have e : (m.rows.map fun p => encA p.2) = (m.rows.map (·.2)).map encA := by rw [List.map_map]; rfl
  simp only [ff_deeds_of, fnF, b_deeds_of]
  have hs : (m.rows.map fun p => encA p.2).length + 1 ≤ sizeLine := sl_of (by simp; omega)
  have hs' := hs
  rw [List.length_map] at hs'
  simp [lk_deeds, lk_last, l1, Mn.acts, seqD, dLst, hs', Function.comp_def]
theorem gocall_in (a : Act) (w : Option M) (o : M) : (f2 (dInA false) (f2 dIx (xV 1) (xC (.int 0))) (xCall dTup (aC (xC (.str "go")) (aC (xC (.str "call")) aN)))) [some o, some (.p (encA a)), w] = some (.p (.bl (decide (a.nms ≠ []))), [some o, some (.p (encA a)), w]) := by
  have h : ∀ z : Str, dInA false (.str z) (.tup [.str "go", .str "call"]) = some (.bl (decide (z ∈ (["go", "call"] : List Str)))) := fun z => dInA_strs z ["go", "call"] false rfl
  have hs : (2 : Nat) ≤ sizeLine := sl_of (by omega)
  cases a <;> simp [encA, Act.ws, Act.nms, dIx, atI, ixN, dTup, h, hs]
theorem named_ok {m : Mn} (h : m.Ok) : ff_named_in [.p (obMn m)] = some (.l (m.nms.map .str), [none]) := by
  have hl := m.acts_len h
  have dd := deeds_ok h
  have hn : (m.acts.flatMap fun a => a.nms.map D.str).length ≤ 22 := by
    rw [List.length_flatMap]
    have : ∀ l : List Act, (l.map fun a => (a.nms.map D.str).length).sum ≤ 2 * l.length := by
      intro l
      induction l with
      | nil => simp
      | cons a l ih => rw [List.map_cons, List.sum_cons, List.length_cons, List.length_map]; have : a.nms.length ≤ 2 := by cases a <;> simp [Act.nms]
                       omega
    have := this m.acts
    omega
  have l1 := lc2F_fm (tg := gSet 1) (tt := fB (f2 (dInA false) (f2 dIx (xV 1) (xC (.int 0))) (xCall dTup (aC (xC (.str "go")) (aC (xC (.str "call")) aN))))) (it1 := iT (xSl (xV 1) (pS (xC (.int 1))) pN)) (tg1 := gSet 2) (tt1 := tfY) (te := xV 2) (vs := [1, 2]) (vs1 := [2]) [some (.p (obMn m)), none, none] encA (fun a => a.nms.map D.str) 1000 m.acts [] (by rw [List.length_nil]; omega) fun a ha => by
    refine ⟨_, rfl, ?_⟩
    have gc := gocall_in a none (.p (obMn m))
    by_cases hz : a.nms = []
    · refine .inl ⟨[some (.p (obMn m)), some (.p (encA a)), none], ?_, by simp [hz], rfl⟩
      · simp only [fB_ap]
        show ((f2 (dInA false) (f2 dIx (xV 1) (xC (.int 0))) (xCall dTup (aC (xC (.str "go")) (aC (xC (.str "call")) aN)))) [some (.p (obMn m)), some (.p (encA a)), none]).bind _ = _
        rw [gc]
        simp [hz]
    · refine .inr ⟨[some (.p (obMn m)), some (.p (encA a)), none], a.nms.map D.str, [some (.p (obMn m)), some (.p (encA a)), none], ?_, ?_, fun acc hacc => ?_⟩
      · simp only [fB_ap]
        show ((f2 (dInA false) (f2 dIx (xV 1) (xC (.int 0))) (xCall dTup (aC (xC (.str "go")) (aC (xC (.str "call")) aN)))) [some (.p (obMn m)), some (.p (encA a)), none]).bind _ = _
        rw [gc]
        simp [hz]
      · have h1 : ∀ (x y : D), dSl (some 1) none (.tup [x, y]) = some (.p (.tup [y])) := fun _ _ => rfl
        have h2 : ∀ (x y z : D), dSl (some 1) none (.tup [x, y, z]) = some (.p (.tup [y, z])) := fun _ _ _ => rfl
        cases a <;> simp [Act.nms] at hz <;> simp [encA, Act.ws, Act.nms, h1, h2]
      · refine ⟨[some (.p (obMn m)), some (.p (encA a)), none], ?_, rfl⟩
        rw [List.length_map] at hacc
        exact lcF_mpa (tg := gSet 2) (tt := tfY) (te := xV 2) (vs := [2]) [some (.p (obMn m)), some (.p (encA a)), none] D.str D.str a.nms acc (by omega) fun z hz => ⟨_, _, .p (.str z), _, rfl, rfl, rfl, rfl, rfl⟩
  have e : (m.acts.flatMap fun a => a.nms.map D.str) = m.nms.map D.str := by unfold Mn.nms; rw [List.map_flatMap]
  rw [e, List.nil_append] at l1
  simp only [ff_named_in, fnF, b_named_in]
  simp only [List.map_cons, List.map_nil, sRet_ap, xLc2_ap, iL_ap, xFn_ap, aC_ap, aN_ap, xV_ap]
  simp [dd, l1]
end Mh
namespace Mh
open PySem L2
def nmsOf (B : List Mn) : List Str := B.map (·.name)
def rawL (B : List Mn) : List Str := B.flatMap Mn.lns
def linesOf (B : List Mn) : List Str := sortU (rawL B)
def firstOf : List Mn → Str
  | [] => ""
  | m :: _ => m.name
structure BdOk (B : List Mn) : Prop where
  ne : B ≠ []
  mn : ∀ m ∈ B, m.Ok
  nd : (nmsOf B).Nodup
  cl : ∀ m ∈ B, ∀ z ∈ m.nms, z ∈ nmsOf B
  len : B.length ≤ 30
  ln : (rawL B).length < 64
def fsBd (B : List Mn) : List (Str × M) :=
  [("menus", .p (.tup (B.map obMn))), ("names", .p (.tup ((nmsOf B).map .str))), ("first", .p (.str (firstOf B))), ("lines", .p (.tup ((linesOf B).map .str)))]
def obBd (B : List Mn) : D := .obj 1 (frzF (fsBd B))
@[simp 2000] theorem frz_bd (B : List Mn) : frz (.o 1 (fsBd B)) = obBd B := rfl
theorem lk_menus (B : List Mn) : dFld 1 "menus" (obBd B) = some (.tup (B.map obMn)) := rfl
theorem lk_names (B : List Mn) : dFld 1 "names" (obBd B) = some (.tup ((nmsOf B).map .str)) := rfl
theorem lk_first (B : List Mn) : dFld 1 "first" (obBd B) = some (.str (firstOf B)) := rfl
theorem lk_lines (B : List Mn) : dFld 1 "lines" (obBd B) = some (.tup ((linesOf B).map .str)) := rfl
theorem nms_len {m : Mn} (h : m.Ok) : m.nms.length ≤ 22 := by
  have hl := m.acts_len h
  unfold Mn.nms
  rw [List.length_flatMap]
  have : ∀ l : List Act, (l.map fun a => a.nms.length).sum ≤ 2 * l.length := by
    intro l
    induction l with
    | nil => simp
    | cons a l ih =>
      rw [List.map_cons, List.sum_cons, List.length_cons]
      have : a.nms.length ≤ 2 := by cases a <;> simp [Act.nms]
      omega
  have := this m.acts
  omega
theorem sum_le {α : Type} (f : α → Nat) (k : Nat) : ∀ l : List α, (∀ a ∈ l, f a ≤ k) → (l.map f).sum ≤ k * l.length
  | [], _ => by simp
  | a :: l, h => by
    rw [List.map_cons, List.sum_cons, List.length_cons]
    have := sum_le f k l fun b hb => h b (List.mem_cons_of_mem _ hb)
    have := h a List.mem_cons_self
    rw [Nat.mul_succ]
    omega
theorem line_is (a : Act) (ms : En) (o w : Option M) (w1 w2 w3 w4 : Option M) : (fB (f2 (dEq false) (f2 dIx (xV 5) (xC (.int 0))) (xC (.str "line")))) [w, w1, w2, w3, w4, some (.p (encA a))] = some (decide (a.lns ≠ []), [w, w1, w2, w3, w4, some (.p (encA a))]) := by
  cases a <;> simp [encA, Act.ws, Act.lns, atI, ixN, dEq, eqB_str]
theorem bi_l3 {B : List Mn} (h : BdOk B) (w0 w1 w5 : Option M) : lc2F (gSet 3) tfY (iL (xFn ff_named_in [] [none] (aC (xV 3) aN))) (gSet 4) tfY (f2 (dInA false) (xV 4) (xV 2)) [3, 4] [4] (B.map obMn) [w0, w1, some (.p (.lst ((nmsOf B).map .str))), none, none, w5] [] = some (B.flatMap fun m => m.nms.map fun _ => D.bl true, [w0, w1, some (.p (.lst ((nmsOf B).map .str))), none, none, w5]) := by
  have hb : (B.flatMap fun m => m.nms.map fun _ => D.bl true).length ≤ 1000 := by
    rw [List.length_flatMap]
    have := sum_le (fun m : Mn => (m.nms.map fun _ => D.bl true).length) 22 B fun m hm => by rw [List.length_map]; exact nms_len (h.mn m hm)
    have := h.len
    omega
  have := lc2F_fm (tg := gSet 3) (tt := tfY) (it1 := iL (xFn ff_named_in [] [none] (aC (xV 3) aN))) (tg1 := gSet 4) (tt1 := tfY) (te := f2 (dInA false) (xV 4) (xV 2)) (vs := [3, 4]) (vs1 := [4]) [w0, w1, some (.p (.lst ((nmsOf B).map .str))), none, none, w5] obMn (fun m => m.nms.map fun _ => D.bl true) 1000 B [] (by rw [List.length_nil]; omega) fun m hm => by
    refine ⟨_, rfl, .inr ⟨[w0, w1, some (.p (.lst ((nmsOf B).map .str))), some (.p (obMn m)), none, w5], m.nms.map .str, [w0, w1, some (.p (.lst ((nmsOf B).map .str))), some (.p (obMn m)), none, w5], rfl, ?_, fun acc hacc => ?_⟩⟩
    · have := named_ok (h.mn m hm)
      simp [this]
    · refine ⟨[w0, w1, some (.p (.lst ((nmsOf B).map .str))), some (.p (obMn m)), none, w5], ?_, rfl⟩
      rw [List.length_map] at hacc
      refine lcF_mpa _ _ _ _ acc (by omega) fun z hz => ⟨_, _, .p (.bl true), [w0, w1, some (.p (.lst ((nmsOf B).map .str))), some (.p (obMn m)), some (.p (.str z)), w5], rfl, rfl, ?_, rfl, rfl⟩
      have := dInA_strs z (nmsOf B) false (d := .lst ((nmsOf B).map .str)) rfl
      have hin := h.cl m hm z hz
      simp [this, hin]
  simpa using this
theorem bi_l5 {B : List Mn} (h : BdOk B) (w0 w1 w2 w4 : Option M) : lc2F (gSet 3) tfY (iL (xFn ff_deeds_of [] [none] (aC (xV 3) aN))) (gSet 5) (fB (f2 (dEq false) (f2 dIx (xV 5) (xC (.int 0))) (xC (.str "line")))) (f2 dIx (xV 5) (xC (.int 1))) [3, 5] [5] (B.map obMn) [w0, w1, w2, none, w4, none] [] = some ((rawL B).map .str, [w0, w1, w2, none, w4, none]) := by
  have hb : (B.flatMap fun m => m.lns.map D.str).length ≤ 1000 := by
    have : (B.flatMap fun m => m.lns.map D.str) = (rawL B).map .str := by unfold rawL; rw [List.map_flatMap]
    rw [this, List.length_map]
    have := h.ln
    omega
  have := lc2F_fm (tg := gSet 3) (tt := tfY) (it1 := iL (xFn ff_deeds_of [] [none] (aC (xV 3) aN))) (tg1 := gSet 5) (tt1 := fB (f2 (dEq false) (f2 dIx (xV 5) (xC (.int 0))) (xC (.str "line")))) (te := f2 dIx (xV 5) (xC (.int 1))) (vs := [3, 5]) (vs1 := [5]) [w0, w1, w2, none, w4, none] obMn (fun m => m.lns.map D.str) 1000 B [] (by rw [List.length_nil]; omega) fun m hm => by
    refine ⟨_, rfl, .inr ⟨[w0, w1, w2, some (.p (obMn m)), w4, none], m.acts.map encA, [w0, w1, w2, some (.p (obMn m)), w4, none], rfl, ?_, fun acc hacc => ?_⟩⟩
    · have := deeds_ok (h.mn m hm)
      simp [this]
    · refine ⟨[w0, w1, w2, some (.p (obMn m)), w4, none], ?_, rfl⟩
      have key := fun (acc : List D) (hacc : acc.length + m.acts.length ≤ 1000000) => lcF_fm (tg := gSet 5) (tt := fB (f2 (dEq false) (f2 dIx (xV 5) (xC (.int 0))) (xC (.str "line")))) (te := f2 dIx (xV 5) (xC (.int 1))) (vs := [5]) [w0, w1, w2, some (.p (obMn m)), w4, none] encA (fun a => decide (a.lns ≠ [])) (fun a => D.str (a.lns.headD "")) m.acts acc hacc fun a ha => by
        refine ⟨_, _, rfl, line_is a [] none w0 w1 w2 _ w4, fun _ => rfl, fun hc => ?_⟩
        refine ⟨.p (.str (a.lns.headD "")), [w0, w1, w2, some (.p (obMn m)), w4, some (.p (encA a))], ?_, rfl, rfl⟩
        cases a <;> simp [Act.lns] at hc
        simp [encA, Act.ws, Act.lns, atI, ixN]
      have l1 := m.acts_len (h.mn m hm)
      rw [List.length_map] at hacc
      have k2 := key acc (by omega)
      have e : (m.acts.filter fun a => decide (a.lns ≠ [])).map (fun a => D.str (a.lns.headD "")) = m.lns.map D.str := by
        unfold Mn.lns
        generalize m.acts = l
        induction l with
        | nil => rfl
        | cons a l ih => cases a <;> simp [Act.lns] at ih ⊢ <;> exact ih
      rw [e] at k2
      exact k2
  have e : (B.flatMap fun m => m.lns.map D.str) = (rawL B).map .str := by unfold rawL; rw [List.map_flatMap]
  rw [e] at this
  simpa using this
theorem binit_ok {B : List Mn} (h : BdOk B) {m : M} (hm : frz m = .lst (B.map obMn) ∨ frz m = .tup (B.map obMn)) : ff_Board_init [.o 1 [], m] = some (.p .non, [some (.o 1 (fsBd B)), none]) := by
  have hl := h.len
  have la : ∀ w0 w1 w2 w4 w5 : Option M, lcF (gSet 3) tfY (xIsO 0 (xV 3)) [3] (B.map obMn) [w0, w1, w2, none, w4, w5] [] = some (B.map fun _ => D.bl true, [w0, w1, w2, none, w4, w5]) := fun w0 w1 w2 w4 w5 =>
    lcF_mp _ _ _ B (by omega) fun m hm => ⟨_, _, .p (.bl true), [w0, w1, w2, some (.p (obMn m)), w4, w5], rfl, rfl, by simp [isoD, obMn], rfl, rfl⟩
  have ln : ∀ w0 w1 w2 w4 w5 : Option M, lcF (gSet 3) tfY (xFld 0 "name" (xV 3)) [3] (B.map obMn) [w0, w1, w2, none, w4, w5] [] = some ((nmsOf B).map .str, [w0, w1, w2, none, w4, w5]) := fun w0 w1 w2 w4 w5 => by
    have := lcF_mp (tg := gSet 3) (tt := tfY) (te := xFld 0 "name" (xV 3)) (vs := [3]) [w0, w1, w2, none, w4, w5] obMn (fun m => D.str m.name) B (by omega) fun m hm => ⟨_, _, .p (.str m.name), [w0, w1, w2, some (.p (obMn m)), w4, w5], rfl, rfl, by simp [lk_name], rfl, rfl⟩
    rw [this]
    simp [nmsOf, Function.comp_def]
  have un := unlike_in (xs := nmsOf B) (m := .p (.lst ((nmsOf B).map .str))) rfl h.nd (by unfold nmsOf; rw [List.length_map]; omega)
  have l3 := bi_l3 h
  have l5 := bi_l5 h
  have st := strs_mapD (rawL B)
  have h64 := h.ln
  have ha : dAll (.lst (B.flatMap fun m => m.nms.map fun _ => D.bl true)) = some (.p (.bl true)) := dAll_true fun d hd => by
    rw [List.mem_flatMap] at hd
    obtain ⟨m, _, hd⟩ := hd
    rw [List.mem_map] at hd
    obtain ⟨_, _, e⟩ := hd
    exact e.symm
  have hne : ¬ (B = []) := h.ne
  have hz : ¬ ((B.length : Int) = 0) := by
    have := h.ne
    intro z
    apply this
    apply List.eq_nil_of_length_eq_zero
    omega
  obtain ⟨m0, Br, hB⟩ : ∃ m0 Br, B = m0 :: Br := by
    cases B with
    | nil => exact absurd rfl h.ne
    | cons m0 Br => exact ⟨m0, Br, rfl⟩
  have hf : atI ((nmsOf B).map D.str) 0 = some (.str (firstOf B)) := by
    subst hB
    simp [nmsOf, firstOf, atI, ixN]
  have sql := seq_l (B.map obMn) (.p (.lst (B.map obMn))) rfl
  have sqt := seq_t (B.map obMn) (.p (.tup (B.map obMn))) rfl
  rcases hm with hm | hm
  · simp only [ff_Board_init, fnF, b_Board_init]
    simp [hm, sql, la, ln, un, l3, l5, st, h64, ha, hz, hne, dAll_tt, dTuple, slO, putM, pM, fsBd, linesOf, hf]
  · simp only [ff_Board_init, fnF, b_Board_init]
    simp [hm, sqt, la, ln, un, l3, l5, st, h64, ha, hz, hne, dAll_tt, dTuple, slO, putM, pM, fsBd, linesOf, hf]
end Mh
namespace Mh
open PySem L2
theorem mk_bd {B : List Mn} (h : BdOk B) {m : M} (hm : frz m = .lst (B.map obMn) ∨ frz m = .tup (B.map obMn)) (ms : En) : mkG ff_Board_init 1 [m] ms = some (.o 1 (fsBd B), ms) := by
  unfold mkG
  rw [binit_ok h hm]
  rfl
def bdT (B : List Mn) : Str := Txt.join "\n" (B.map menuT)
theorem bd_sum {B : List Mn} (h : BdOk B) : ((B.map menuT).map (·.length)).sum + (B.map menuT).length ≤ 31000 := by
  have h1 := sum_le (fun m : Mn => (menuT m).length) 1000 B fun m hm => menuT_len (h.mn m hm).raw
  have h2 := h.len
  rw [List.map_map, List.length_map]
  simp only [Function.comp_def]
  omega
theorem bstr_ok {B : List Mn} (h : BdOk B) : ff_Board_str [.p (obBd B)] = some (.p (.str (bdT B)), [none]) := by
  have hl := h.len
  have l1 : lcF (gSet 1) tfY (xCall (o1 (dStrO ff_Menu_str 0)) (aC (xV 1) aN)) [1] (B.map obMn) [some (.p (obBd B)), none] [] = some (B.map fun m => D.str (menuT m), [some (.p (obBd B)), none]) :=
    lcF_mp _ _ _ B (by omega) fun m hm => ⟨_, _, .p (.str (menuT m)), [some (.p (obBd B)), some (.p (obMn m))], rfl, rfl, by simp [strO_ok (h.mn m hm).raw], rfl, rfl⟩
  have hj := dJoin_nl (d := .lst (B.map fun m => D.str (menuT m))) (ls := B.map menuT) (by simp [seqD, Function.comp_def]) (by have := bd_sum h; omega)
  have is : isStrD (.str "\n") = true := rfl
  simp [ff_Board_str, fnF, b_Board_str, lk_menus, l1, hj, bdT, is]
theorem bstrO_ok {B : List Mn} (h : BdOk B) : dStrO ff_Board_str 1 (obBd B) = some (.p (.str (bdT B))) := by
  show (ff_Board_str [.p (obBd B)]).bind _ = _
  rw [bstr_ok h]; rfl
theorem beq_bd {A B : List Mn} (ha : BdOk A) (hb : BdOk B) : ff_Board_eq [.p (obBd A), .p (obBd B)] = some (.p (.bl (decide (bdT A = bdT B))), [none, none]) := by
  have i1 : isoD 1 (obBd B) = some true := rfl
  simp [ff_Board_eq, fnF, b_Board_eq, i1, bstrO_ok ha, bstrO_ok hb]
theorem beq_self {A : List Mn} (ha : BdOk A) : ff_Board_eq [.p (obBd A), .p (obBd A)] = some (.p (.bl true), [none, none]) := by
  rw [beq_bd ha ha]; simp
/-! ### the menu of a name -/
theorem bm_loop {o : D} {z : Str} : ∀ (B : List Mn) (m : Mn) (w : Option M), (nmsOf B).Nodup → m ∈ B → m.name = z → ∃ w', forF (gSet 2) (sIf (fB (f2 (dEq false) (xFld 0 "name" (xV 2)) (xV 1))) (sRet (xV 2)) sNx) (B.map obMn) [some (.p o), some (.p (.str z)), w] = some (.rt (.p (obMn m)), [some (.p o), some (.p (.str z)), w'])
  | b :: B, m, w, nd, hm, hz => by
    by_cases hb : b.name = z
    · have : m = b := by
        rcases List.mem_cons.mp hm with e | hm
        · exact e
        · exfalso
          have := (List.nodup_cons.mp nd).1
          apply this
          show b.name ∈ _
          rw [hb, ← hz]
          exact List.mem_map.mpr ⟨m, hm, rfl⟩
      subst this
      exact ⟨some (.p (obMn m)), by simp [forF, lk_name, hb]⟩
    · rcases List.mem_cons.mp hm with e | hm
      · subst e; exact absurd hz hb
      · obtain ⟨w', e⟩ := bm_loop B m (some (.p (obMn b))) (List.nodup_cons.mp nd).2 hm hz
        exact ⟨w', by simpa [forF, lk_name, hb] using e⟩
theorem bmenu_ok {B : List Mn} (h : BdOk B) {m : Mn} (hm : m ∈ B) : ff_Board_menu [.p (obBd B), .p (.str m.name)] = some (.p (obMn m), [none, none]) := by
  obtain ⟨w', e⟩ := bm_loop (o := obBd B) (z := m.name) B m none h.nd hm rfl
  simp [ff_Board_menu, fnF, b_Board_menu, List.replicate, lk_menus, e]
theorem nd_inj {α β : Type} {f : α → β} : ∀ {l : List α}, (l.map f).Nodup → ∀ {x y : α}, x ∈ l → y ∈ l → f x = f y → x = y
  | [], _, _, _, hx, _, _ => nomatch hx
  | a :: l, nd, x, y, hx, hy, e => by
    rw [List.map_cons, List.nodup_cons] at nd
    rcases List.mem_cons.mp hx with rfl | hx2 <;> rcases List.mem_cons.mp hy with rfl | hy2
    · rfl
    · exact absurd (show f x ∈ l.map f from List.mem_map.mpr ⟨y, hy2, e.symm⟩) nd.1
    · exact absurd (show f y ∈ l.map f from List.mem_map.mpr ⟨x, hx2, e⟩) nd.1
    · exact nd_inj nd.2 hx2 hy2 e
end Mh
namespace Mh
open PySem L2
theorem join_cons (y x : Str) {r : List Str} (h : r ≠ []) : Str.join y (x :: r) = x ++ y ++ Str.join y r := by
  cases r with
  | nil => exact absurd rfl h
  | cons a r => rfl
theorem join_app (y : Str) : ∀ {xs ys : List Str}, xs ≠ [] → ys ≠ [] → Str.join y (xs ++ ys) = Str.join y xs ++ y ++ Str.join y ys
  | [], _, h, _ => absurd rfl h
  | [x], ys, _, h => join_cons y x h
  | x :: x2 :: xs, ys, _, h => by
    have ih := join_app y (xs := x2 :: xs) (ys := ys) (by simp) h
    rw [List.cons_append, join_cons y x (by simp), join_cons y x (r := x2 :: xs) (by simp), ih]
    simp only [app_as]
theorem join_flat {α : Type} (y : Str) (f : α → List Str) : ∀ (l : List α), (∀ a ∈ l, f a ≠ []) → Txt.join y (l.map fun a => Txt.join y (f a)) = Txt.join y (l.flatMap f)
  | [], _ => rfl
  | a :: l, h => by
    have ih := join_flat y f l fun b hb => h b (List.mem_cons_of_mem _ hb)
    have ha := h a List.mem_cons_self
    rw [TL.join_eq, TL.join_eq] at ih ⊢
    cases l with
    | nil => simp [Str.join, TL.join_eq]
    | cons b l =>
      have hb : (b :: l).flatMap f ≠ [] := by
        rw [List.flatMap_cons]
        intro z
        exact h b (by simp) (List.append_eq_nil_iff.mp z).1
      rw [List.map_cons, join_cons y _ (by simp), ih, show (a :: b :: l).flatMap f = f a ++ (b :: l).flatMap f from rfl, join_app y ha hb, TL.join_eq]
def bdL (B : List Mn) : List Str := B.flatMap menuL
theorem bdT_eq (B : List Mn) : bdT B = Txt.join "\n" (bdL B) := join_flat "\n" menuL B fun m _ => by simp [menuL]
theorem bdL_nl {B : List Mn} (h : ∀ m ∈ B, m.Raw) : ∀ l ∈ bdL B, 10 ∉ TL.tl l := fun l hl => by
  obtain ⟨m, hm, hl⟩ := List.mem_flatMap.mp hl
  exact menuL_nl (h m hm) l hl
theorem bdL_ne {B : List Mn} (h : B ≠ []) : bdL B ≠ [] := by
  cases B with
  | nil => exact absurd rfl h
  | cons m B => simp [bdL, menuL]
theorem bdT_split {B : List Mn} (h0 : B ≠ []) (h : ∀ m ∈ B, m.Raw) : Txt.split (bdT B) "\n" = bdL B := by
  rw [bdT_eq]
  exact split_nl (bdL_ne h0) (bdL_nl h)
theorem bdL_cnt {B : List Mn} (h : ∀ m ∈ B, m.Raw) : (bdL B).length ≤ 12 * B.length := by
  unfold bdL
  rw [List.length_flatMap]
  exact sum_le _ 12 B fun m hm => menuL_cnt (h m hm)
theorem bdT_len {B : List Mn} (h : BdOk B) : (bdT B).length ≤ 40000 := by
  have e := PySem.StrLaws.join_length_le "\n" (B.map menuT)
  have l1 : ("\n" : Str).length = 1 := by decide
  rw [l1] at e
  have := bd_sum h
  unfold bdT
  rw [TL.join_eq]
  omega
def bRead : SF := sSeq (sAsg (xFn ff_told_in [] [none, none] (aC (xV 2) (aC (xV 4) aN))) (gTupF 2 (gsC (gSet 5) (gsC (gSet 4) gsN)))) (sEx (xApp 3 (xV 5)))
def tRead : TF := tfOr (fB (f2 dLt (xV 4) (xCall (o1 dLen) (aC (xV 2) aN)))) (fB (f2 (dEq false) (xLenO 3) (xC (.int 0))))
theorem read_loop {w0 w1 : Option M} {ls : List Str} (hl : ls.length ≤ 1000) : ∀ (todo done : List Mn) (fuel : Nat) (w5 : Option M) (w : M), frz w = .lst (ls.map .str) → (∀ m ∈ todo, m.Raw) → done.length + todo.length ≤ 1000 → ls = bdL done ++ bdL todo → done ++ todo ≠ [] → todo.length + 1 ≤ fuel →
    ∃ w2 w5', frz w2 = .lst (ls.map .str) ∧ whF tRead bRead fuel [w0, w1, some w, some (.l (done.map toldM)), some (.p (.int (bdL done).length)), w5] = some (.nx, [w0, w1, some w2, some (.l ((done ++ todo).map toldM)), some (.p (.int ls.length)), w5'])
  | [], done, fuel + 1, w5, w, hw, hr, hb, hs, hn, hf => by
    have e : ls = bdL done := by rw [hs]; simp [bdL]
    subst e
    have hd : ¬ (done = []) := by simpa using hn
    have hd2 : ¬ ((done.length : Int) = 0) := by
      intro z
      apply hd
      apply List.eq_nil_of_length_eq_zero
      omega
    refine ⟨.p (.lst ((bdL done).map .str)), w5, rfl, ?_⟩
    rw [List.append_nil]
    have ht : tRead [w0, w1, some w, some (.l (done.map toldM)), some (.p (.int (bdL done).length)), w5] = some (false, [w0, w1, some (.p (.lst ((bdL done).map .str))), some (.l (done.map toldM)), some (.p (.int (bdL done).length)), w5]) := by
      simp [tRead, gB, hw, hd, hd2, slL]
    unfold whF
    rw [ht]
    rfl
  | m :: todo, done, fuel + 1, w5, w, hw, hr, hb, hs, hn, hf => by
    have hm := hr m List.mem_cons_self
    have e2 : bdL (m :: todo) = menuL m ++ bdL todo := rfl
    have hlt : (bdL done).length < ls.length := by
      rw [hs, e2, List.length_append, List.length_append]
      have : 0 < (menuL m).length := by simp [menuL]
      omega
    have to := told_ok (ls := ls) (m := m) (b := (bdL done).length) hm (fun j l e => by
      rw [hs, List.getElem?_append_right (by omega), Nat.add_sub_cancel_left, e2, List.getElem?_append_left (List.getElem?_eq_some_iff.mp e).1]
      exact e) hl
    have hlen : (bdL done).length + (menuL m).length = (bdL (done ++ [m])).length := by simp [bdL]
    rw [hlen] at to
    obtain ⟨w2, w5', h1, e⟩ := read_loop (w0 := w0) (w1 := w1) hl todo (done ++ [m]) fuel (some (.p (toldM m))) (.p (.lst (ls.map .str))) rfl (fun b hb => hr b (List.mem_cons_of_mem _ hb)) (by simp at hb ⊢; omega) (by rw [hs, e2]; simp [bdL]) (by simp) (by simp at hf; omega)
    refine ⟨w2, w5', h1, ?_⟩
    rw [List.append_assoc, List.singleton_append] at e
    have hs1 : done.length < sizeLine := sl_lt (by simp at hb; omega)
    have hi : ((bdL done).length : Int) < (ls.length : Int) := by omega
    have ht : tRead [w0, w1, some w, some (.l (done.map toldM)), some (.p (.int (bdL done).length)), w5] = some (true, [w0, w1, some (.p (.lst (ls.map .str))), some (.l (done.map toldM)), some (.p (.int (bdL done).length)), w5]) := by
      simp [tRead, gB, hw, hi]
    have hbd : bRead [w0, w1, some (.p (.lst (ls.map .str))), some (.l (done.map toldM)), some (.p (.int (bdL done).length)), w5] = some (.nx, [w0, w1, some (.p (.lst (ls.map .str))), some (.l ((done ++ [m]).map toldM)), some (.p (.int (bdL (done ++ [m])).length)), some (.p (toldM m))]) := by
      simp [bRead, to, slL, hs1]
    unfold whF
    rw [ht]
    dsimp only [Option.bind_some]
    rw [if_pos rfl, hbd]
    exact e
theorem told_menus {w0 w1 w2 w4 : Option M} {B : List Mn} (h : ∀ m ∈ B, m.Ok) (hl : B.length ≤ 1000) : lcF (gSet 5) tfY (xMkS ff_Menu_init [] 0 (cntD 5 (xV 5))) [5] (B.map toldM) [w0, w1, w2, none, w4, none] [] = some (B.map obMn, [w0, w1, w2, none, w4, none]) :=
  lcF_mp _ _ _ B (by omega) fun m hm => by
    refine ⟨_, _, .o 0 (fsMn m), [w0, w1, w2, none, w4, some (.p (toldM m))], rfl, rfl, ?_, rfl, rfl⟩
    have mk := fun ms => mk_mn (h m hm).raw (r := .p (.lst ((rowsT m.rows).map encT))) rfl ms
    rw [(h m hm).cn_eq] at mk
    simp [toldM, cntD, seqD, mk]
theorem bread_ok {B : List Mn} (h : BdOk B) : ff_Board_read [.p (.cls 1), .p (.str (bdT B))] = some (.o 1 (fsBd B), [none, none]) := by
  have raw : ∀ m ∈ B, m.Raw := fun m hm => (h.mn m hm).raw
  have hl := bdT_len h
  have hc := bdL_cnt raw
  have hB := h.len
  have sp : dSplit (.str (bdT B)) (.str "\n") = some (.l ((bdL B).map .str)) := by
    have : (("\n" : Str).length == 0) = false ∧ (bdT B).length + 2 ≤ sizeLine := ⟨by decide, sl_of (by omega)⟩
    refine (if_pos this).trans ?_
    rw [bdT_split h.ne raw]
  obtain ⟨w2, w5, h2, e⟩ := read_loop (w0 := some (.p (.cls 1))) (w1 := some (.p (.str (bdT B)))) (ls := bdL B) (by omega) B [] 16777216 none (.l ((bdL B).map .str)) rfl raw (by simp; omega) (by simp [bdL]) (by simpa using h.ne) (by omega)
  have tm := fun w0 w1 w2 w4 => told_menus (w0 := w0) (w1 := w1) (w2 := w2) (w4 := w4) h.mn (by omega)
  have mk := fun ms => mk_bd h (m := .l (B.map obMn)) (.inl rfl) ms
  have is : isStrD (.str (bdT B)) = true := rfl
  rw [List.nil_append, List.map_nil] at e
  have ew : sWh 16777216 tRead bRead = sWh 16777216 (tfOr (fB (f2 dLt (xV 4) (xCall (o1 dLen) (aC (xV 2) aN)))) (fB (f2 (dEq false) (xLenO 3) (xC (.int 0))))) (sSeq (sAsg (xFn ff_told_in [] [none, none] (aC (xV 2) (aC (xV 4) aN))) (gTupF 2 (gsC (gSet 5) (gsC (gSet 4) gsN)))) (sEx (xApp 3 (xV 5)))) := rfl
  have ei : bdL [] = [] := rfl
  rw [ei, List.length_nil, ← sWh_ap] at e
  generalize hW : sWh 16777216 tRead bRead = W at e
  simp only [ff_Board_read, fnF, b_Board_read]
  rw [← ew, hW]
  have hd0 : dLst [] = some (.l []) := rfl
  have ez : (((0 : Nat) : Int)) = 0 := rfl
  rw [ez] at e
  simp [hd0, e, kb_str, is, sp, gB, mk, slL, isHole, tm]
end Mh
namespace Mh
open PySem L2
theorem cutG_take {α : Type} (xs : List α) (k : Nat) : cutG xs none (some (k : Int)) = xs.take k := by
  unfold cutG
  rw [HT.sIx_none, HT.sIx_nat, List.drop_zero, Nat.sub_zero]
  exact (List.take_eq_take_min (l := xs) (i := k)).symm
def bnames : List Str := ["top", "pay", "ask", "bye", "m", "mm", "zzzz", "tell"]
theorem bnames_nm : ∀ x ∈ bnames, Nm x := by decide +kernel
theorem bnames_nd : bnames.Nodup := by decide
structure BdD (B : List Mn) : Prop where
  ne : B ≠ []
  nd : (nmsOf B).Nodup
  nm : ∀ x ∈ nmsOf B, x ∈ bnames
  mn : ∀ m ∈ B, MnD (nmsOf B) m
theorem BdD.nms {B : List Mn} (h : BdD B) : ∀ x ∈ nmsOf B, Nm x := fun x hx => bnames_nm x (h.nm x hx)
theorem board_ok {b : List D} {many most : Int} (h : Box b) (h1 : 1 ≤ many) (h8 : many ≤ 8) (h0 : 0 ≤ most) (hm : most < 1000) :
    ∃ B b', Box b' ∧ BdD B ∧ (B.length : Int) ≤ many ∧ ff_law_board [.l b, .p (.int many), .p (.int most)] = some (.l (B.map fun m => .lst (oneL m)), [some (.l b'), none, none]) := by
  obtain ⟨ys, b1, hb1, hp, e1⟩ := mixed_ok (d := .lst (bnames.map D.str)) (ds := bnames.map D.str) h rfl rfl (by decide)
  obtain ⟨zs, rfl, hz⟩ := perm_map D.str hp rfl
  obtain ⟨r, b2, hb2, r0, r1, e2⟩ := choose_ok (n := many) hb1 (by omega) (by omega)
  obtain ⟨k, hk⟩ : ∃ k : Nat, 1 + r = (k : Int) := ⟨(1 + r).toNat, by omega⟩
  have hzl : zs.length = 8 := hz.length_eq
  have hnl : (zs.take k).length = k := by rw [List.length_take]; omega
  have hsub : (zs.take k).Sublist zs := List.take_sublist _ _
  have hnd : (zs.take k).Nodup := hsub.nodup (hz.nodup_iff.mpr bnames_nd)
  have hnm : ∀ x ∈ zs.take k, x ∈ bnames := fun x hx => hz.mem_iff.mp (hsub.subset hx)
  have hcut : cutG (zs.map D.str) none (some (1 + r)) = (zs.take k).map D.str := by rw [hk, cutG_take, List.map_take]
  generalize zs.take k = names at *
  have hne : names ≠ [] := by
    intro z
    subst z
    simp at hnl
    omega
  have loop := lcF_inv (tg := gSet 5) (tt := tfY) (te := xFn ff_law_menu [] [some 0, none, none, none] (aC (xTk 0) (aC (xV 5) (aC (xV 4) (aC (xV 2) aN))))) (vs := [5])
    (fun rest acc ms => ∃ (todo : List Str) (B : List Mn) (b : List D), rest = todo.map .str ∧ names = nmsOf B ++ todo ∧ (∀ m ∈ B, MnD names m) ∧ Box b ∧ acc = B.map (fun m => .lst (oneL m)) ∧ ms = [some (.l b), some (.p (.int many)), some (.p (.int most)), some (.p (.lst (bnames.map .str))), some (.p (.lst (names.map .str))), none])
    (fun d rest acc ms ⟨todo, B, b, e3, e4, e5, e6, e7, e8⟩ => by
      cases todo with
      | nil => cases e3
      | cons x todo =>
        rw [List.map_cons, List.cons.injEq] at e3
        obtain ⟨rfl, rfl⟩ := e3
        subst e7 e8
        obtain ⟨mn, b', hb', hmn, hn, e9⟩ := menu_ok (names := names) (m := .p (.lst (names.map .str))) (nm := x) (most := most) rfl e6 hne (by omega) h0 hm
        have hBl : B.length < 1000 := by
          have := congrArg List.length e4
          rw [List.length_append, List.length_cons, nmsOf, List.length_map] at this
          omega
        refine ⟨_, [some (.l b), some (.p (.int many)), some (.p (.int most)), some (.p (.lst (bnames.map .str))), some (.p (.lst (names.map .str))), some (.p (.str x))], .l (oneL mn), [some (.l b'), some (.p (.int many)), some (.p (.int most)), some (.p (.lst (bnames.map .str))), some (.p (.lst (names.map .str))), some (.p (.str x))], rfl, rfl, ?_, ?_, todo, B ++ [mn], b', rfl, ?_, ?_, hb', ?_, rfl⟩
        · simp [e9]
        · rw [List.length_map]; exact sl_lt (by omega)
        · rw [e4]; simp [nmsOf, hn]
        · intro m hm
          rcases List.mem_append.mp hm with hm | hm
          · exact e5 m hm
          · rw [List.mem_singleton] at hm; subst hm; exact hmn
        · simp)
    (names.map .str) [] [some (.l b2), some (.p (.int many)), some (.p (.int most)), some (.p (.lst (bnames.map .str))), some (.p (.lst (names.map .str))), none] ⟨names, [], b2, rfl, rfl, fun m hm => (nomatch hm), hb2, rfl, rfl⟩
  obtain ⟨acc', ms', e3, todo, B, b3, h1', h2', h3', h4', h5', h6'⟩ := loop
  have ht : todo = [] := List.map_eq_nil_iff.mp h1'.symm
  subst ht
  rw [List.append_nil] at h2'
  subst h5' h6' h2'
  refine ⟨B, b3, h4', ⟨?_, hnd, hnm, h3'⟩, ?_, ?_⟩
  · intro z; subst z; exact hne rfl
  · have : B.length = k := by rw [← hnl]; unfold nmsOf; rw [List.length_map]
    omega
  · have hl8 : dLst (bnames.map D.str) = some (.l (bnames.map D.str)) := if_pos (sl_of (by decide))
    have hb : [D.str "top", D.str "pay", D.str "ask", D.str "bye", D.str "m", D.str "mm", D.str "zzzz", D.str "tell"] = bnames.map D.str := rfl
    simp only [ff_law_board, fnF, b_law_board]
    simp [hb, hl8, e1, e2, dSl, hcut, e3]
end Mh
namespace Mh
open PySem L2
theorem sorted_keys {β : Type} {R : List (Str × β)} (nd : (R.map (·.1)).Nodup) (dg : ∀ p ∈ R, p.1 ∈ digs) : dSorted (.lst (R.map fun p => D.str p.1)) = some (.l ((canon R).map fun p => D.str p.1)) := by
  have h1 : (R.map fun p => D.str p.1).all isStrD = true := List.all_eq_true.mpr fun d hd => by
    obtain ⟨p, _, rfl⟩ := List.mem_map.mp hd
    rfl
  have h2 := sort_is (fun p : Str × β => D.str p.1) (canon_perm nd dg).symm ((canon_lt R).imp fun {p q} h => by
    rw [leD_str, leD_str]
    exact ⟨decide_eq_true h.1, decide_eq_false h.2⟩)
  show (if _ then _ else _) = _
  rw [if_pos (.inl h1), h2]
theorem headL_cn (m : Mn) : headL m.cn = headL m := rfl
theorem headW_sum {m : Mn} (h : m.Raw) : ((headW m).map (·.length)).sum + (headW m).length ≤ 30 := by
  obtain ⟨k1, _, _⟩ := num_facts h.t1 h.t3
  have l1 : ("menu" : Str).length = 4 := by decide
  have l2 : ("tries" : Str).length = 5 := by decide
  have l3 : ("clear" : Str).length = 5 := by decide
  have l4 := h.nm.le
  unfold headW
  cases m.clears <;> simp only [if_true, if_false, Bool.false_eq_true, List.append_nil, List.cons_append, List.nil_append, List.map_cons, List.map_nil, List.sum_cons, List.sum_nil, List.length_cons, List.length_nil, l1, l2, l3, k1] <;> omega
theorem menuL_cn (m : Mn) : menuL m.cn = headL m :: ((canon m.rows).map rowL ++ [elseL m]) := rfl
def bMT1 : EF := (xM1 dJoin (xC (.str " ")) (f2M dAddA (xCall dLst (aC (xC (.str "menu")) (aC (f2 dIx (xV 0) (xC (.int 0))) (aC (xC (.str "tries")) (aC (xCall (o1 dStrA) (aC (f2 dIx (xV 0) (xC (.int 3))) aN)) aN))))) (xIf (fB (f2 dIx (xV 0) (xC (.int 4)))) (xCall dLst (aC (xC (.str "clear")) aN)) (xCall dLst aN))))
theorem mtext_ok {m : Mn} {x : M} (h : m.Raw) (hx : frz x = .lst (oneL m)) : ff_law_menu_text [x] = some (.p (.str (menuT m.cn)), [none]) := by
  have hl := h.rw.len
  have hc := h.rw.canon
  have hcl := hc.len
  obtain ⟨k1, k2, _⟩ := num_facts h.t1 h.t3
  have is : isStrD (.str " ") = true := rfl
  have is2 : isStrD (.str "\n") = true := rfl
  have ks : (encR m.rows).map (fun kv => kD kv.1) = m.rows.map fun p => D.str p.1 := by unfold encR; rw [List.map_map]; rfl
  have lc1 : ∀ w1 w2 : Option M, lcF (gSet 3) tfY (xCall (o1 dStrA) (aC (xV 3) aN)) [3] (m.rows.map fun p => D.str p.1) [some (.p (.lst (oneL m))), w1, w2, none] [] = some (m.rows.map fun p => D.str p.1, [some (.p (.lst (oneL m))), w1, w2, none]) := fun w1 w2 =>
    lcF_mp _ _ _ m.rows (by omega) fun p hp => ⟨_, _, .p (.str p.1), [some (.p (.lst (oneL m))), w1, w2, some (.p (.str p.1))], rfl, rfl, by simp [dStrA], rfl, rfl⟩
  have srt := sorted_keys h.rw.nd h.rw.dg
  have l5 : (" " : Str).length = 1 := by decide
  have lc2 : ∀ w1 w2 : Option M, lcF (gSet 3) tfY (f2M dAddA (f2M dAddA (xV 3) (xC (.str " "))) (xM1 dJoin (xC (.str " ")) (xDGet (f2 dIx (xV 0) (xC (.int 1))) (xV 3)))) [3] ((canon m.rows).map fun p => D.str p.1) [some (.p (.lst (oneL m))), w1, w2, none] [] = some ((canon m.rows).map fun p => D.str (rowL p), [some (.p (.lst (oneL m))), w1, w2, none]) := fun w1 w2 =>
    lcF_mp _ _ _ (canon m.rows) (by omega) fun p hp => by
      have g := getK_encR (R := m.rows) (z := p.1)
      rw [(canon_mem.mp hp).2] at g
      have j := act_join (hc.ac p hp)
      have b1 := digs_len _ (hc.dg p hp)
      have b2 := actT_len (hc.ac p hp)
      have c1 : p.1.length + (" " : Str).length ≤ sizeLine := sl_of (by omega)
      have c2 : (p.1 ++ " ").length + (actT p.2).length ≤ sizeLine := sl_of (by rw [len_app]; omega)
      exact ⟨_, _, .p (.str (rowL p)), [some (.p (.lst (oneL m))), w1, w2, some (.p (.str p.1))], rfl, rfl, by simp [oneL, atI, ixN, g, j, is, c1, c2, dAddA, rowL], rfl, rfl⟩
  have hw := headW_sum h
  have hj1 := dJoin_sp (d := .lst ((headW m).map .str)) (ls := headW m) rfl (by omega)
  have hsum := menuL_sum h.cn.raw
  have hj2 := dJoin_nl (d := .lst ((menuL m.cn).map .str)) (ls := menuL m.cn) rfl (by omega)
  have jt := act_join h.tl
  have lt := actT_len h.tl
  have e5 : (("else " : Str) ++ actT m.tail) = elseL m := by
    have a : (("else" : Str) ++ " ") = "else " := by decide +kernel
    unfold elseL
    rw [a]
  have l4 : ("else " : Str).length = 5 := by decide
  have c5 : ("else " : Str).length + (actT m.tail).length ≤ sizeLine := sl_of (by omega)
  have c6 : (canon m.rows).length + 1 ≤ sizeLine := sl_of (by omega)
  have c7 : 4 ≤ sizeLine := sl_of (by omega)
  have c8 : 1 ≤ sizeLine := sl_of (by omega)
  have hd : ∀ w1 w2 w3 : Option M, bMT1 [some x, w1, w2, w3] = some (.p (.str (headL m)), [some (.p (.lst (oneL m))), w1, w2, w3]) := by
    intro w1 w2 w3
    unfold bMT1
    have : ∀ b : Bool, m.clears = b → dJoin (.str " ") (.lst ([.str "menu", .str m.name, .str "tries", .str (Str.ofString (toString (m.tries : Int)))] ++ (if b then [D.str "clear"] else []))) = some (.p (.str (headL m))) := by
      intro b hb
      rw [show headL m = Txt.join " " (headW m) from rfl, ← hj1]
      unfold headW
      rw [hb]
      cases b <;> rfl
    have ds : dStrA (.int m.tries) = some (.p (.str (Str.ofString (toString (m.tries : Int))))) := if_pos k2
    have c4 : 4 + 1 ≤ sizeLine := sl_of (by omega)
    have t1 := this true
    have t2 := this false
    generalize headL m = hL at *
    generalize Str.ofString (toString (m.tries : Int)) = tx at *
    have l4' : ∀ a b c d : D, dLst [a, b, c, d] = some (.l [a, b, c, d]) := fun a b c d => if_pos c7
    have l1' : ∀ a : D, dLst [a] = some (.l [a]) := fun a => if_pos c8
    have l0' : dLst [] = some (.l []) := rfl
    cases hcc : m.clears
    · have t2 := t2 hcc
      simp at t2
      simp [hx, oneL, atI, ixN, ds, l4', l1', l0', c7, hcc, is, t2]
    · have t1 := t1 hcc
      simp at t1
      simp [hx, oneL, atI, ixN, ds, l4', l1', l0', c4, hcc, is, t1]
  have ee : ff_law_menu_text = fnF 4 1 [] (sSeq (sSet 1 bMT1) (sSeq (sSet 2 (xLc (iL (xCall (o1 dSorted) (aC (xLc (iKD (f2 dIx (xV 0) (xC (.int 1)))) (gSet 3) tfY (xCall (o1 dStrA) (aC (xV 3) aN)) [3]) aN))) (gSet 3) tfY (f2M dAddA (f2M dAddA (xV 3) (xC (.str " "))) (xM1 dJoin (xC (.str " ")) (xDGet (f2 dIx (xV 0) (xC (.int 1))) (xV 3)))) [3]))
    (sRet (xM1 dJoin (xC (.str "\n")) (f2M dAddA (f2M dAddA (xCall dLst (aC (xV 1) aN)) (xV 2)) (xCall dLst (aC (f2M dAddA (xC (.str "else ")) (xM1 dJoin (xC (.str " ")) (f2 dIx (xV 0) (xC (.int 2))))) aN))))))) := rfl
  have l1' : ∀ a : D, dLst [a] = some (.l [a]) := fun a => if_pos c8
  have c9 : 1 + (canon m.rows).length ≤ sizeLine := by omega
  have c10 : (canon m.rows).length + 1 + 1 ≤ sizeLine := sl_of (by omega)
  rw [menuL_cn] at hj2
  have ej : (D.lst ((headL m :: ((canon m.rows).map rowL ++ [elseL m])).map D.str)) = .lst (D.str (headL m) :: ((canon m.rows).map (fun p => D.str (rowL p)) ++ [D.str (elseL m)])) := by simp [Function.comp_def]
  rw [ej] at hj2
  simp only [oneL] at lc1 lc2 hd
  simp only [ee, fnF]
  simp [hd, oneL, atI, ixN, ks, lc1, srt, lc2, l1', c9, c10, c5, e5, jt, is, is2, hj2, menuT, menuL_cn, -List.map_map]
end Mh
namespace Mh
open PySem L2
theorem RwsD.len {names : List Str} {R : List (Str × Act)} (h : RwsD names R) : R.length ≤ 7 := by
  have : (R.map (·.1)).length ≤ dgs.length := List.Nodup.length_le_of_subset h.nd fun x hx => by
    obtain ⟨p, hp, rfl⟩ := List.mem_map.mp hx
    exact h.dg p hp
  rw [List.length_map] at this
  exact this
theorem MnD.cn {names : List Str} {m : Mn} (h : MnD names m) : MnD names m.cn where
  rws := {
    nd := canon_nd _
    dg := fun p hp => h.rws.dg p (lookup_mem (canon_mem.mp hp).2)
    ws := fun p hp => h.rws.ws p (lookup_mem (canon_mem.mp hp).2) }
  tl := h.tl
  t1 := h.t1
  t3 := h.t3
theorem MnD.nms {names : List Str} {m : Mn} (h : MnD names m) : ∀ z ∈ m.nms, z ∈ names := fun z hz => by
  simp only [Mn.nms, Mn.acts, List.mem_flatMap, List.mem_append, List.mem_map, List.mem_singleton] at hz
  obtain ⟨b, hb, hz⟩ := hz
  rcases hb with ⟨p, hp, rfl⟩ | rfl
  · exact (h.rws.ws p hp).nms z hz
  · exact h.tl.nms z hz
theorem Drawn.lns {names : List Str} {a : Act} (h : Drawn names a) : ∀ x ∈ a.lns, x ∈ Mh.lns := fun x hx => by
  cases a with
  | line y => rw [show x = y from by simpa [Act.lns] using hx]; exact h.ln y rfl
  | _ => cases hx
theorem MnD.lns {names : List Str} {m : Mn} (h : MnD names m) : ∀ z ∈ m.lns, z ∈ Mh.lns := fun z hz => by
  simp only [Mn.lns, Mn.acts, List.mem_flatMap, List.mem_append, List.mem_map, List.mem_singleton] at hz
  obtain ⟨b, hb, hz⟩ := hz
  rcases hb with ⟨p, hp, rfl⟩ | rfl
  · exact (h.rws.ws p hp).lns z hz
  · exact h.tl.lns z hz
theorem lns_le (a : Act) : a.lns.length ≤ 1 := by cases a <;> simp [Act.lns]
theorem mlns_le (m : Mn) : m.lns.length ≤ m.rows.length + 1 := by
  unfold Mn.lns
  rw [List.length_flatMap]
  have := sum_le (fun a : Act => a.lns.length) 1 m.acts fun a _ => lns_le a
  have e : m.acts.length = m.rows.length + 1 := by simp [Mn.acts]
  omega
theorem rawL_le {B : List Mn} {k : Nat} (h : ∀ m ∈ B, m.rows.length ≤ k) : (rawL B).length ≤ (k + 1) * B.length := by
  unfold rawL
  rw [List.length_flatMap]
  exact sum_le _ (k + 1) B fun m hm => by have := mlns_le m; have := h m hm; omega
theorem nmsOf_cn (B : List Mn) : nmsOf (B.map Mn.cn) = nmsOf B := by unfold nmsOf; rw [List.map_map]; rfl
theorem BdD.raw {B : List Mn} (h : BdD B) : ∀ m ∈ B, m.Raw := fun m hm => (h.mn m hm).raw h.nms (h.nms _ (List.mem_map.mpr ⟨m, hm, rfl⟩))
theorem BdD.len {B : List Mn} (h : BdD B) : B.length ≤ 8 := by
  have : (nmsOf B).length ≤ bnames.length := List.Nodup.length_le_of_subset h.nd h.nm
  unfold nmsOf at this
  rw [List.length_map] at this
  exact this
theorem BdD.cn {B : List Mn} (h : BdD B) : BdD (B.map Mn.cn) where
  ne := fun z => h.ne (List.map_eq_nil_iff.mp z)
  nd := by rw [nmsOf_cn]; exact h.nd
  nm := by rw [nmsOf_cn]; exact h.nm
  mn := fun m hm => by
    obtain ⟨m', hm', rfl⟩ := List.mem_map.mp hm
    rw [nmsOf_cn]
    exact (h.mn m' hm').cn
theorem BdD.ok {B : List Mn} (h : BdD B) (hl : B.length ≤ 7) (hc : ∀ m ∈ B, canon m.rows = m.rows) : BdOk B where
  ne := h.ne
  mn := fun m hm => by
    have := (h.raw m hm).cn
    have e : m.cn = m := by unfold Mn.cn; rw [hc m hm]
    rw [e] at this
    exact this
  nd := h.nd
  cl := fun m hm => (h.mn m hm).nms
  len := by omega
  ln := by
    have := rawL_le (B := B) (k := 7) fun m hm => (h.mn m hm).rws.len
    omega
theorem BdD.okc {B : List Mn} (h : BdD B) (hl : B.length ≤ 7) : BdOk (B.map Mn.cn) := h.cn.ok (by rw [List.length_map]; exact hl) fun m hm => by
  obtain ⟨m', hm', rfl⟩ := List.mem_map.mp hm
  exact canon_idem _
theorem dJoin_map {α : Type} (f : α → Str) (B : List α) (hs : ((B.map f).map (·.length)).sum + (B.map f).length ≤ 1000000) : dJoin (.str "\n") (.lst (B.map fun m => D.str (f m))) = some (.p (.str (Txt.join "\n" (B.map f)))) :=
  dJoin_nl (by show some _ = some _; rw [List.map_map]; rfl) hs
theorem text_ok {B : List Mn} {x : M} (h : ∀ m ∈ B, m.Raw) (hl : B.length ≤ 30) (hx : frz x = .lst (B.map fun m => .lst (oneL m))) : ff_law_text [x] = some (.p (.str (bdT (B.map Mn.cn))), [none]) := by
  have l1 : lcF (gSet 1) tfY (xFn ff_law_menu_text [] [none] (aC (xV 1) aN)) [1] (B.map fun m => .lst (oneL m)) [some (.p (.lst (B.map fun m => .lst (oneL m)))), none] [] = some (B.map fun m => .str (menuT m.cn), [some (.p (.lst (B.map fun m => .lst (oneL m)))), none]) :=
    lcF_mp _ _ _ B (by omega) fun m hm => by
      have := mtext_ok (x := .p (.lst (oneL m))) (h m hm) rfl
      refine ⟨_, [some (.p (.lst (B.map fun m => .lst (oneL m)))), some (.p (.lst (oneL m)))], .p (.str (menuT m.cn)), [some (.p (.lst (B.map fun m => .lst (oneL m)))), some (.p (.lst (oneL m)))], rfl, rfl, ?_, rfl, rfl⟩
      simp [this]
  have hs : ((B.map fun m => menuT m.cn).map (·.length)).sum + (B.map fun m => menuT m.cn).length ≤ 1000000 := by
    have h1 := sum_le (fun m : Mn => (menuT m.cn).length) 1000 B fun m hm => menuT_len (h m hm).cn.raw
    rw [List.map_map, List.length_map]
    simp only [Function.comp_def]
    omega
  have hj := dJoin_map (fun m : Mn => menuT m.cn) B hs
  have is : isStrD (.str "\n") = true := rfl
  have e : bdT (B.map Mn.cn) = Txt.join "\n" (B.map fun m => menuT m.cn) := by unfold bdT; rw [List.map_map]; rfl
  rw [e]
  simp only [ff_law_text, fnF, b_law_text]
  simp [hx, l1, hj, is, -List.map_map]
theorem home_ok {B : List Mn} {x : M} (h : BdD B) (hl : B.length ≤ 7) (hx : frz x = .lst (B.map fun m => .lst (oneL m))) : ff_law_home [x] = some (.o 1 (fsBd (B.map Mn.cn)), [none]) := by
  have t := text_ok (x := .p (.lst (B.map fun m => .lst (oneL m)))) h.raw (by omega) rfl
  have r := bread_ok (h.okc hl)
  simp [ff_law_home, fnF, b_law_home, hx, t, r]
end Mh
namespace Mh
open PySem L2
theorem seq_nx {f g : SF} {a b : En} (h : f a = some (.nx, b)) : sSeq f g a = g b := by rw [sSeq_ap, h]; rfl
theorem forF_rng {tg : GF} {body : SF} (I : En → Prop) (step : ∀ (i : Int) ms, 0 ≤ i → I ms → ∃ m1 o, tg (.p (.int i)) ms = some m1 ∧ body m1 = some (.nx, o) ∧ I o) : ∀ (n : Nat) (i : Int) ms, 0 ≤ i → I ms → ∃ ms', forF tg body (rngD i n) ms = some (.nx, ms') ∧ I ms'
  | 0, i, ms, _, h => ⟨ms, rfl, h⟩
  | n + 1, i, ms, hi, h => by
    obtain ⟨m1, o, e1, e2, h2⟩ := step i ms hi h
    obtain ⟨ms', e3, h3⟩ := forF_rng I step n (i + 1) o (by omega) h2
    exact ⟨ms', by rw [rngD_succ]; simp [forF, e1, e2, e3], h3⟩
/-- a for over a list, the invariant knows what is done and what is left -/
theorem forF_list {α : Type} {tg : GF} {body : SF} (enc : α → D) (I : List α → List α → En → Prop) (step : ∀ x done todo ms, I done (x :: todo) ms → ∃ m1 o, tg (.p (enc x)) ms = some m1 ∧ body m1 = some (.nx, o) ∧ I (done ++ [x]) todo o) : ∀ (todo done : List α) ms, I done todo ms → ∃ ms', forF tg body (todo.map enc) ms = some (.nx, ms') ∧ I (done ++ todo) [] ms'
  | [], done, ms, h => ⟨ms, rfl, by rw [List.append_nil]; exact h⟩
  | x :: todo, done, ms, h => by
    obtain ⟨m1, o, e1, e2, h2⟩ := step x done todo ms h
    obtain ⟨ms', e3, h3⟩ := forF_list enc I step todo (done ++ [x]) o h2
    exact ⟨ms', by rw [List.map_cons]; simp [forF, e1, e2, e3], by rw [List.append_assoc] at h3; exact h3⟩
theorem lookup_perm {β : Type} {T U : List (Str × β)} (h : T.Perm U) (nd : (T.map (·.1)).Nodup) (d : Str) : T.lookup d = U.lookup d := by
  have nd2 : (U.map (·.1)).Nodup := (h.map _).nodup_iff.mp nd
  cases e : T.lookup d with
  | some a => exact (lookup_of nd2 (h.mem_iff.mp (lookup_mem e))).symm
  | none =>
    cases e2 : U.lookup d with
    | none => rfl
    | some a => rw [lookup_of nd (h.mem_iff.mpr (lookup_mem e2))] at e; cases e
theorem canon_perm_eq {β : Type} {T U : List (Str × β)} (h : T.Perm U) (nd : (T.map (·.1)).Nodup) : canon T = canon U := canon_ext fun d _ => lookup_perm h nd d
theorem lookup_app {β : Type} (T U : List (Str × β)) (d : Str) : (T ++ U).lookup d = (T.lookup d).or (U.lookup d) := by
  induction T with
  | nil => rfl
  | cons p T ih =>
    obtain ⟨k, a⟩ := p
    rw [List.cons_append, List.lookup_cons, List.lookup_cons, ih]
    split <;> simp
theorem lookup_filter {β : Type} (T : List (Str × β)) (d x : Str) : (T.filter fun p => decide (p.1 ≠ d)).lookup x = if x = d then none else T.lookup x := by
  induction T with
  | nil => simp
  | cons p T ih =>
    obtain ⟨k, a⟩ := p
    by_cases hk : k = d
    · subst hk
      rw [List.filter_cons_of_neg (by simp), ih, List.lookup_cons]
      by_cases hx : x = k
      · simp [hx]
      · have : (x == k) = false := by simpa using hx
        rw [if_neg hx, if_neg hx, this]
    · rw [List.filter_cons_of_pos (by simpa using hk), List.lookup_cons, List.lookup_cons, ih]
      by_cases hx : x = k
      · subst hx; simp [hk]
      · have : (x == k) = false := by simpa using hx
        rw [this]
end Mh
namespace Mh
open PySem L2
/-! ### calls -/
structure CSt where
  deep : List Str
  rest : Nat
  over : Option Str
  many : Nat
  begun : List Str
  left : List Nat
def sL (l : List Nat) : Str := ⟨l.toArray⟩
def menuOf (B : List Mn) (n : Str) : Mn := (B.find? fun m => decide (m.name = n)).getD ⟨n, [], .out, 1, false⟩
def CSt.hd (s : CSt) : Str := s.deep.headD ""
def finC (how : Str) (s : CSt) : CSt := { s with deep := [], rest := 0, over := some how, left := [] }
def startC (B : List Mn) (deep : List Str) (s : CSt) : CSt := match deep with
  | [] => finC "out" s
  | n :: st => { s with deep := n :: st, rest := (menuOf B n).tries, begun := s.begun ++ [n], left := if (menuOf B n).clears then [] else s.left }
def happenC (B : List Mn) (a : Act) (s : CSt) : CSt := match a with
  | .line x => finC x s
  | .out => finC "out" s
  | .again => startC B s.deep s
  | .main => startC B [firstOf B] s
  | .back => startC B s.deep.tail s
  | .go n => startC B (n :: s.deep.tail) s
  | .call n t => startC B (n :: t :: s.deep.tail) s
def wasteC (B : List Mn) (s : CSt) : CSt := if s.rest - 1 = 0 then happenC B (menuOf B s.hd).tail { s with rest := s.rest - 1 } else { s with rest := s.rest - 1 }
def pressC (B : List Mn) (d : Str) (s : CSt) : CSt := match (menuOf B s.hd).rows.lookup d with
  | some a => happenC B a { s with many := s.many + 1 }
  | none => wasteC B { s with many := s.many + 1 }
def loopC (B : List Mn) : Nat → CSt → CSt
  | 0, s => s
  | n + 1, s => if s.over.isSome then s else match s.left with
    | [] => s
    | c :: r => loopC B n (pressC B (sL [c]) { s with left := r })
/-- an event: nothing pressed first or not, digits -/
structure Ev where
  late : Bool
  ds : List Nat
def evT (e : Ev) : Str := sL ((if e.late then [45] else []) ++ e.ds)
def dgN : List Nat := [48, 49, 50, 51, 52, 53, 54, 55, 56, 57]
structure Ev.Ok (e : Ev) : Prop where
  dg : ∀ c ∈ e.ds, c ∈ dgN
  some : e.late = false → e.ds ≠ []
  one : e.late = true → e.ds.length ≤ 1
  len : e.ds.length ≤ 100
def doC (B : List Mn) (e : Ev) (s : CSt) : CSt := loopC B e.ds.length (if e.late then wasteC B { s with left := e.ds } else { s with left := e.ds })
def zeroC : CSt := ⟨[], 0, none, 0, [], []⟩
def beginC (B : List Mn) : CSt := startC B [firstOf B] zeroC
def runC (B : List Mn) (es : List Ev) : CSt := es.foldl (fun s e => doC B e s) (beginC B)
/-! ### what stays so -/
structure CallOk (B : List Mn) (s : CSt) : Prop where
  wait : s.over = none → s.deep ≠ [] ∧ 1 ≤ s.rest
  done : ∀ how, s.over = some how → s.deep = [] ∧ s.rest = 0 ∧ s.left = []
  mem : ∀ z ∈ s.deep, z ∈ nmsOf B
  dl : s.deep.length ≤ s.begun.length
/-- what a board must have for its calls -/
structure BdC (B : List Mn) : Prop where
  ne : B ≠ []
  nd : (nmsOf B).Nodup
  tr : ∀ m ∈ B, 1 ≤ m.tries
  cl : ∀ m ∈ B, ∀ a ∈ m.acts, ∀ z ∈ a.nms, z ∈ nmsOf B
theorem menuOf_mem {B : List Mn} {n : Str} (h : n ∈ nmsOf B) : menuOf B n ∈ B ∧ (menuOf B n).name = n := by
  unfold menuOf
  obtain ⟨m, hm, e⟩ := List.mem_map.mp h
  cases hf : B.find? fun m => decide (m.name = n) with
  | none =>
    have := List.find?_eq_none.mp hf m hm
    simp [e] at this
  | some m' =>
    have h1 := List.mem_of_find?_eq_some hf
    have h2 := List.find?_some hf
    exact ⟨h1, by simpa using h2⟩
theorem menuOf_name {B : List Mn} (nd : (nmsOf B).Nodup) {m : Mn} (h : m ∈ B) : menuOf B m.name = m := by
  obtain ⟨h1, h2⟩ := menuOf_mem (B := B) (n := m.name) (List.mem_map.mpr ⟨m, h, rfl⟩)
  have : (B.map (·.name)).Nodup := nd
  exact nd_inj this h1 h h2
theorem first_in {B : List Mn} (h : B ≠ []) : firstOf B ∈ nmsOf B := by
  cases B with
  | nil => exact absurd rfl h
  | cons m B => exact List.mem_cons_self
theorem row_act {m : Mn} {d : Str} {a : Act} (h : m.rows.lookup d = some a) : a ∈ m.acts := by
  unfold Mn.acts
  exact List.mem_append.mpr (.inl (List.mem_map.mpr ⟨(d, a), lookup_mem h, rfl⟩))
theorem tail_act (m : Mn) : m.tail ∈ m.acts := by unfold Mn.acts; exact List.mem_append.mpr (.inr (by simp))
/-- the invariant with a condition less: what an action may find -/
theorem fin_ok {B : List Mn} {s : CSt} {how : Str} : CallOk B (finC how s) := ⟨fun h => (nomatch h), fun _ _ => ⟨rfl, rfl, rfl⟩, fun _ h => (nomatch h), Nat.zero_le _⟩
theorem startC_ok {B : List Mn} (hB : BdC B) {s : CSt} {deep : List Str} (ho : s.over = none) (hm : ∀ z ∈ deep, z ∈ nmsOf B) (hl : deep.length ≤ s.begun.length + 1) : CallOk B (startC B deep s) := by
  cases deep with
  | nil => exact fin_ok
  | cons n st =>
    have h1 := menuOf_mem (hm n List.mem_cons_self)
    refine ⟨fun _ => ⟨by simp [startC], hB.tr _ h1.1⟩, fun how h => ?_, hm, by simpa [startC] using hl⟩
    exact absurd (show s.over = some how from h) (by rw [ho]; exact fun z => nomatch z)
theorem happenC_ok {B : List Mn} (hB : BdC B) {s : CSt} {a : Act} (ho : s.over = none) (hm : ∀ z ∈ s.deep, z ∈ nmsOf B) (hl : s.deep.length ≤ s.begun.length) (hne : s.deep ≠ []) (ha : ∀ z ∈ a.nms, z ∈ nmsOf B) : CallOk B (happenC B a s) := by
  have htl : s.deep.tail.length = s.deep.length - 1 := List.length_tail
  have hp : 0 < s.deep.length := List.length_pos_iff.mpr hne
  have ht : ∀ z ∈ s.deep.tail, z ∈ nmsOf B := fun z hz => hm z (List.mem_of_mem_tail hz)
  cases a with
  | line x => exact fin_ok
  | out => exact fin_ok
  | again => exact startC_ok hB ho hm (by omega)
  | main => exact startC_ok hB ho (by intro z hz; rw [List.mem_singleton] at hz; subst hz; exact first_in hB.ne) (by simp)
  | back => exact startC_ok hB ho ht (by omega)
  | go n =>
    have h1 := ha n (by simp [Act.nms])
    refine startC_ok (deep := n :: s.deep.tail) hB ho (fun z hz => ?_) (by rw [List.length_cons]; omega)
    rcases List.mem_cons.mp hz with e | hz
    · rw [e]; exact h1
    · exact ht z hz
  | call n t =>
    have h1 := ha n (by simp [Act.nms])
    have h2 := ha t (by simp [Act.nms])
    refine startC_ok (deep := n :: t :: s.deep.tail) hB ho (fun z hz => ?_) (by rw [List.length_cons, List.length_cons]; omega)
    rcases List.mem_cons.mp hz with e | hz
    · rw [e]; exact h1
    · rcases List.mem_cons.mp hz with e | hz
      · rw [e]; exact h2
      · exact ht z hz
theorem hd_mem {B : List Mn} {s : CSt} (hne : s.deep ≠ []) (hm : ∀ z ∈ s.deep, z ∈ nmsOf B) : s.hd ∈ nmsOf B ∧ s.deep = s.hd :: s.deep.tail := by
  unfold CSt.hd
  cases h : s.deep with
  | nil => exact absurd h hne
  | cons n st => exact ⟨hm n (by rw [h]; exact List.mem_cons_self), rfl⟩
theorem wasteC_ok {B : List Mn} (hB : BdC B) {s : CSt} (h : CallOk B s) (ho : s.over = none) : CallOk B (wasteC B s) := by
  obtain ⟨hne, hr⟩ := h.wait ho
  obtain ⟨hh, _⟩ := hd_mem hne h.mem
  obtain ⟨hm, _⟩ := menuOf_mem hh
  unfold wasteC
  split
  · exact happenC_ok hB ho h.mem h.dl hne (hB.cl _ hm _ (tail_act _))
  · refine ⟨fun _ => ⟨hne, by show 1 ≤ s.rest - 1; omega⟩, fun how e => ?_, h.mem, h.dl⟩
    exact absurd (show s.over = some how from e) (by rw [ho]; exact fun z => nomatch z)
theorem pressC_ok {B : List Mn} (hB : BdC B) {s : CSt} {d : Str} (h : CallOk B s) (ho : s.over = none) : CallOk B (pressC B d s) := by
  obtain ⟨hne, hr⟩ := h.wait ho
  obtain ⟨hh, _⟩ := hd_mem hne h.mem
  obtain ⟨hm, _⟩ := menuOf_mem hh
  unfold pressC
  split
  · rename_i a ea
    exact happenC_ok hB ho h.mem h.dl hne (hB.cl _ hm _ (row_act ea))
  · exact wasteC_ok hB ⟨fun _ => ⟨hne, hr⟩, fun how e => absurd (show s.over = some how from e) (by rw [ho]; exact fun z => nomatch z), h.mem, h.dl⟩ ho
theorem CallOk.left {B : List Mn} {s : CSt} (h : CallOk B s) (ho : s.over = none) (l : List Nat) : CallOk B { s with left := l } :=
  ⟨fun _ => h.wait ho, fun how e => absurd (show s.over = some how from e) (by rw [ho]; exact fun z => nomatch z), h.mem, h.dl⟩
theorem loopC_ok {B : List Mn} (hB : BdC B) : ∀ (n : Nat) {s : CSt}, CallOk B s → CallOk B (loopC B n s)
  | 0, _, h => h
  | n + 1, s, h => by
    unfold loopC
    split
    · exact h
    · rename_i ho
      have ho' : s.over = none := by simpa using ho
      split
      · exact h
      · exact loopC_ok hB n (pressC_ok hB (h.left ho' _) ho')
theorem doC_ok {B : List Mn} (hB : BdC B) {e : Ev} {s : CSt} (h : CallOk B s) (ho : s.over = none) : CallOk B (doC B e s) := by
  unfold doC
  refine loopC_ok hB _ ?_
  split
  · exact wasteC_ok hB (h.left ho _) ho
  · exact h.left ho _
theorem beginC_ok {B : List Mn} (hB : BdC B) : CallOk B (beginC B) := startC_ok hB rfl (by intro z hz; rw [List.mem_singleton] at hz; subst hz; exact first_in hB.ne) (by simp)
/-- all events are done while the call goes on -/
def GoesOn (B : List Mn) : List Ev → CSt → Prop
  | [], _ => True
  | e :: es, s => s.over = none ∧ GoesOn B es (doC B e s)
theorem run_ok {B : List Mn} (hB : BdC B) : ∀ {es : List Ev} {s : CSt}, CallOk B s → GoesOn B es s → CallOk B (es.foldl (fun s e => doC B e s) s)
  | [], _, h, _ => h
  | e :: es, s, h, g => run_ok (es := es) (s := doC B e s) hB (doC_ok hB h g.1) g.2
/-! ### how many menus started -/
theorem start_len (B : List Mn) (deep : List Str) (s : CSt) : (startC B deep s).begun.length ≤ s.begun.length + 1 := by
  cases deep with
  | nil => exact Nat.le_succ _
  | cons n st => simp [startC]
theorem happen_len (B : List Mn) (a : Act) (s : CSt) : (happenC B a s).begun.length ≤ s.begun.length + 1 := by
  cases a <;> first | exact Nat.le_succ _ | exact start_len B _ s
theorem waste_len (B : List Mn) (s : CSt) : (wasteC B s).begun.length ≤ s.begun.length + 1 := by
  unfold wasteC
  split
  · exact happen_len B _ _
  · exact Nat.le_succ _
theorem press_len (B : List Mn) (d : Str) (s : CSt) : (pressC B d s).begun.length ≤ s.begun.length + 1 := by
  unfold pressC
  split
  · exact happen_len B _ _
  · exact waste_len B _
theorem loop_len (B : List Mn) : ∀ (n : Nat) (s : CSt), (loopC B n s).begun.length ≤ s.begun.length + n
  | 0, s => Nat.le_refl _
  | n + 1, s => by
    unfold loopC
    split
    · omega
    · split
      · omega
      · rename_i c r _
        have h1 := loop_len B n (pressC B (sL [c]) { s with left := r })
        have h2 := press_len B (sL [c]) { s with left := r }
        have h3 : ({ s with left := r } : CSt).begun = s.begun := rfl
        rw [h3] at h2
        omega
theorem do_len (B : List Mn) (e : Ev) (s : CSt) : (doC B e s).begun.length ≤ s.begun.length + 1 + e.ds.length := by
  unfold doC
  have h1 := loop_len B e.ds.length (if e.late then wasteC B { s with left := e.ds } else { s with left := e.ds })
  split at h1
  · rename_i hl
    have h2 := waste_len B { s with left := e.ds }
    have h3 : ({ s with left := e.ds } : CSt).begun = s.begun := rfl
    rw [h3] at h2
    rw [if_pos hl]
    omega
  · rename_i hl
    have h3 : ({ s with left := e.ds } : CSt).begun = s.begun := rfl
    rw [h3] at h1
    rw [if_neg hl]
    omega
/-! ### pending digits get less -/
theorem start_left (B : List Mn) (deep : List Str) (s : CSt) : (startC B deep s).left.length ≤ s.left.length := by
  cases deep with
  | nil => simp [startC, finC]
  | cons n st => simp only [startC]; split <;> simp
theorem happen_left (B : List Mn) (a : Act) (s : CSt) : (happenC B a s).left.length ≤ s.left.length := by
  cases a <;> first | exact start_left B _ s | simp [happenC, finC]
theorem waste_left (B : List Mn) (s : CSt) : (wasteC B s).left.length ≤ s.left.length := by
  unfold wasteC
  split
  · exact happen_left B _ _
  · exact Nat.le_refl _
theorem press_left (B : List Mn) (d : Str) (s : CSt) : (pressC B d s).left.length ≤ s.left.length := by
  unfold pressC
  split
  · exact happen_left B _ _
  · exact waste_left B _
end Mh
namespace Mh
open PySem L2
/-! ### texts as lists -/
@[simp] theorem sL_len (l : List Nat) : (sL l).length = l.length := by simp [sL, Str.length]
theorem sL_list (l : List Nat) : (sL l).cps.toList = l := by simp [sL]
theorem str_ext {a b : Str} (h : a.cps.toList = b.cps.toList) : a = b := by
  obtain ⟨⟨a⟩⟩ := a
  obtain ⟨⟨b⟩⟩ := b
  simp at h
  subst h
  rfl
theorem sL_of (x : Str) : sL x.cps.toList = x := str_ext (sL_list _)
theorem sL_inj {a b : List Nat} (h : sL a = sL b) : a = b := by rw [← sL_list a, h, sL_list]
theorem sL_nil : sL [] = "" := str_ext (by decide +kernel)
theorem sL_ne {c : Nat} {r : List Nat} : ¬ sL (c :: r) = "" := fun h => by rw [← sL_nil] at h; cases sL_inj h
theorem sL_ix {c : Nat} {r : List Nat} (h : (c :: r).length ≤ 1000000) : dIx (.str (sL (c :: r))) (.int 0) = some (.str (sL [c])) := by
  have hs : (sL (c :: r)).length ≤ sizeLine := sl_of (by rw [sL_len]; exact h)
  show (if _ then _ else _) = _
  rw [if_pos hs, sL_list]
  simp [atI, ixN, sL]
theorem cutS_eq (z : Str) (lo hi : Option Int) : cutS z lo hi = sL (cutG z.cps.toList lo hi) := by
  unfold cutS cutG
  rfl
theorem sL_cut {c : Nat} {r : List Nat} (h : (c :: r).length ≤ 1000000) : dSl (some 1) none (.str (sL (c :: r))) = some (.p (.str (sL r))) := by
  have hs : (sL (c :: r)).length ≤ sizeLine := sl_of (by rw [sL_len]; exact h)
  show (if _ then _ else _) = _
  rw [if_pos hs, cutS_eq, sL_list]
  have : cutG (c :: r) (some ((1 : Nat) : Int)) none = r := by
    unfold cutG
    rw [HT.sIx_none, HT.sIx_nat]
    simp
  have e : ((1 : Nat) : Int) = 1 := rfl
  rw [e] at this
  rw [this]
theorem repl_ev {e : Ev} (h : e.Ok) : Txt.replace (evT e) "-" "" = sL e.ds := by
  refine str_ext ?_
  have e1 : ("-" : Str) = ⟨#[45]⟩ := by decide +kernel
  have e2 : ("" : Str) = ⟨#[]⟩ := by decide +kernel
  rw [e1, e2, PyProof.Rows.replace_strikes, sL_list]
  unfold evT
  rw [sL_list, List.filter_append]
  have h1 : e.ds.filter (· != 45) = e.ds := List.filter_eq_self.mpr fun c hc => by
    have := h.dg c hc
    have : c ≠ 45 := fun z => by subst z; revert this; decide
    simpa using this
  rw [h1]
  cases e.late <;> simp
/-! ### the program's call -/
def fsCall (B : List Mn) (s : CSt) : List (Str × M) :=
  [("plan", .p (obBd B)), ("deep", .p (.tup (s.deep.map .str))), ("rest", .p (.int s.rest)), ("over", .p (encL' s.over)), ("many", .p (.int s.many)), ("started_names", .l (s.begun.map .str)), ("pending", .p (.str (sL s.left)))]
where encL' : Option Str → D
  | none => .non
  | some x => .str x
theorem finish_ok {B : List Mn} {s : CSt} {how : Str} : ff_Call_finish [.o 3 (fsCall B s), .p (.str how)] = some (.p .non, [some (.o 3 (fsCall B (finC how s))), none]) := by
  simp [ff_Call_finish, fnF, b_Call_finish, slO, fsCall, putM, dTup, finC, sL_nil, fsCall.encL']
theorem isO_menu (B : List Mn) : isO 1 "menu" (obBd B) = true := rfl
theorem bmenu_at {B : List Mn} (hB : BdOk B) {n : Str} (hn : n ∈ nmsOf B) : ff_Board_menu [.p (obBd B), .p (.str n)] = some (.p (obMn (menuOf B n)), [none, none]) := by
  obtain ⟨h1, h2⟩ := menuOf_mem hn
  have := bmenu_ok hB h1
  rw [h2] at this
  exact this
theorem start_ok {B : List Mn} (hB : BdOk B) {s : CSt} {deep : List Str} (hm : ∀ z ∈ deep, z ∈ nmsOf B) (hl : s.begun.length < 100000) : ff_Call_start [.o 3 (fsCall B s), .p (.tup (deep.map .str))] = some (.p .non, [some (.o 3 (fsCall B (startC B deep s))), none]) := by
  cases deep with
  | nil =>
    have f := finish_ok (B := B) (s := s) (how := "out")
    have io : ((fsCall B s).lookup ("finish" : Str)).isNone = true := rfl
    simp only [ff_Call_start, fnF, b_Call_start]
    generalize fsCall B s = F at *
    simp [slO, io, f, putB, isHole, startC]
  | cons n st =>
    have hn := hm n List.mem_cons_self
    have bm := bmenu_at hB hn
    obtain ⟨h1, h2⟩ := menuOf_mem hn
    have mn := lk_name (menuOf B n)
    have mt := lk_tries (menuOf B n)
    have mc := lk_clears (menuOf B n)
    rw [h2] at mn
    have hz : s.begun.length < sizeLine := sl_lt (by omega)
    have i0 : atI (D.str n :: st.map D.str) 0 = some (.str n) := by simp [atI, ixN]
    have hne : ¬ ((st.length : Int) + 1 = 0) := by omega
    simp only [ff_Call_start, fnF, b_Call_start]
    cases hc : (menuOf B n).clears with
    | false =>
      rw [hc] at mc
      simp [isO_menu, slO, fsCall, i0, bm, mn, mt, mc, putM, pM, dTuple, fldL, idxF, hz, startC, hc, hne, List.lookup]
    | true =>
      rw [hc] at mc
      simp [isO_menu, slO, fsCall, i0, bm, mn, mt, mc, putM, pM, dTuple, fldL, idxF, hz, startC, hc, hne, List.lookup, sL_nil]
end Mh
namespace Mh
open PySem L2
section
variable (B : List Mn) (s : CSt)
theorem lc_plan : ((fsCall B s).lookup ("plan" : Str)).bind pM = some (obBd B) := rfl
theorem lc_deep : ((fsCall B s).lookup ("deep" : Str)).bind pM = some (.tup (s.deep.map .str)) := rfl
theorem lc_rest : ((fsCall B s).lookup ("rest" : Str)).bind pM = some (.int s.rest) := rfl
theorem lc_over : ((fsCall B s).lookup ("over" : Str)).bind pM = some (fsCall.encL' s.over) := rfl
theorem lc_pend : ((fsCall B s).lookup ("pending" : Str)).bind pM = some (.str (sL s.left)) := rfl
theorem ln_start : ((fsCall B s).lookup ("start" : Str)).isNone = true := rfl
theorem ln_finish : ((fsCall B s).lookup ("finish" : Str)).isNone = true := rfl
theorem ln_happen : ((fsCall B s).lookup ("happen" : Str)).isNone = true := rfl
theorem ln_waste : ((fsCall B s).lookup ("waste" : Str)).isNone = true := rfl
theorem ln_press : ((fsCall B s).lookup ("press" : Str)).isNone = true := rfl
theorem ln_do : ((fsCall B s).lookup ("do" : Str)).isNone = true := rfl
end
theorem BdOk.cl' {B : List Mn} (hB : BdOk B) {m : Mn} {a : Act} (hm : m ∈ B) (ha : a ∈ m.acts) : ∀ z ∈ a.nms, z ∈ nmsOf B := fun z hz => hB.cl m hm z (by unfold Mn.nms; exact List.mem_flatMap.mpr ⟨a, ha, hz⟩)
theorem tl_tup (xs : List Str) : dSl (some 1) none (.tup (xs.map .str)) = some (.p (.tup (xs.tail.map .str))) := by
  show some (M.p (D.tup (cutG _ _ _))) = _
  have : cutG (xs.map D.str) (some ((1 : Nat) : Int)) none = (xs.tail).map .str := by
    rw [show (xs.map D.str) = xs.map D.str from rfl]
    unfold cutG
    rw [HT.sIx_none, HT.sIx_nat]
    cases xs with
    | nil => rfl
    | cons x xs => simp [List.take_of_length_le]
  have e : ((1 : Nat) : Int) = 1 := rfl
  rw [e] at this
  rw [this]
theorem happen_ok {B : List Mn} (hB : BdOk B) {s : CSt} {a : Act} (hm : ∀ z ∈ s.deep, z ∈ nmsOf B) (ha : ∀ z ∈ a.nms, z ∈ nmsOf B) (hl : s.begun.length < 100000) (hd : s.deep.length < 100000) : ff_Call_happen [.o 3 (fsCall B s), .p (encA a)] = some (.p .non, [some (.o 3 (fsCall B (happenC B a s))), none]) := by
  have ld := lc_deep B s
  have lp := lc_plan B s
  have l1 := ln_start B s
  have l2 := ln_finish B s
  have tt := tl_tup s.deep
  have hmt : ∀ z ∈ s.deep.tail, z ∈ nmsOf B := fun z hz => hm z (List.mem_of_mem_tail hz)
  have htl : s.deep.tail.length ≤ s.deep.length := by rw [List.length_tail]; omega
  have st := fun deep h => start_ok hB (s := s) (deep := deep) h hl
  have fi := fun how => finish_ok (B := B) (s := s) (how := how)
  cases a with
  | line x =>
    have f := fi x
    have i0 : dIx (encA (.line x)) (.int 0) = some (.str "line") := rfl
    have i1 : dIx (encA (.line x)) (.int 1) = some (.str x) := rfl
    have eq : fsCall B (happenC B (.line x) s) = fsCall B (finC x s) := rfl
    rw [eq]
    generalize fsCall B s = F at *
    generalize fsCall B (finC x s) = F2 at *
    simp [ff_Call_happen, fnF, b_Call_happen, slO, ld, tt, i0, i1, l2, f, putB, isHole]
  | out =>
    have f := fi "out"
    have i0 : dIx (encA .out) (.int 0) = some (.str "out") := rfl
    have eq : fsCall B (happenC B .out s) = fsCall B (finC "out" s) := rfl
    rw [eq]
    generalize fsCall B s = F at *
    generalize fsCall B (finC "out" s) = F2 at *
    simp [ff_Call_happen, fnF, b_Call_happen, slO, ld, tt, i0, l2, f, putB, isHole]
  | again =>
    have f := st s.deep hm
    have i0 : dIx (encA .again) (.int 0) = some (.str "again") := rfl
    have eq : fsCall B (happenC B .again s) = fsCall B (startC B s.deep s) := rfl
    rw [eq]
    generalize fsCall B s = F at *
    generalize fsCall B (startC B s.deep s) = F2 at *
    simp [ff_Call_happen, fnF, b_Call_happen, slO, ld, tt, i0, l1, f, putB, isHole]
  | main =>
    have f := st [firstOf B] (by intro z hz; rw [List.mem_singleton] at hz; subst hz; exact first_in hB.ne)
    have i0 : dIx (encA .main) (.int 0) = some (.str "main") := rfl
    have h1 : 1 ≤ sizeLine := sl_of (by omega)
    rw [List.map_singleton] at f
    have eq : fsCall B (happenC B .main s) = fsCall B (startC B [firstOf B] s) := rfl
    rw [eq]
    generalize fsCall B s = F at *
    generalize fsCall B (startC B [firstOf B] s) = F2 at *
    simp [ff_Call_happen, fnF, b_Call_happen, slO, ld, tt, i0, l1, lp, lk_first, dTup, h1, f, putB, isHole]
  | back =>
    have f := st s.deep.tail hmt
    have i0 : dIx (encA .back) (.int 0) = some (.str "back") := rfl
    have eq : fsCall B (happenC B .back s) = fsCall B (startC B s.deep.tail s) := rfl
    rw [eq]
    generalize fsCall B s = F at *
    generalize fsCall B (startC B s.deep.tail s) = F2 at *
    generalize s.deep.tail.map D.str = T at *
    simp [ff_Call_happen, fnF, b_Call_happen, slO, ld, tt, i0, l1, f, putB, isHole]
  | go n =>
    have h1 := ha n (by simp [Act.nms])
    have f := st (n :: s.deep.tail) (by
      intro z hz
      rcases List.mem_cons.mp hz with e | hz
      · rw [e]; exact h1
      · exact hmt z hz)
    have i0 : dIx (encA (.go n)) (.int 0) = some (.str "go") := rfl
    have i1 : dSl (some 1) none (encA (.go n)) = some (.p (.tup [.str n])) := tl_tup ["go", n]
    have hsz : (s.deep.tail.map D.str).length + 1 ≤ sizeLine := sl_of (by rw [List.length_map]; omega)
    rw [List.map_cons] at f
    have eq : fsCall B (happenC B (.go n) s) = fsCall B (startC B (n :: s.deep.tail) s) := rfl
    rw [eq]
    generalize fsCall B s = F at *
    generalize fsCall B (startC B (n :: s.deep.tail) s) = F2 at *
    generalize s.deep.tail.map D.str = T at *
    simp [ff_Call_happen, fnF, b_Call_happen, slO, ld, tt, i0, i1, l1, seqD, dTup, Function.comp_def, hsz, f, putB, isHole]
  | call n t =>
    have h1 := ha n (by simp [Act.nms])
    have h2 := ha t (by simp [Act.nms])
    have f := st (n :: t :: s.deep.tail) (by
      intro z hz
      rcases List.mem_cons.mp hz with e | hz
      · rw [e]; exact h1
      · rcases List.mem_cons.mp hz with e | hz
        · rw [e]; exact h2
        · exact hmt z hz)
    have i0 : dIx (encA (.call n t)) (.int 0) = some (.str "call") := rfl
    have i1 : dSl (some 1) none (encA (.call n t)) = some (.p (.tup [.str n, .str t])) := tl_tup ["call", n, t]
    have hsz : (s.deep.tail.map D.str).length + 1 + 1 ≤ sizeLine := sl_of (by rw [List.length_map]; omega)
    rw [List.map_cons, List.map_cons] at f
    have eq : fsCall B (happenC B (.call n t) s) = fsCall B (startC B (n :: t :: s.deep.tail) s) := rfl
    rw [eq]
    generalize fsCall B s = F at *
    generalize fsCall B (startC B (n :: t :: s.deep.tail) s) = F2 at *
    generalize s.deep.tail.map D.str = T at *
    simp [ff_Call_happen, fnF, b_Call_happen, slO, ld, tt, i0, i1, l1, seqD, dTup, Function.comp_def, hsz, f, putB, isHole]
end Mh
namespace Mh
open PySem L2
theorem pc_rest {B : List Mn} {s : CSt} (n : Nat) : putM "rest" (.p (.int n)) (fsCall B s) = fsCall B { s with rest := n } := by simp [fsCall, putM]
theorem pc_many {B : List Mn} {s : CSt} (n : Nat) : putM "many" (.p (.int n)) (fsCall B s) = fsCall B { s with many := n } := by simp [fsCall, putM]
theorem pc_pend {B : List Mn} {s : CSt} (l : List Nat) : putM "pending" (.p (.str (sL l))) (fsCall B s) = fsCall B { s with left := l } := by simp [fsCall, putM]
theorem pc_len {B : List Mn} {s : CSt} : (fsCall B s).length < 1000 := by simp [fsCall]
theorem lc_many (B : List Mn) (s : CSt) : ((fsCall B s).lookup ("many" : Str)).bind pM = some (.int s.many) := rfl
theorem at_hd {s : CSt} (h : s.deep ≠ []) : atI (s.deep.map D.str) 0 = some (.str s.hd) := by
  unfold CSt.hd
  cases hd : s.deep with
  | nil => exact absurd hd h
  | cons n st => simp [atI, ixN]
theorem waste_ok {B : List Mn} (hB : BdOk B) {s : CSt} (hne : s.deep ≠ []) (hr : 1 ≤ s.rest) (hm : ∀ z ∈ s.deep, z ∈ nmsOf B) (hl : s.begun.length < 100000) (hd : s.deep.length < 100000) : ff_Call_waste [.o 3 (fsCall B s)] = some (.p .non, [some (.o 3 (fsCall B (wasteC B s)))]) := by
  obtain ⟨hh, _⟩ := hd_mem hne hm
  obtain ⟨h1, h2⟩ := menuOf_mem hh
  have bm := bmenu_at hB hh
  have lr := lc_rest B s
  have pr := pc_rest (B := B) (s := s) (s.rest - 1)
  have er : ((s.rest - 1 : Nat) : Int) = (s.rest : Int) - 1 := by omega
  rw [er] at pr
  have hp := happen_ok hB (s := { s with rest := s.rest - 1 }) (a := (menuOf B s.hd).tail) hm (hB.cl' h1 (tail_act _)) hl hd
  have la := lk_last (menuOf B s.hd)
  have lr2 := lc_rest B { s with rest := s.rest - 1 }
  have ld2 := lc_deep B { s with rest := s.rest - 1 }
  have lp2 := lc_plan B { s with rest := s.rest - 1 }
  have l3 := ln_happen B { s with rest := s.rest - 1 }
  have ah := at_hd hne
  have pl := pc_len (B := B) (s := s)
  have e1 : ({ s with rest := s.rest - 1 } : CSt).deep = s.deep := rfl
  have e2 : ({ s with rest := s.rest - 1 } : CSt).rest = s.rest - 1 := rfl
  rw [e1] at ld2
  rw [e2] at lr2
  unfold wasteC
  by_cases h0 : s.rest - 1 = 0
  · rw [if_pos h0]
    have z0 : ((s.rest - 1 : Nat) : Int) = 0 := by omega
    rw [z0] at lr2
    generalize fsCall B s = F at *
    generalize fsCall B { s with rest := s.rest - 1 } = F2 at *
    generalize fsCall B (happenC B (menuOf B s.hd).tail { s with rest := s.rest - 1 }) = F3 at *
    simp [ff_Call_waste, fnF, b_Call_waste, slO, lr, pl, pr, lr2, ld2, lp2, ah, isO_menu, bm, la, l3, hp, putB, isHole]
  · rw [if_neg h0]
    have h0' : ¬ ((s.rest - 1 : Nat) : Int) = 0 := by omega
    have h0'' : ¬ (s.rest : Int) - 1 = 0 := by omega
    generalize fsCall B s = F at *
    generalize fsCall B { s with rest := s.rest - 1 } = F2 at *
    rw [er] at lr2
    simp [ff_Call_waste, fnF, b_Call_waste, slO, lr, pl, pr, lr2, h0'']
def bPr : SF := (sIf (fB (f2 (dEq false) (xV 2) (xV 1))) (sSeq (sEx (xMthO ff_Call_happen [] [none] 0 3 "happen" (aC (xV 3) aN))) sRetN) sNx)
theorem press_loop {B : List Mn} (hB : BdOk B) {s : CSt} {d : Str} (hm : ∀ z ∈ s.deep, z ∈ nmsOf B) (hl : s.begun.length < 100000) (hd : s.deep.length < 100000) : ∀ (rows : List (Str × Act)) (w2 w3 : Option M), (∀ p ∈ rows, ∀ z ∈ p.2.nms, z ∈ nmsOf B) →
    ∃ v2 v3, forF (gTupF 2 (gsC (gSet 2) (gsC (gSet 3) gsN))) bPr (rows.map encA2) [some (.o 3 (fsCall B s)), some (.p (.str d)), w2, w3] = some (match rows.lookup d with
      | some a => (.rt (.p .non), [some (.o 3 (fsCall B (happenC B a s))), some (.p (.str d)), v2, v3])
      | none => (.nx, [some (.o 3 (fsCall B s)), some (.p (.str d)), v2, v3]))
  | [], w2, w3, _ => ⟨w2, w3, rfl⟩
  | (k, a) :: rows, w2, w3, h => by
    by_cases hk : k = d
    · subst hk
      have f := happen_ok hB (s := s) (a := a) hm (h (k, a) List.mem_cons_self) hl hd
      have l3 := ln_happen B s
      refine ⟨some (.p (.str k)), some (.p (encA a)), ?_⟩
      rw [List.lookup_cons]
      simp only [beq_self_eq_true]
      generalize fsCall B s = F at *
      generalize fsCall B (happenC B a s) = F2 at *
      unfold bPr
      simp [forF, encA2, slO, l3, f, putB, isHole]
    · obtain ⟨v2, v3, e⟩ := press_loop hB (d := d) hm hl hd rows (some (.p (.str k))) (some (.p (encA a))) fun p hp => h p (List.mem_cons_of_mem _ hp)
      refine ⟨v2, v3, ?_⟩
      have hk2 : (d == k) = false := by simpa using fun e : d = k => hk e.symm
      rw [List.lookup_cons, hk2]
      dsimp only
      rw [← e]
      generalize fsCall B s = F at *
      have st : bPr [some (.o 3 F), some (.p (.str d)), some (.p (.str k)), some (.p (encA a))] = some (.nx, [some (.o 3 F), some (.p (.str d)), some (.p (.str k)), some (.p (encA a))]) := by
        unfold bPr
        simp [hk]
      generalize bPr = bb at *
      simp [forF, encA2, st]
theorem press_ok {B : List Mn} (hB : BdOk B) {s : CSt} {d : Str} (hne : s.deep ≠ []) (hr : 1 ≤ s.rest) (hm : ∀ z ∈ s.deep, z ∈ nmsOf B) (hl : s.begun.length < 100000) (hd : s.deep.length < 100000) : ff_Call_press [.o 3 (fsCall B s), .p (.str d)] = some (.p .non, [some (.o 3 (fsCall B (pressC B d s))), none]) := by
  obtain ⟨hh, _⟩ := hd_mem hne hm
  obtain ⟨h1, h2⟩ := menuOf_mem hh
  have bm := bmenu_at hB hh
  have lm := lc_many B s
  have pm := pc_many (B := B) (s := s) (s.many + 1)
  have er : ((s.many + 1 : Nat) : Int) = (s.many : Int) + 1 := by omega
  rw [er] at pm
  have pl := pc_len (B := B) (s := s)
  have ld2 := lc_deep B { s with many := s.many + 1 }
  have lp2 := lc_plan B { s with many := s.many + 1 }
  have l4 := ln_waste B { s with many := s.many + 1 }
  have ah := at_hd hne
  have e1 : ({ s with many := s.many + 1 } : CSt).deep = s.deep := rfl
  rw [e1] at ld2
  have lde := lk_deeds (menuOf B s.hd)
  obtain ⟨v2, v3, lp⟩ := press_loop hB (s := { s with many := s.many + 1 }) (d := d) hm hl hd (menuOf B s.hd).rows none none fun p hp => hB.cl' h1 (by
    unfold Mn.acts
    exact List.mem_append.mpr (.inl (List.mem_map.mpr ⟨p, hp, rfl⟩)))
  have w := waste_ok hB (s := { s with many := s.many + 1 }) hne hr hm hl hd
  have hT : ff_Call_press = fnF 4 2 [0] (sSeq (sFAug false 0 3 "many" (xC (.int 1))) (sSeq (sFor (iT (xFld 0 "deeds" (xMth ff_Board_menu [] [none] 1 "menu" (xFldO 0 3 "plan") (aC (f2 dIx (xFldO 0 3 "deep") (xC (.int 0))) aN)))) (gTupF 2 (gsC (gSet 2) (gsC (gSet 3) gsN))) bPr) (sEx (xMthO ff_Call_waste [] [] 0 3 "waste" aN)))) := rfl
  rw [hT]
  unfold pressC
  cases hlk : (menuOf B s.hd).rows.lookup d with
  | some a =>
    rw [hlk] at lp
    dsimp only at lp ⊢
    generalize fsCall B s = F at *
    generalize fsCall B { s with many := s.many + 1 } = F2 at *
    generalize fsCall B (happenC B a { s with many := s.many + 1 }) = F3 at *
    generalize bPr = bb at *
    simp [fnF, slO, lm, pl, pm, ld2, lp2, ah, isO_menu, bm, lde, lp]
  | none =>
    rw [hlk] at lp
    dsimp only at lp ⊢
    generalize fsCall B s = F at *
    generalize fsCall B { s with many := s.many + 1 } = F2 at *
    generalize fsCall B (wasteC B { s with many := s.many + 1 }) = F3 at *
    generalize bPr = bb at *
    simp [fnF, slO, lm, pl, pm, ld2, lp2, ah, isO_menu, bm, lde, lp, l4, w, putB, isHole]
end Mh
namespace Mh
open PySem L2
theorem dg_digs : ∀ c ∈ dgN, sL [c] ∈ digs := by decide +kernel
def dT : TF := (tfAnd (fB (f2 (dIsN false) (xFldO 0 3 "over") (xC .non))) (fB (f2 (dEq true) (xFldO 0 3 "pending") (xC (.str "")))))
def dB : SF := (sSeq (sAsg (xCall dTup (aC (f2 dIx (xFldO 0 3 "pending") (xC (.int 0))) (aC (xSl (xFldO 0 3 "pending") (pS (xC (.int 1))) pN) aN))) (gTupF 2 (gsC (gSet 2) (gsC (gFldO 0 3 "pending") gsN)))) (sEx (xMthO ff_Call_press [] [none] 0 3 "press" (aC (xV 2) aN))))
theorem dT_ok {B : List Mn} {s : CSt} {w1 w2 : Option M} : dT [some (.o 3 (fsCall B s)), w1, w2] = some (!s.over.isSome && !s.left.isEmpty, [some (.o 3 (fsCall B s)), w1, w2]) := by
  have lo := lc_over B s
  have lp := lc_pend B s
  generalize fsCall B s = F at *
  unfold dT
  cases ho : s.over with
  | some x =>
    rw [ho] at lo
    simp only [fsCall.encL'] at lo
    simp [slO, lo, dIsN]
  | none =>
    rw [ho] at lo
    simp only [fsCall.encL'] at lo
    cases hl : s.left with
    | nil => rw [hl, sL_nil] at lp; simp [slO, lo, dIsN, lp]
    | cons c r =>
      rw [hl] at lp
      have ne := sL_ne (c := c) (r := r)
      generalize sL (c :: r) = z at *
      simp [slO, lo, dIsN, lp, ne]
theorem dB_ok {B : List Mn} (hB : BdOk B) {s : CSt} {c : Nat} {r : List Nat} {w1 w2 : Option M} (hne : s.deep ≠ []) (hr : 1 ≤ s.rest) (hm : ∀ z ∈ s.deep, z ∈ nmsOf B) (hl : s.begun.length < 100000) (hd : s.deep.length < 100000) (hs : s.left = c :: r) (hsz : (c :: r).length ≤ 1000000) :
    dB [some (.o 3 (fsCall B s)), w1, w2] = some (.nx, [some (.o 3 (fsCall B (pressC B (sL [c]) { s with left := r }))), w1, some (.p (.str (sL [c])))]) := by
  have lp := lc_pend B s
  have ix := sL_ix hsz
  have ct := sL_cut hsz
  have pp := pc_pend (B := B) (s := s) r
  have pl := pc_len (B := B) (s := s)
  have l5 := ln_press B { s with left := r }
  have h2 : 2 ≤ sizeLine := sl_of (by omega)
  have p := press_ok hB (s := { s with left := r }) (d := sL [c]) hne hr hm hl hd
  rw [hs] at lp
  generalize sL (c :: r) = z at *
  generalize sL [c] = d at *
  generalize sL r = z2 at *
  generalize fsCall B s = F at *
  generalize fsCall B { s with left := r } = F2 at *
  generalize fsCall B (pressC B d { s with left := r }) = F3 at *
  unfold dB
  simp [slO, lp, ix, ct, dTup, h2, pp, pl, l5, p, putB, isHole]
theorem loop_ok {B : List Mn} (hB : BdOk B) (hC : BdC B) : ∀ (n fuel : Nat) (s : CSt) (w1 w2 : Option M), CallOk B s → s.left.length ≤ n → s.begun.length + n ≤ 90000 → n < fuel →
    ∃ v2, whF dT dB fuel [some (.o 3 (fsCall B s)), w1, w2] = some (.nx, [some (.o 3 (fsCall B (loopC B n s))), w1, v2])
  | n, 0, _, _, _, _, _, _, h => absurd h (Nat.not_lt_zero _)
  | n, fuel + 1, s, w1, w2, I, hl, hb, hf => by
    have ht := dT_ok (B := B) (s := s) (w1 := w1) (w2 := w2)
    unfold whF
    rw [ht]
    by_cases ho : s.over = none
    · cases hs : s.left with
      | nil =>
        refine ⟨w2, ?_⟩
        have e : loopC B n s = s := by
          cases n with
          | zero => rfl
          | succ n => unfold loopC; rw [ho, hs]; rfl
        rw [e]
        simp [ho]
      | cons c r =>
        rw [hs] at hl
        cases n with
        | zero => simp at hl
        | succ n =>
          obtain ⟨hne, hr⟩ := I.wait ho
          have hd := I.dl
          have b := dB_ok hB (w1 := w1) (w2 := w2) hne hr I.mem (by omega) (by omega) hs (by rw [List.length_cons] at hl ⊢; omega)
          have I2 := pressC_ok hC (d := sL [c]) (I.left ho r) ho
          have p1 := press_left B (sL [c]) { s with left := r }
          have p2 := press_len B (sL [c]) { s with left := r }
          have p3 : ({ s with left := r } : CSt).begun = s.begun := rfl
          have p4 : ({ s with left := r } : CSt).left = r := rfl
          rw [p3] at p2
          rw [p4] at p1
          rw [List.length_cons] at hl
          obtain ⟨v2, e⟩ := loop_ok hB hC n fuel (pressC B (sL [c]) { s with left := r }) w1 (some (.p (.str (sL [c])))) I2 (by omega) (by omega) (by omega)
          refine ⟨v2, ?_⟩
          have el : loopC B (n + 1) s = loopC B n (pressC B (sL [c]) { s with left := r }) := by
            rw [loopC, ho, hs]; rfl
          have ho2 : (!s.over.isSome && !(c :: r).isEmpty) = true := by rw [ho]; rfl
          rw [el]
          dsimp only [Option.bind_some]
          rw [ho2, if_pos rfl, b]
          dsimp only [Option.bind_some]
          exact e
    · refine ⟨w2, ?_⟩
      obtain ⟨x, hx⟩ : ∃ x, s.over = some x := by
        cases h : s.over with
        | none => exact absurd h ho
        | some x => exact ⟨x, rfl⟩
      have e : loopC B n s = s := by
        cases n with
        | zero => rfl
        | succ n => unfold loopC; rw [hx]; rfl
      rw [e, hx]
      simp
theorem ev_len (e : Ev) (h : e.Ok) : (evT e).length ≤ 101 := by
  unfold evT
  rw [sL_len, List.length_append]
  have := h.len
  cases e.late <;> simp <;> omega
theorem ev_ix {e : Ev} (h : e.Ok) : ∃ z, dIx (.str (evT e)) (.int 0) = some (.str z) ∧ (z = "-" ↔ e.late = true) := by
  have hd : ("-" : Str) = sL [45] := by decide +kernel
  cases hl : e.late with
  | true =>
    refine ⟨sL [45], ?_, by rw [hd]; simp⟩
    unfold evT
    rw [hl]
    exact sL_ix (by have := h.len; simp; omega)
  | false =>
    have hne := h.some hl
    cases hds : e.ds with
    | nil => exact absurd hds hne
    | cons c r =>
      refine ⟨sL [c], ?_, ?_⟩
      · unfold evT
        rw [hl, hds]
        exact sL_ix (by have := h.len; rw [hds] at this; simp at this ⊢; omega)
      · have hc := h.dg c (by rw [hds]; exact List.mem_cons_self)
        rw [hd]
        refine ⟨fun z => ?_, fun z => (nomatch z)⟩
        have := sL_inj z
        simp at this
        subst this
        revert hc
        decide
theorem do_ok {B : List Mn} (hB : BdOk B) (hC : BdC B) {s : CSt} {e : Ev} (he : e.Ok) (I : CallOk B s) (ho : s.over = none) (hl : s.begun.length < 80000) : ff_Call_do [.o 3 (fsCall B s), .p (.str (evT e))] = some (.p .non, [some (.o 3 (fsCall B (doC B e s))), none]) := by
  obtain ⟨z, hz, hz2⟩ := ev_ix he
  obtain ⟨hne, hr⟩ := I.wait ho
  have hdl := I.dl
  have rp := repl_ev he
  have hlen := ev_len e he
  have h0 : ("" : Str).length = 0 := by decide
  have pp := pc_pend (B := B) (s := s) e.ds
  have pl := pc_len (B := B) (s := s)
  have ln := he.len
  have hT : ff_Call_do = fnF 3 2 [0] (sSeq (sAsg (xRepl (xV 1) "-" "") (gFldO 0 3 "pending")) (sSeq (sIf (fB (f2 (dEq false) (f2 dIx (xV 1) (xC (.int 0))) (xC (.str "-")))) (sEx (xMthO ff_Call_waste [] [] 0 3 "waste" aN)) sNx) (sWh 16777216 dT dB))) := rfl
  have s1 : (sAsg (xRepl (xV 1) "-" "") (gFldO 0 3 "pending")) [some (.o 3 (fsCall B s)), some (.p (.str (evT e))), none] = some (.nx, [some (.o 3 (fsCall B { s with left := e.ds })), some (.p (.str (evT e))), none]) := by
    generalize fsCall B s = F at *
    generalize fsCall B { s with left := e.ds } = F2 at *
    generalize evT e = v at *
    generalize sL e.ds = y at *
    have hv : v.length ≤ 1000000 := by omega
    simp [slO, rp, h0, pp, pl, hv]
  have s2 : (sIf (fB (f2 (dEq false) (f2 dIx (xV 1) (xC (.int 0))) (xC (.str "-")))) (sEx (xMthO ff_Call_waste [] [] 0 3 "waste" aN)) sNx) [some (.o 3 (fsCall B { s with left := e.ds })), some (.p (.str (evT e))), none] = some (.nx, [some (.o 3 (fsCall B (if e.late then wasteC B { s with left := e.ds } else { s with left := e.ds }))), some (.p (.str (evT e))), none]) := by
    cases hlt : e.late with
    | true =>
      rw [hlt] at hz2
      have w := waste_ok hB (s := { s with left := e.ds }) hne hr I.mem (by exact Nat.lt_trans hl (by omega)) (by show s.deep.length < _; omega)
      have l4 := ln_waste B { s with left := e.ds }
      have hz3 : z = "-" := hz2.mpr rfl
      rw [if_pos rfl]
      generalize fsCall B { s with left := e.ds } = F at *
      generalize fsCall B (wasteC B { s with left := e.ds }) = F2 at *
      generalize evT e = v at *
      simp [slO, hz, hz3, l4, w, putB, isHole]
    | false =>
      rw [hlt] at hz2
      have hz3 : ¬ z = "-" := fun q => by have := hz2.mp q; cases this
      rw [if_neg (by exact Bool.false_ne_true)]
      generalize fsCall B { s with left := e.ds } = F at *
      generalize evT e = v at *
      simp [hz, hz3]
  have I1 := I.left ho e.ds
  have I2 : CallOk B (if e.late then wasteC B { s with left := e.ds } else { s with left := e.ds }) := by
    split
    · exact wasteC_ok hC I1 ho
    · exact I1
  have b1 : (if e.late then wasteC B { s with left := e.ds } else { s with left := e.ds } : CSt).left.length ≤ e.ds.length := by
    split
    · exact waste_left B { s with left := e.ds }
    · exact Nat.le_refl _
  have b2 : (if e.late then wasteC B { s with left := e.ds } else { s with left := e.ds } : CSt).begun.length ≤ s.begun.length + 1 := by
    split
    · exact waste_len B { s with left := e.ds }
    · exact Nat.le_succ _
  obtain ⟨v2, e3⟩ := loop_ok hB hC e.ds.length 16777216 _ (some (.p (.str (evT e)))) none I2 b1 (by omega) (by omega)
  rw [hT]
  unfold fnF
  simp only [List.map_cons, List.map_nil, List.replicate, List.cons_append, List.nil_append, Nat.reduceSub]
  rw [seq_nx s1, seq_nx s2, sWh_ap, e3]
  simp [doC, kp]
end Mh
namespace Mh
open PySem L2
theorem BdOk.bdC {B : List Mn} (hB : BdOk B) : BdC B := ⟨hB.ne, hB.nd, fun m hm => (hB.mn m hm).t1, fun m hm a ha => hB.cl' hm ha⟩
theorem cinit_ok {B : List Mn} (hB : BdOk B) : ff_Call_init [.o 3 [], .p (obBd B)] = some (.p .non, [some (.o 3 (fsCall B (beginC B))), none]) := by
  have f := start_ok hB (s := zeroC) (deep := [firstOf B]) (by intro z hz; rw [List.mem_singleton] at hz; subst hz; exact first_in hB.ne) (by decide)
  have ef : fsCall B zeroC = ([("plan", .p (obBd B)), ("deep", .p (.tup [])), ("rest", .p (.int 0)), ("over", .p .non), ("many", .p (.int 0)), ("started_names", .l []), ("pending", .p (.str ""))] : List (Str × M)) := by
    simp [fsCall, zeroC, fsCall.encL', sL_nil]
  have h1 : 1 ≤ sizeLine := sl_of (by omega)
  have hl : ([] : List D).length ≤ sizeLine := Nat.zero_le _
  rw [ef, List.map_singleton] at f
  simp [ff_Call_init, fnF, b_Call_init, slO, putM, dTup, dLst, lk_first, h1, List.lookup, f, putB, isHole, beginC]
def fsPl (s : CSt) : List (Str × M) :=
  [("stack", .p (.tup (s.deep.map .str))), ("tries", .p (.int s.rest)), ("end", .p (fsCall.encL' s.over)), ("presses", .p (.int s.many)), ("started", .p (.tup (s.begun.map .str)))]
def obPl (s : CSt) : D := .obj 4 (frzF (fsPl s))
@[simp 2000] theorem frz_pl (s : CSt) : frz (.o 4 (fsPl s)) = obPl s := rfl
def obCall (B : List Mn) (s : CSt) : D := .obj 3 (frzF (fsCall B s))
@[simp 2000] theorem frz_call (B : List Mn) (s : CSt) : frz (.o 3 (fsCall B s)) = obCall B s := rfl
theorem lp_stack (s : CSt) : dFld 4 "stack" (obPl s) = some (.tup (s.deep.map .str)) := rfl
theorem lp_tries (s : CSt) : dFld 4 "tries" (obPl s) = some (.int s.rest) := rfl
theorem lp_end (s : CSt) : dFld 4 "end" (obPl s) = some (fsCall.encL' s.over) := rfl
theorem lp_pres (s : CSt) : dFld 4 "presses" (obPl s) = some (.int s.many) := rfl
theorem lp_start (s : CSt) : dFld 4 "started" (obPl s) = some (.tup (s.begun.map .str)) := rfl
theorem played_ok {B : List Mn} {s : CSt} {m : M} (hm : frz m = obCall B s) : ff_Played_init [.o 4 [], m] = some (.p .non, [some (.o 4 (fsPl s)), none]) := by
  have l1 : dFld 3 "deep" (obCall B s) = some (.tup (s.deep.map .str)) := rfl
  have l2 : dFld 3 "rest" (obCall B s) = some (.int s.rest) := rfl
  have l3 : dFld 3 "over" (obCall B s) = some (fsCall.encL' s.over) := rfl
  have l4 : dFld 3 "many" (obCall B s) = some (.int s.many) := rfl
  have l5 : dFld 3 "started_names" (obCall B s) = some (.lst (s.begun.map .str)) := rfl
  simp [ff_Played_init, fnF, b_Played_init, slO, putM, hm, l1, l2, l3, l4, l5, dTuple, fsPl]
theorem mk_pl {B : List Mn} {s : CSt} (m : M) (hm : frz m = obCall B s) (ms : En) : mkG ff_Played_init 4 [m] ms = some (.o 4 (fsPl s), ms) := by
  unfold mkG
  rw [played_ok hm]
  rfl
theorem mk_call {B : List Mn} (hB : BdOk B) (ms : En) : mkG ff_Call_init 3 [.p (obBd B)] ms = some (.o 3 (fsCall B (beginC B)), ms) := by
  unfold mkG
  rw [cinit_ok hB]
  rfl
/-! ### events -/
theorem event_ok {e : Ev} (h : e.Ok) : ff_is_event [.p (.str (evT e))] = some (.p (.bl true), [none]) := by
  have hlen := ev_len e h
  have hsz : (evT e).length ≤ sizeLine := sl_of (by omega)
  obtain ⟨z, hz, hz2⟩ := ev_ix h
  have hne : ¬ evT e = "" := fun q => by
    rw [q] at hz
    have : dIx (.str "") (.int 0) = none := by decide +kernel
    rw [this] at hz
    cases hz
  cases hl : e.late with
  | true =>
    have hz3 : z = "-" := hz2.mpr hl
    have el : evT e = sL (45 :: e.ds) := by unfold evT; rw [hl]; rfl
    have h1 := h.one hl
    have hLn : (evT e).length = e.ds.length + 1 := by rw [el, sL_len]; rfl
    cases hds : e.ds with
    | nil =>
      rw [hds] at hLn
      rw [List.length_nil] at hLn
      have h11 : (((evT e).length : Nat) : Int) = 1 := by omega
      generalize evT e = v at *
      simp [ff_is_event, fnF, b_is_event, kb_str, hne, hz, hz3, h11, hsz, dLen]
    | cons c r =>
      rw [hds] at hLn h1 el
      have hr : r = [] := by cases r with | nil => rfl | cons _ _ => simp at h1
      subst hr
      have hc := dg_digs c (h.dg c (by rw [hds]; exact List.mem_cons_self))
      have di := digit_in hc
      have i1 : dIx (.str (evT e)) (.int 1) = some (.str (sL [c])) := by
        show (if _ then _ else _) = _
        rw [if_pos hsz, el, sL_list]
        simp [atI, ixN, sL]
      have hL : (((evT e).length : Nat) : Int) = 2 := by rw [hLn]; rfl
      have hL1 : ¬ (((evT e).length : Nat) : Int) = 1 := by omega
      generalize sL [c] = d at *
      generalize evT e = v at *
      simp [ff_is_event, fnF, b_is_event, kb_str, hne, hz, hz3, hL, hL1, hsz, i1, di, dLen]
  | false =>
    have hz3 : ¬ z = "-" := fun q => by have := hz2.mp q; rw [hl] at this; cases this
    have el : evT e = sL e.ds := by unfold evT; rw [hl]; rfl
    have hch : chars (evT e) = e.ds.map fun c => D.str (sL [c]) := by
      unfold chars
      rw [el, sL_list]
      rfl
    have lc : lcF (gSet 1) tfY (xFn ff_is_digit [] [none] (aC (xV 1) aN)) [1] (e.ds.map fun c => D.str (sL [c])) [some (.p (.str (evT e))), none] [] = some (e.ds.map fun _ => D.bl true, [some (.p (.str (evT e))), none]) :=
      lcF_mp _ _ _ e.ds (by have := h.len; omega) fun c hc => ⟨_, _, .p (.bl true), [some (.p (.str (evT e))), some (.p (.str (sL [c])))], rfl, rfl, by
        have di := digit_in (dg_digs c (h.dg c hc))
        generalize sL [c] = d at *
        simp [di], rfl, rfl⟩
    have al := dAll_tt e.ds
    generalize evT e = v at *
    generalize e.ds.map (fun c => D.str (sL [c])) = L at *
    generalize e.ds.map (fun _ => D.bl true) = L2 at *
    simp [ff_is_event, fnF, b_is_event, kb_str, hne, hz, hz3, hch, lc, al]
/-! ### play -/
def pB : SF := (sSeq (sIf (tfOr (tfNot (fB (xFn ff_is_event [] [none] (aC (xV 4) aN)))) (fB (f2 (dIsN true) (xFldO 2 3 "over") (xC .non)))) sNo sNx) (sEx (xMthO ff_Call_do [] [none] 2 3 "do" (aC (xV 4) aN))))
theorem pB_ok {B : List Mn} (hB : BdOk B) {s : CSt} {e : Ev} {w0 w1 w3 : Option M} (he : e.Ok) (I : CallOk B s) (ho : s.over = none) (hl : s.begun.length < 80000) :
    pB [w0, w1, some (.o 3 (fsCall B s)), w3, some (.p (.str (evT e)))] = some (.nx, [w0, w1, some (.o 3 (fsCall B (doC B e s))), w3, some (.p (.str (evT e)))]) := by
  have ev := event_ok he
  have d := do_ok hB hB.bdC he I ho hl
  have lo := lc_over B s
  have l6 := ln_do B s
  rw [ho] at lo
  simp only [fsCall.encL'] at lo
  generalize fsCall B s = F at *
  generalize fsCall B (doC B e s) = F2 at *
  generalize evT e = v at *
  unfold pB
  simp [ev, slO, lo, dIsN, l6, d, putB, isHole]
theorem play_loop {B : List Mn} (hB : BdOk B) {w0 w1 : Option M} : ∀ (es : List Ev) (k : Nat) (s : CSt) (w3 w4 : Option M), (∀ e ∈ es, e.Ok) → CallOk B s → GoesOn B es s → s.begun.length + es.length * 101 ≤ 70000 →
    ∃ v3 v4, forF (gTupF 2 (gsC (gSet 3) (gsC (gSet 4) gsN))) pB (enumD k (es.map fun e => D.str (evT e))) [w0, w1, some (.o 3 (fsCall B s)), w3, w4] = some (.nx, [w0, w1, some (.o 3 (fsCall B (es.foldl (fun s e => doC B e s) s))), v3, v4])
  | [], k, s, w3, w4, _, _, _, _ => ⟨w3, w4, rfl⟩
  | e :: es, k, s, w3, w4, he, I, g, hl => by
    have h1 := he e List.mem_cons_self
    have b := pB_ok hB (w0 := w0) (w1 := w1) (w3 := some (.p (.int k))) h1 I g.1 (by rw [List.length_cons] at hl; omega)
    have dl := do_len B e s
    have dl2 := h1.len
    obtain ⟨v3, v4, ih⟩ := play_loop hB (w0 := w0) (w1 := w1) es (k + 1) (doC B e s) (some (.p (.int k))) (some (.p (.str (evT e)))) (fun x hx => he x (List.mem_cons_of_mem _ hx)) (doC_ok hB.bdC I g.1) g.2 (by rw [List.length_cons] at hl; omega)
    refine ⟨v3, v4, ?_⟩
    rw [List.map_cons, List.foldl_cons]
    generalize pB = bb at *
    unfold enumD
    simp [forF, b, ih]
theorem play_ok {B : List Mn} (hB : BdOk B) {es : List Ev} {b : M} {FF : List D} (hF : FF = es.map fun e => D.str (evT e)) (hb : frz b = obBd B) (he : ∀ e ∈ es, e.Ok) (g : GoesOn B es (beginC B)) (hl : es.length ≤ 500) :
    ff_play [b, .l FF] = some (.o 4 (fsPl (runC B es)), [none, some (.l FF)]) := by
  subst hF
  obtain ⟨v3, v4, lp⟩ := play_loop hB (w0 := some (.p (obBd B))) (w1 := none) es 0 (beginC B) none none he (beginC_ok hB.bdC) g (by
    have : (beginC B).begun.length = 1 := rfl
    omega)
  have mc := mk_call hB
  have mp := fun ms => mk_pl (B := B) (s := runC B es) (.p (obCall B (runC B es))) rfl ms
  have hT : ff_play = fnF 5 2 [1] (sSeq (sIf (tfNot (fB (xFn ff_is_sequence [] [some 1] (aC (xTk 1) aN)))) sNo sNx) (sSeq (sSet 2 (xMk ff_Call_init [] 3 (aC (xV 0) aN))) (sSeq (sForEO 1 (gTupF 2 (gsC (gSet 3) (gsC (gSet 4) gsN))) pB) (sRet (xMk ff_Played_init [] 4 (aC (xV 2) aN)))))) := rfl
  have er : es.foldl (fun s e => doC B e s) (beginC B) = runC B es := rfl
  rw [er] at lp
  rw [hT]
  have sq := seq_l (es.map fun e => D.str (evT e)) (.l (es.map fun e => D.str (evT e))) rfl
  generalize es.map (fun e => D.str (evT e)) = FF at *
  generalize pB = bb at *
  generalize runC B es = r at *
  simp [fnF, hb, sq, slL, mc, lp, mp, isHole]
end Mh
namespace Mh
open PySem L2
/-! ### the law's own call -/
def toldB (B : List Mn) : List D := B.map fun m => .lst (oneL m)
def dcS (s : CSt) : List (Key × D) :=
  [(.inr "deep", .lst (s.deep.map .str)), (.inr "rest", .int s.rest), (.inr "over", fsCall.encL' s.over), (.inr "many", .int s.many), (.inr "begun", .lst (s.begun.map .str)), (.inr "left", .str (sL s.left))]
theorem frz_dct {m : M} {l : List (Key × D)} (h : frz m = .dct l) : m = .p (.dct l) ∨ m = .dk l := by
  cases m with
  | p d => exact .inl (congrArg M.p h)
  | dk kvs => cases h; exact .inr rfl
  | l ds => cases h
  | o c fs => cases h
theorem gS_deep (s : CSt) : getK (dcS s) (.inr "deep") = some (.lst (s.deep.map .str)) := by simp [getK, dcS]
theorem gS_rest (s : CSt) : getK (dcS s) (.inr "rest") = some (.int s.rest) := by simp [getK, dcS]
theorem gS_over (s : CSt) : getK (dcS s) (.inr "over") = some (fsCall.encL' s.over) := by simp [getK, dcS]
theorem gS_many (s : CSt) : getK (dcS s) (.inr "many") = some (.int s.many) := by simp [getK, dcS]
theorem gS_begun (s : CSt) : getK (dcS s) (.inr "begun") = some (.lst (s.begun.map .str)) := by simp [getK, dcS]
theorem gS_left (s : CSt) : getK (dcS s) (.inr "left") = some (.str (sL s.left)) := by simp [getK, dcS]
theorem pS_rest (s : CSt) (n : Nat) : putKD (dcS s) (.inr "rest") (.int n) = dcS { s with rest := n } := by simp [putKD, dcS]
theorem pS_over (s : CSt) (x : Str) : putKD (dcS s) (.inr "over") (.str x) = dcS { s with over := some x } := by simp [putKD, dcS, fsCall.encL']
theorem pS_left (s : CSt) (l : List Nat) : putKD (dcS s) (.inr "left") (.str (sL l)) = dcS { s with left := l } := by simp [putKD, dcS]
theorem dcS_len (s : CSt) : (dcS s).length = 6 := rfl
theorem mS_fin (s : CSt) : mergeKD (dcS s) [(.inr "deep", .lst []), (.inr "rest", .int 0), (.inr "over", .str "out"), (.inr "left", .str "")] = dcS (finC "out" s) := by
  simp [mergeKD, putKD, dcS, finC, fsCall.encL', sL_nil]
theorem mS_start (s : CSt) (st : List Str) (n : Nat) (b : List Str) : mergeKD (dcS s) [(.inr "deep", .lst (st.map .str)), (.inr "rest", .int n), (.inr "begun", .lst (b.map .str))] = dcS { s with deep := st, rest := n, begun := b } := by
  simp [mergeKD, putKD, dcS]
theorem mS_step (s : CSt) (l : List Nat) (n : Nat) : mergeKD (dcS s) [(.inr "left", .str (sL l)), (.inr "many", .int n)] = dcS { s with left := l, many := n } := by
  simp [mergeKD, putKD, dcS]
theorem mg4 (a b c d : D) : mergeKD [] [(.inr "deep", a), (.inr "rest", b), (.inr "over", c), (.inr "left", d)] = [(.inr "deep", a), (.inr "rest", b), (.inr "over", c), (.inr "left", d)] := by simp [mergeKD, putKD]
theorem mg3 (a b c : D) : mergeKD [] [(.inr "deep", a), (.inr "rest", b), (.inr "begun", c)] = [(.inr "deep", a), (.inr "rest", b), (.inr "begun", c)] := by simp [mergeKD, putKD]
theorem mg2 (a b : D) : mergeKD [] [(.inr "left", a), (.inr "many", b)] = [(.inr "left", a), (.inr "many", b)] := by simp [mergeKD, putKD]
/-! ### lists of texts and the empty list -/
theorem eqB_lsts {xs ys : List Str} (h : ∀ x ∈ xs, SOk x) (h2 : ∀ x ∈ ys, SOk x) : eqB (.lst (xs.map .str)) (.lst (ys.map .str)) = some (decide (xs = ys)) := by
  have := eqB_big (x := .lst (xs.map .str)) (y := .lst (ys.map .str)) (a := .list (xs.map .str)) (b := .list (ys.map .str)) rfl (by simp only [toPD, pds_strs]; rfl) (by simp only [toPD, pds_strs]; rfl) (by simp only [PyData.canLay0]; exact lay_strs h) (by simp only [PyData.canLay0]; exact lay_strs h2)
    (by simp only [PyData.depth, dep_strs]; omega) (by simp only [PyData.depth, dep_strs]; omega)
  rw [this]
  simp only [PyData.eqv, eqv_strs]
theorem find_one {B : List Mn} (nd : (nmsOf B).Nodup) {n : Str} (hn : n ∈ nmsOf B) : B.filter (fun m => decide (m.name = n)) = [menuOf B n] := by
  obtain ⟨h1, h2⟩ := menuOf_mem hn
  have key : ∀ (l : List Mn), (l.map (·.name)).Nodup → ∀ m ∈ l, m.name = n → l.filter (fun m => decide (m.name = n)) = [m] := by
    intro l
    induction l with
    | nil => intro _ m hm; cases hm
    | cons a l ih =>
      intro nd m hm e
      rw [List.map_cons, List.nodup_cons] at nd
      by_cases ha : a.name = n
      · have hma : m = a := by
          rcases List.mem_cons.mp hm with h | h
          · exact h
          · exfalso
            apply nd.1
            rw [ha, ← e]
            exact List.mem_map.mpr ⟨m, h, rfl⟩
        subst hma
        rw [List.filter_cons_of_pos (by simpa using ha)]
        congr 1
        rw [List.filter_eq_nil_iff]
        intro b hb
        have : b.name ≠ n := fun z => nd.1 (by rw [ha, ← z]; exact List.mem_map.mpr ⟨b, hb, rfl⟩)
        simpa using this
      · rw [List.filter_cons_of_neg (by simpa using ha)]
        rcases List.mem_cons.mp hm with h | h
        · subst h; exact absurd e ha
        · exact ih nd.2 m h e
  exact key B nd _ h1 h2
/-- what the law's boards have -/
structure BdL (B : List Mn) : Prop extends BdC B where
  len : B.length ≤ 100
  ok : ∀ z ∈ nmsOf B, SOk z
theorem o_ix0 (m : Mn) : dIx (.lst (oneL m)) (.int 0) = some (.str m.name) := rfl
theorem o_ix1 (m : Mn) : dIx (.lst (oneL m)) (.int 1) = some (.dct (encR m.rows)) := rfl
theorem o_ix2 (m : Mn) : dIx (.lst (oneL m)) (.int 2) = some (encA m.tail) := rfl
theorem o_ix3 (m : Mn) : dIx (.lst (oneL m)) (.int 3) = some (.int m.tries) := rfl
theorem o_ix4 (m : Mn) : dIx (.lst (oneL m)) (.int 4) = some (.bl m.clears) := rfl
theorem ix0_1 (d : D) : dIx (.lst [d]) (.int 0) = some d := by simp [dIx, atI, ixN]
/-! ### started -/
end Mh
namespace Mh
open PySem L2
theorem forF_cnt {tg : GF} {body : SF} (I : Nat → En → Prop) (step : ∀ (i : Int) k ms, I (k + 1) ms → ∃ m1 o, tg (.p (.int i)) ms = some m1 ∧ body m1 = some (.nx, o) ∧ I k o) : ∀ (n : Nat) (i : Int) ms, I n ms → ∃ ms', forF tg body (rngD i n) ms = some (.nx, ms') ∧ I 0 ms'
  | 0, i, ms, h => ⟨ms, rfl, h⟩
  | n + 1, i, ms, h => by
    obtain ⟨m1, o, e1, e2, h2⟩ := step i n ms h
    obtain ⟨ms', e3, h3⟩ := forF_cnt I step n (i + 1) o h2
    exact ⟨ms', by rw [rngD_succ]; simp [forF, e1, e2, e3], h3⟩
/-! ### drawn events -/
def dg7 : List Nat := [48, 49, 50, 51, 52, 53, 57]
theorem dg7_dgN : ∀ c ∈ dg7, c ∈ dgN := by decide
theorem s7_list : ("0123459" : Str).cps.toList = dg7 := by decide +kernel
theorem one_of_dg {b : List D} (h : Box b) : ∃ c b', Box b' ∧ c ∈ dg7 ∧ ff_law_one_of [.l b, .p (.str "0123459")] = some (.p (.str (sL [c])), [some (.l b'), none]) := by
  obtain ⟨r, b', hb, h0, h1, e⟩ := choose_ok (n := 7) h (by decide) (by decide)
  obtain ⟨c, hc, e2⟩ := atI_of (xs := dg7) h0 (by simpa [dg7] using h1)
  have hl : ("0123459" : Str).length = 7 := by decide
  have hs : (7 : Nat) ≤ sizeLine := sl_of (by omega)
  refine ⟨c, b', hb, hc, ?_⟩
  have i1 : dIx (.str "0123459") (.int r) = some (.str (sL [c])) := by
    have hs2 : ("0123459" : Str).length ≤ sizeLine := by rw [hl]; exact hs
    unfold dIx
    dsimp only
    rw [if_pos hs2, s7_list, e2]
    rfl
  have d1 : dLen (.str "0123459") = some (.p (.int 7)) := by
    have hs2 : ("0123459" : Str).length ≤ sizeLine := by rw [hl]; exact hs
    unfold dLen
    dsimp only
    rw [if_pos hs2, hl]
    rfl
  simp [ff_law_one_of, fnF, b_law_one_of, d1, e, i1]
theorem sL_app (a b : List Nat) : sL a ++ sL b = sL (a ++ b) := str_ext (by simp [sL, Str.cps_append])
theorem sL_cut1 {c : Nat} {r : List Nat} (h : (c :: r).length ≤ 1000000) : dSl none (some 1) (.str (sL (c :: r))) = some (.p (.str (sL [c]))) := by
  have hs : (sL (c :: r)).length ≤ sizeLine := sl_of (by rw [sL_len]; exact h)
  show (if _ then _ else _) = _
  rw [if_pos hs, cutS_eq, sL_list]
  have := cutG_take (c :: r) 1
  have e : ((1 : Nat) : Int) = 1 := rfl
  rw [e] at this
  rw [this]
  rfl
def EvD (e : Ev) : Prop := e.Ok ∧ (∀ c ∈ e.ds, c ∈ dg7) ∧ e.ds.length ≤ 4
end Mh
namespace Mh
open PySem L2
/-! ### calls of boards that are alike but for names -/
def mapA (fn fl : Str → Str) : Act → Act
  | .line x => .line (fl x)
  | .out => .out
  | .again => .again
  | .main => .main
  | .back => .back
  | .go n => .go (fn n)
  | .call n t => .call (fn n) (fn t)
def mapC (fn fl : Str → Str) (fd : Nat → Nat) (s : CSt) : CSt := ⟨s.deep.map fn, s.rest, s.over.map fl, s.many, s.begun.map fn, s.left.map fd⟩
def mapE (fd : Nat → Nat) (e : Ev) : Ev := ⟨e.late, e.ds.map fd⟩
structure Sim (B B' : List Mn) (fn fl : Str → Str) (fd : Nat → Nat) (N : Str → Prop) (Dg : Nat → Prop) : Prop where
  first : firstOf B' = fn (firstOf B)
  firstN : N (firstOf B)
  tries : ∀ n, N n → (menuOf B' (fn n)).tries = (menuOf B n).tries
  clears : ∀ n, N n → (menuOf B' (fn n)).clears = (menuOf B n).clears
  tail : ∀ n, N n → (menuOf B' (fn n)).tail = mapA fn fl (menuOf B n).tail
  row : ∀ n, N n → ∀ c, Dg c → (menuOf B' (fn n)).rows.lookup (sL [fd c]) = ((menuOf B n).rows.lookup (sL [c])).map (mapA fn fl)
  tailN : ∀ n, N n → ∀ z ∈ (menuOf B n).tail.nms, N z
  rowN : ∀ n, N n → ∀ c, Dg c → ∀ a, (menuOf B n).rows.lookup (sL [c]) = some a → ∀ z ∈ a.nms, N z
  out : fl "out" = "out"
section
variable {B B' : List Mn} {fn fl : Str → Str} {fd : Nat → Nat} {N : Str → Prop} {Dg : Nat → Prop}
structure InN (N : Str → Prop) (Dg : Nat → Prop) (s : CSt) : Prop where
  deep : ∀ z ∈ s.deep, N z
  left : ∀ c ∈ s.left, Dg c
theorem sim_fin (S : Sim B B' fn fl fd N Dg) (s : CSt) (how : Str) : finC (fl how) (mapC fn fl fd s) = mapC fn fl fd (finC how s) := rfl
theorem sim_start (S : Sim B B' fn fl fd N Dg) {s : CSt} {deep : List Str} (hd : ∀ z ∈ deep, N z) (hl : ∀ c ∈ s.left, Dg c) : startC B' (deep.map fn) (mapC fn fl fd s) = mapC fn fl fd (startC B deep s) ∧ InN N Dg (startC B deep s) := by
  cases deep with
  | nil =>
    refine ⟨?_, ⟨fun _ h => (nomatch h), fun _ h => (nomatch h)⟩⟩
    show finC "out" _ = mapC fn fl fd (finC "out" s)
    unfold finC mapC
    simp [S.out]
  | cons n st =>
    have hn := hd n List.mem_cons_self
    have h1 := S.tries n hn
    have h2 := S.clears n hn
    refine ⟨?_, ⟨hd, ?_⟩⟩
    · rw [List.map_cons]
      simp only [startC, mapC, h1, h2, List.map_cons, List.map_append, List.map_nil]
      cases (menuOf B n).clears <;> rfl
    · simp only [startC]
      split
      · exact fun _ h => (nomatch h)
      · exact hl
theorem sim_happen (S : Sim B B' fn fl fd N Dg) {s : CSt} {a : Act} (h : InN N Dg s) (ha : ∀ z ∈ a.nms, N z) : happenC B' (mapA fn fl a) (mapC fn fl fd s) = mapC fn fl fd (happenC B a s) ∧ InN N Dg (happenC B a s) := by
  have ht : ∀ z ∈ s.deep.tail, N z := fun z hz => h.deep z (List.mem_of_mem_tail hz)
  have et : (mapC fn fl fd s).deep.tail = s.deep.tail.map fn := by simp [mapC, List.map_tail]
  cases a with
  | line x => exact ⟨rfl, ⟨fun _ h => (nomatch h), fun _ h => (nomatch h)⟩⟩
  | out =>
    refine ⟨?_, ⟨fun _ h => (nomatch h), fun _ h => (nomatch h)⟩⟩
    show finC "out" _ = mapC fn fl fd (finC "out" s)
    unfold finC mapC
    simp [S.out]
  | again => exact sim_start S h.deep h.left
  | main =>
    show startC B' [firstOf B'] _ = mapC fn fl fd (startC B [firstOf B] s) ∧ _
    rw [S.first]
    exact sim_start S (deep := [firstOf B]) (fun z hz => by rw [List.mem_singleton] at hz; subst hz; exact S.firstN) h.left
  | back =>
    show startC B' (mapC fn fl fd s).deep.tail _ = _ ∧ _
    rw [et]
    exact sim_start S ht h.left
  | go n =>
    show startC B' (fn n :: (mapC fn fl fd s).deep.tail) _ = _ ∧ _
    rw [et, ← List.map_cons]
    refine sim_start S (fun z hz => ?_) h.left
    rcases List.mem_cons.mp hz with e | hz
    · rw [e]; exact ha n (by simp [Act.nms])
    · exact ht z hz
  | call n t =>
    show startC B' (fn n :: fn t :: (mapC fn fl fd s).deep.tail) _ = _ ∧ _
    rw [et, ← List.map_cons, ← List.map_cons]
    refine sim_start S (fun z hz => ?_) h.left
    rcases List.mem_cons.mp hz with e | hz
    · rw [e]; exact ha n (by simp [Act.nms])
    · rcases List.mem_cons.mp hz with e | hz
      · rw [e]; exact ha t (by simp [Act.nms])
      · exact ht z hz
theorem sim_hd {s : CSt} (hne : s.deep ≠ []) : (mapC fn fl fd s).hd = fn s.hd := by
  unfold CSt.hd mapC
  cases h : s.deep with
  | nil => exact absurd h hne
  | cons n st => rfl
theorem hd_N {s : CSt} (h : InN N Dg s) (hne : s.deep ≠ []) : N s.hd := by
  unfold CSt.hd
  cases e : s.deep with
  | nil => exact absurd e hne
  | cons n st => exact h.deep n (by rw [e]; exact List.mem_cons_self)
theorem sim_waste (S : Sim B B' fn fl fd N Dg) {s : CSt} (h : InN N Dg s) (hne : s.deep ≠ []) : wasteC B' (mapC fn fl fd s) = mapC fn fl fd (wasteC B s) ∧ InN N Dg (wasteC B s) := by
  have hN := hd_N h hne
  unfold wasteC
  rw [sim_hd hne, S.tail _ hN]
  have e : (mapC fn fl fd s).rest = s.rest := rfl
  rw [e]
  split
  · exact sim_happen S (s := { s with rest := s.rest - 1 }) ⟨h.deep, h.left⟩ (S.tailN _ hN)
  · exact ⟨rfl, ⟨h.deep, h.left⟩⟩
theorem sim_press (S : Sim B B' fn fl fd N Dg) {s : CSt} {c : Nat} (h : InN N Dg s) (hne : s.deep ≠ []) (hc : Dg c) : pressC B' (sL [fd c]) (mapC fn fl fd s) = mapC fn fl fd (pressC B (sL [c]) s) ∧ InN N Dg (pressC B (sL [c]) s) := by
  have hN := hd_N h hne
  unfold pressC
  rw [sim_hd hne, S.row _ hN c hc]
  cases e : (menuOf B s.hd).rows.lookup (sL [c]) with
  | some a => exact sim_happen S (s := { s with many := s.many + 1 }) ⟨h.deep, h.left⟩ (S.rowN _ hN c hc a e)
  | none => exact sim_waste S (s := { s with many := s.many + 1 }) ⟨h.deep, h.left⟩ hne
theorem loopC_over {B : List Mn} {n : Nat} {s : CSt} {x : Str} (h : s.over = some x) : loopC B n s = s := by
  cases n with
  | zero => rfl
  | succ n => unfold loopC; rw [h]; rfl
theorem loopC_nil {B : List Mn} {n : Nat} {s : CSt} (h : s.left = []) : loopC B n s = s := by
  cases n with
  | zero => rfl
  | succ n =>
    unfold loopC
    split
    · rfl
    · rw [h]
theorem loopC_cons {B : List Mn} {n : Nat} {s : CSt} {c : Nat} {r : List Nat} (ho : s.over = none) (h : s.left = c :: r) : loopC B (n + 1) s = loopC B n (pressC B (sL [c]) { s with left := r }) := by
  rw [loopC, ho, h]; rfl
theorem sim_loop (hB : BdC B) (S : Sim B B' fn fl fd N Dg) : ∀ (n : Nat) {s : CSt}, CallOk B s → InN N Dg s → loopC B' n (mapC fn fl fd s) = mapC fn fl fd (loopC B n s) ∧ InN N Dg (loopC B n s)
  | 0, s, _, h => ⟨rfl, h⟩
  | n + 1, s, I, h => by
    by_cases ho : s.over = none
    · have e : (mapC fn fl fd s).over = none := by show s.over.map fl = _; rw [ho]; rfl
      obtain ⟨hne, _⟩ := I.wait ho
      match hl : s.left with
      | [] =>
        have e2 : (mapC fn fl fd s).left = [] := by show s.left.map fd = _; rw [hl]; rfl
        rw [loopC_nil e2, loopC_nil hl]
        exact ⟨rfl, h⟩
      | c :: r =>
        have e2 : (mapC fn fl fd s).left = fd c :: r.map fd := by show s.left.map fd = _; rw [hl]; rfl
        rw [loopC_cons e e2, loopC_cons ho hl]
        have hr : ∀ x ∈ r, Dg x := fun x hx => h.left x (by rw [hl]; exact List.mem_cons_of_mem _ hx)
        obtain ⟨p1, p2⟩ := sim_press S (s := { s with left := r }) (c := c) ⟨h.deep, hr⟩ hne (h.left c (by rw [hl]; exact List.mem_cons_self))
        have ih := sim_loop hB S n (pressC_ok hB (d := sL [c]) (I.left ho r) ho) p2
        have e3 : ({ mapC fn fl fd s with left := r.map fd } : CSt) = mapC fn fl fd { s with left := r } := rfl
        rw [e3, p1]
        exact ih
    · obtain ⟨x, hx⟩ : ∃ x, s.over = some x := by
        cases h : s.over with
        | none => exact absurd h ho
        | some x => exact ⟨x, rfl⟩
      have e : (mapC fn fl fd s).over = some (fl x) := by show s.over.map fl = _; rw [hx]; rfl
      rw [loopC_over e, loopC_over hx]
      exact ⟨rfl, h⟩
theorem sim_do (hB : BdC B) (S : Sim B B' fn fl fd N Dg) {s : CSt} {e : Ev} (I : CallOk B s) (ho : s.over = none) (h : InN N Dg s) (he : ∀ c ∈ e.ds, Dg c) : doC B' (mapE fd e) (mapC fn fl fd s) = mapC fn fl fd (doC B e s) ∧ InN N Dg (doC B e s) := by
  obtain ⟨hne, _⟩ := I.wait ho
  unfold doC
  have e1 : (mapE fd e).late = e.late := rfl
  have e2 : (mapE fd e).ds.length = e.ds.length := by simp [mapE]
  have e3 : ({ mapC fn fl fd s with left := (mapE fd e).ds } : CSt) = mapC fn fl fd { s with left := e.ds } := rfl
  rw [e1, e2, e3]
  cases e.late with
  | true =>
    simp only [if_true]
    obtain ⟨w1, w2⟩ := sim_waste S (s := { s with left := e.ds }) ⟨h.deep, he⟩ hne
    rw [w1]
    exact sim_loop hB S _ (wasteC_ok hB (I.left ho _) ho) w2
  | false =>
    simp only [Bool.false_eq_true, if_false]
    exact sim_loop hB S _ (I.left ho _) ⟨h.deep, he⟩
theorem sim_begin (S : Sim B B' fn fl fd N Dg) : beginC B' = mapC fn fl fd (beginC B) ∧ InN N Dg (beginC B) := by
  unfold beginC
  rw [S.first]
  exact sim_start S (deep := [firstOf B]) (s := zeroC) (fun z hz => by rw [List.mem_singleton] at hz; subst hz; exact S.firstN) (fun _ h => (nomatch h))
theorem sim_run (hB : BdC B) (S : Sim B B' fn fl fd N Dg) : ∀ (es : List Ev) {s : CSt}, CallOk B s → InN N Dg s → GoesOn B es s → (∀ e ∈ es, ∀ c ∈ e.ds, Dg c) → (es.map (mapE fd)).foldl (fun s e => doC B' e s) (mapC fn fl fd s) = mapC fn fl fd (es.foldl (fun s e => doC B e s) s) ∧ GoesOn B' (es.map (mapE fd)) (mapC fn fl fd s)
  | [], s, _, _, _, _ => ⟨rfl, trivial⟩
  | e :: es, s, I, h, g, hd => by
    obtain ⟨d1, d2⟩ := sim_do hB S I g.1 h (hd e List.mem_cons_self)
    obtain ⟨r1, r2⟩ := sim_run hB S es (s := doC B e s) (doC_ok hB I g.1) d2 g.2 fun x hx => hd x (List.mem_cons_of_mem _ hx)
    rw [List.map_cons]
    refine ⟨?_, ?_, ?_⟩
    · rw [List.foldl_cons, List.foldl_cons, d1]; exact r1
    · show s.over.map fl = none; rw [g.1]; rfl
    · rw [d1]; exact r2
theorem sim_runC (hB : BdC B) (S : Sim B B' fn fl fd N Dg) {es : List Ev} (g : GoesOn B es (beginC B)) (hd : ∀ e ∈ es, ∀ c ∈ e.ds, Dg c) : runC B' (es.map (mapE fd)) = mapC fn fl fd (runC B es) ∧ GoesOn B' (es.map (mapE fd)) (beginC B') := by
  obtain ⟨b1, b2⟩ := sim_begin S
  unfold runC
  rw [b1]
  exact sim_run hB S es (beginC_ok hB) b2 g hd
end
theorem mapC_id (s : CSt) : mapC id id id s = s := by
  obtain ⟨a, b, c, d, e, f⟩ := s
  simp [mapC]
theorem mapA_id (a : Act) : mapA id id a = a := by cases a <;> rfl
theorem mapE_id (e : Ev) : mapE id e = e := by
  obtain ⟨a, b⟩ := e
  simp [mapE]
/-- the same names: the same calls -/
theorem same_run {B B' : List Mn} {N : Str → Prop} {Dg : Nat → Prop} (hB : BdC B) (S : Sim B B' id id id N Dg) {es : List Ev} (g : GoesOn B es (beginC B)) (hd : ∀ e ∈ es, ∀ c ∈ e.ds, Dg c) : runC B' es = runC B es ∧ GoesOn B' es (beginC B') := by
  have h := sim_runC hB S g hd
  have e : es.map (mapE id) = es := by
    rw [show mapE id = id from funext mapE_id, List.map_id]
  rw [e, mapC_id] at h
  exact h
/-- rows sorted or not -/
theorem menuOf_cn (B : List Mn) (n : Str) : menuOf (B.map Mn.cn) n = (menuOf B n).cn := by
  unfold menuOf
  induction B with
  | nil => rfl
  | cons m B ih =>
    rw [List.map_cons, List.find?_cons, List.find?_cons]
    have e : decide (m.cn.name = n) = decide (m.name = n) := rfl
    rw [e]
    cases decide (m.name = n) with
    | true => rfl
    | false => exact ih
theorem dg_digs' : ∀ c ∈ dgN, sL [c] ∈ digs := by decide +kernel
theorem firstOf_cn (B : List Mn) : firstOf (B.map Mn.cn) = firstOf B := by cases B <;> rfl
theorem sim_cn (B : List Mn) : Sim B (B.map Mn.cn) id id id (fun _ => True) (fun c => c ∈ dgN) where
  first := firstOf_cn B
  firstN := trivial
  tries := fun n _ => by rw [menuOf_cn]; rfl
  clears := fun n _ => by rw [menuOf_cn]; rfl
  tail := fun n _ => by rw [menuOf_cn, mapA_id]; rfl
  row := fun n _ c hc => by
    rw [menuOf_cn]
    show (canon _).lookup _ = _
    rw [show mapA id id = id from funext mapA_id, Option.map_id]
    exact canon_lookup (dg_digs' c hc)
  tailN := fun _ _ _ _ => trivial
  rowN := fun _ _ _ _ _ _ _ _ => trivial
  out := rfl
end Mh
namespace Mh
open PySem L2
/-! ### what stays so in calls -/
structure Pres (B : List Mn) (P : CSt → Prop) : Prop where
  fin : ∀ (s : CSt) (r m : Nat) (l : List Nat) (how : Str), CallOk B s → P s → s.over = none → (how = "out" ∨ how ∈ rawL B) → P (finC how ⟨s.deep, r, s.over, m, s.begun, l⟩)
  start : ∀ (s : CSt) (r m : Nat) (l : List Nat) (n : Str) (st : List Str), CallOk B s → P s → s.over = none → n ∈ nmsOf B → (∀ z ∈ st, z ∈ nmsOf B) → P (startC B (n :: st) ⟨s.deep, r, s.over, m, s.begun, l⟩)
  wait : ∀ (s : CSt) (r m : Nat) (l : List Nat), CallOk B s → P s → s.over = none → 1 ≤ r → r ≤ s.rest → P ⟨s.deep, r, s.over, m, s.begun, l⟩
theorem line_raw {B : List Mn} {m : Mn} {x : Str} (hm : m ∈ B) (ha : Act.line x ∈ m.acts) : x ∈ rawL B := by
  unfold rawL Mn.lns
  exact List.mem_flatMap.mpr ⟨m, hm, List.mem_flatMap.mpr ⟨_, ha, by simp [Act.lns]⟩⟩
section
variable {B : List Mn} {P : CSt → Prop}
theorem pres_deep (hP : Pres B P) {s : CSt} {deep : List Str} {r m : Nat} {l : List Nat} (I : CallOk B s) (h : P s) (ho : s.over = none) (hd : ∀ z ∈ deep, z ∈ nmsOf B) : P (startC B deep ⟨s.deep, r, s.over, m, s.begun, l⟩) := by
  cases deep with
  | nil => exact hP.fin s r m l "out" I h ho (.inl rfl)
  | cons n st => exact hP.start s r m l n st I h ho (hd n List.mem_cons_self) fun z hz => hd z (List.mem_cons_of_mem _ hz)
theorem pres_happen (hB : BdC B) (hP : Pres B P) {s : CSt} {a : Act} {mn : Mn} {r m : Nat} {l : List Nat} (I : CallOk B s) (h : P s) (ho : s.over = none) (hm : mn ∈ B) (ha : a ∈ mn.acts) : P (happenC B a ⟨s.deep, r, s.over, m, s.begun, l⟩) := by
  have ht : ∀ z ∈ s.deep.tail, z ∈ nmsOf B := fun z hz => I.mem z (List.mem_of_mem_tail hz)
  have hn := hB.cl mn hm a ha
  cases a with
  | line x => exact hP.fin s r m l x I h ho (.inr (line_raw hm ha))
  | out => exact hP.fin s r m l "out" I h ho (.inl rfl)
  | again => exact pres_deep hP I h ho I.mem
  | main => exact pres_deep hP I h ho (deep := [firstOf B]) fun z hz => by rw [List.mem_singleton] at hz; subst hz; exact first_in hB.ne
  | back => exact pres_deep hP I h ho ht
  | go n =>
    refine pres_deep hP I h ho (deep := n :: s.deep.tail) fun z hz => ?_
    rcases List.mem_cons.mp hz with e | hz
    · rw [e]; exact hn n (by simp [Act.nms])
    · exact ht z hz
  | call n t =>
    refine pres_deep hP I h ho (deep := n :: t :: s.deep.tail) fun z hz => ?_
    rcases List.mem_cons.mp hz with e | hz
    · rw [e]; exact hn n (by simp [Act.nms])
    · rcases List.mem_cons.mp hz with e | hz
      · rw [e]; exact hn t (by simp [Act.nms])
      · exact ht z hz
theorem pres_waste (hB : BdC B) (hP : Pres B P) {s : CSt} {m : Nat} {l : List Nat} (I : CallOk B s) (h : P s) (ho : s.over = none) : P (wasteC B ⟨s.deep, s.rest, s.over, m, s.begun, l⟩) := by
  obtain ⟨hne, hr⟩ := I.wait ho
  obtain ⟨hh, _⟩ := hd_mem hne I.mem
  obtain ⟨hmm, _⟩ := menuOf_mem hh
  unfold wasteC
  dsimp only
  split
  · exact pres_happen hB hP I h ho hmm (tail_act _)
  · exact hP.wait s _ m l I h ho (by omega) (by omega)
theorem pres_press (hB : BdC B) (hP : Pres B P) {s : CSt} {d : Str} {l : List Nat} (I : CallOk B s) (h : P s) (ho : s.over = none) : P (pressC B d ⟨s.deep, s.rest, s.over, s.many, s.begun, l⟩) := by
  obtain ⟨hne, hr⟩ := I.wait ho
  obtain ⟨hh, _⟩ := hd_mem hne I.mem
  obtain ⟨hmm, _⟩ := menuOf_mem hh
  unfold pressC
  dsimp only
  split
  · rename_i a ea
    exact pres_happen hB hP I h ho hmm (row_act ea)
  · exact pres_waste hB hP I h ho
theorem pres_loop (hB : BdC B) (hP : Pres B P) : ∀ (n : Nat) {s : CSt}, CallOk B s → P s → P (loopC B n s)
  | 0, _, _, h => h
  | n + 1, s, I, h => by
    by_cases ho : s.over = none
    · match hl : s.left with
      | [] => rw [loopC_nil hl]; exact h
      | c :: r =>
        rw [loopC_cons ho hl]
        exact pres_loop hB hP n (pressC_ok hB (d := sL [c]) (I.left ho r) ho) (pres_press hB hP I h ho)
    · obtain ⟨x, hx⟩ : ∃ x, s.over = some x := by
        cases h : s.over with
        | none => exact absurd h ho
        | some x => exact ⟨x, rfl⟩
      rw [loopC_over hx]
      exact h
theorem pres_do (hB : BdC B) (hP : Pres B P) {s : CSt} {e : Ev} (I : CallOk B s) (h : P s) (ho : s.over = none) : P (doC B e s) := by
  obtain ⟨hne, hr⟩ := I.wait ho
  unfold doC
  cases e.late with
  | true =>
    simp only [if_true]
    exact pres_loop hB hP _ (wasteC_ok hB (I.left ho _) ho) (pres_waste hB hP I h ho)
  | false =>
    simp only [Bool.false_eq_true, if_false]
    exact pres_loop hB hP _ (I.left ho _) (hP.wait s s.rest s.many e.ds I h ho hr (Nat.le_refl _))
theorem pres_run (hB : BdC B) (hP : Pres B P) : ∀ {es : List Ev} {s : CSt}, CallOk B s → P s → GoesOn B es s → P (es.foldl (fun s e => doC B e s) s)
  | [], _, _, h, _ => h
  | e :: es, s, I, h, g => pres_run hB hP (es := es) (s := doC B e s) (doC_ok hB I g.1) (pres_do hB hP I h g.1) g.2
end
/-- what the laws ask of a call that stands -/
structure CallMore (B : List Mn) (s : CSt) : Prop where
  last : s.over = none → s.begun.getLast? = some s.hd ∧ s.rest ≤ (menuOf B s.hd).tries
  ends : ∀ x, s.over = some x → x = "out" ∨ x ∈ rawL B
  bm : ∀ z ∈ s.begun, z ∈ nmsOf B
theorem pres_more {B : List Mn} (hB : BdC B) : Pres B (CallMore B) where
  fin := fun s r m l how I h ho hh => ⟨fun z => (nomatch z), fun x e => by cases e; exact hh, h.bm⟩
  start := fun s r m l n st I h ho hn hst => by
    refine ⟨fun _ => ⟨by simp [startC, CSt.hd], Nat.le_refl _⟩, fun x e => ?_, fun z hz => ?_⟩
    · exact absurd (show s.over = some x from e) (by rw [ho]; exact fun z => nomatch z)
    · have : z ∈ s.begun ++ [n] := hz
      rcases List.mem_append.mp this with h1 | h1
      · exact h.bm z h1
      · rw [List.mem_singleton] at h1; rw [h1]; exact hn
  wait := fun s r m l I h ho h1 h2 => ⟨fun _ => ⟨(h.last ho).1, Nat.le_trans h2 (h.last ho).2⟩, fun x e => h.ends x e, h.bm⟩
theorem begin_more {B : List Mn} (hB : BdC B) : CallMore B (beginC B) := by
  refine ⟨fun _ => ⟨by simp [beginC, startC, CSt.hd, zeroC], Nat.le_refl _⟩, fun x e => (nomatch e), fun z hz => ?_⟩
  have : z ∈ [firstOf B] := by simpa [beginC, startC, zeroC] using hz
  rw [List.mem_singleton] at this
  rw [this]
  exact first_in hB.ne
theorem pres_prefix (B : List Mn) (b0 : List Str) : Pres B (fun s => b0 <+: s.begun) where
  fin := fun s r m l how I h ho hh => h
  start := fun s r m l n st I h ho hn hst => h.trans (List.prefix_append _ _)
  wait := fun s r m l I h ho h1 h2 => h
/-! ### presses -/
theorem start_many (B : List Mn) (deep : List Str) (s : CSt) : (startC B deep s).many = s.many := by cases deep <;> rfl
theorem happen_many (B : List Mn) (a : Act) (s : CSt) : (happenC B a s).many = s.many := by
  cases a <;> first | rfl | exact start_many B _ s
theorem waste_many (B : List Mn) (s : CSt) : (wasteC B s).many = s.many := by
  unfold wasteC
  split
  · exact happen_many B _ _
  · rfl
theorem press_many (B : List Mn) (d : Str) (s : CSt) : (pressC B d s).many = s.many + 1 := by
  unfold pressC
  split
  · exact happen_many B _ _
  · exact waste_many B _
theorem loop_many (B : List Mn) : ∀ (n : Nat) (s : CSt), s.many ≤ (loopC B n s).many ∧ (loopC B n s).many ≤ s.many + s.left.length
  | 0, s => ⟨Nat.le_refl _, Nat.le_add_right _ _⟩
  | n + 1, s => by
    by_cases ho : s.over = none
    · match hl : s.left with
      | [] => rw [loopC_nil hl]; exact ⟨Nat.le_refl _, Nat.le_add_right _ _⟩
      | c :: r =>
        rw [loopC_cons ho hl]
        have h1 := loop_many B n (pressC B (sL [c]) { s with left := r })
        have h2 := press_many B (sL [c]) { s with left := r }
        have h3 := press_left B (sL [c]) { s with left := r }
        have e1 : ({ s with left := r } : CSt).many = s.many := rfl
        have e2 : ({ s with left := r } : CSt).left = r := rfl
        rw [e1] at h2
        rw [e2] at h3
        rw [List.length_cons]
        omega
    · obtain ⟨x, hx⟩ : ∃ x, s.over = some x := by
        cases h : s.over with
        | none => exact absurd h ho
        | some x => exact ⟨x, rfl⟩
      rw [loopC_over hx]
      exact ⟨Nat.le_refl _, Nat.le_add_right _ _⟩
theorem do_many (B : List Mn) (e : Ev) (s : CSt) : s.many ≤ (doC B e s).many ∧ (doC B e s).many ≤ s.many + e.ds.length := by
  unfold doC
  cases e.late with
  | true =>
    simp only [if_true]
    have h1 := loop_many B e.ds.length (wasteC B { s with left := e.ds })
    have h2 := waste_many B { s with left := e.ds }
    have h3 := waste_left B { s with left := e.ds }
    have e1 : ({ s with left := e.ds } : CSt).many = s.many := rfl
    have e2 : ({ s with left := e.ds } : CSt).left = e.ds := rfl
    rw [e1] at h2
    rw [e2] at h3
    omega
  | false =>
    simp only [Bool.false_eq_true, if_false]
    exact loop_many B e.ds.length { s with left := e.ds }
/-! ### beginnings of calls -/
theorem goes_take {B : List Mn} : ∀ {es : List Ev} {s : CSt} (k : Nat), GoesOn B es s → GoesOn B (es.take k) s
  | [], s, k, _ => by rw [List.take_nil]; trivial
  | e :: es, s, 0, _ => trivial
  | e :: es, s, k + 1, g => ⟨g.1, goes_take (es := es) k g.2⟩
theorem goes_at {B : List Mn} : ∀ {es : List Ev} {s : CSt} {k : Nat}, GoesOn B es s → k < es.length → ((es.take k).foldl (fun s e => doC B e s) s).over = none
  | [], s, k, _, h => absurd h (Nat.not_lt_zero _)
  | e :: es, s, 0, g, _ => g.1
  | e :: es, s, k + 1, g, h => goes_at (es := es) (s := doC B e s) (k := k) g.2 (by simpa using h)
theorem take_succ' {B : List Mn} {es : List Ev} {k : Nat} {e : Ev} (h : es[k]? = some e) : runC B (es.take (k + 1)) = doC B e (runC B (es.take k)) := by
  have : es.take (k + 1) = es.take k ++ [e] := by rw [List.take_succ, h]; rfl
  rw [this]
  unfold runC
  rw [List.foldl_append]
  rfl
end Mh
namespace Mh
open PySem L2
/-! ### what is told of a call -/
def plT (s : CSt) : D := .tup [.tup (s.deep.map .str), .int s.rest, fsCall.encL' s.over, .int s.many, .tup (s.begun.map .str)]
theorem eqB_plT {s : CSt} (h1 : ∀ z ∈ s.deep, SOk z) (h2 : ∀ z ∈ s.begun, SOk z) (h3 : ∀ z, s.over = some z → SOk z) : eqB (plT s) (plT s) = some true := by
  cases ho : s.over with
  | none =>
    have ex : toPD (plT s) = some (.tuple [.tuple (s.deep.map .str), .int s.rest, .none, .int s.many, .tuple (s.begun.map .str)]) := by
      simp only [plT, ho, fsCall.encL', toPD, toPDs, pds_strs]; rfl
    have lay : (PyData.tuple [.tuple (s.deep.map .str), .int s.rest, .none, .int s.many, .tuple (s.begun.map .str)]).canLay0 = true := by
      simp only [PyData.canLay0, PyData.canLayAll0, lay_strs h1, lay_strs h2]
      rfl
    have dep : (PyData.tuple [.tuple (s.deep.map .str), .int s.rest, .none, .int s.many, .tuple (s.begun.map .str)]).depth ≤ 60 := by
      simp only [PyData.depth, PyData.depthAll, dep_strs]
      decide
    rw [eqB_big rfl ex ex lay lay dep dep]
    simp [PyData.eqv, PyData.eqvAll, eqv_strs]
  | some x =>
    have ex : toPD (plT s) = some (.tuple [.tuple (s.deep.map .str), .int s.rest, .str x, .int s.many, .tuple (s.begun.map .str)]) := by
      simp only [plT, ho, fsCall.encL', toPD, toPDs, pds_strs]; rfl
    have lay : (PyData.tuple [.tuple (s.deep.map .str), .int s.rest, .str x, .int s.many, .tuple (s.begun.map .str)]).canLay0 = true := by
      have l3 := sok_lay (h3 x ho)
      simp only [PyData.canLay0] at l3
      simp only [PyData.canLay0, PyData.canLayAll0, lay_strs h1, lay_strs h2, l3]
      rfl
    have dep : (PyData.tuple [.tuple (s.deep.map .str), .int s.rest, .str x, .int s.many, .tuple (s.begun.map .str)]).depth ≤ 60 := by
      simp only [PyData.depth, PyData.depthAll, dep_strs]
      decide
    rw [eqB_big rfl ex ex lay lay dep dep]
    simp [PyData.eqv, PyData.eqvAll, eqv_strs]
theorem sortU_len (xs : List Str) : (sortU xs).length ≤ xs.length := by
  have nd := (eraseDups_nd _ xs (Nat.le_refl _)).1
  have h1 : (sortU xs).length = xs.eraseDups.length := (List.mergeSort_perm _ _).length_eq
  rw [h1]
  exact List.Nodup.length_le_of_subset nd fun x hx => ((eraseDups_nd _ xs (Nat.le_refl _)).2 x).mp hx
theorem forF_idx {tg : GF} {body : SF} (I : Nat → En → Prop) (n : Nat) (step : ∀ (k : Nat) ms, k < n → I k ms → ∃ m1 o, tg (.p (.int k)) ms = some m1 ∧ body m1 = some (.nx, o) ∧ I (k + 1) o) : ∀ (j k : Nat) ms, k + j = n → I k ms → ∃ ms', forF tg body (rngD k j) ms = some (.nx, ms') ∧ I n ms'
  | 0, k, ms, e, h => ⟨ms, rfl, by rw [Nat.add_zero] at e; rw [← e]; exact h⟩
  | j + 1, k, ms, e, h => by
    obtain ⟨m1, o, e1, e2, h2⟩ := step k ms (by omega) h
    obtain ⟨ms', e3, h3⟩ := forF_idx I n step j (k + 1) o (by omega) h2
    refine ⟨ms', ?_, h3⟩
    rw [rngD_succ]
    have ec : ((k + 1 : Nat) : Int) = (k : Int) + 1 := by omega
    rw [ec] at e3
    simp [forF, e1, e2, e3]
theorem BdD.bdL {B : List Mn} (h : BdD B) : BdL B where
  ne := h.ne
  nd := h.nd
  tr := fun m hm => (h.mn m hm).t1
  cl := fun m hm a ha z hz => (h.mn m hm).nms z (by unfold Mn.nms; exact List.mem_flatMap.mpr ⟨a, ha, hz⟩)
  len := by have := h.len; omega
  ok := fun z hz => sok_of fun c hc => by have := (h.nms z hz).abc c hc; omega
theorem lines_sok {B : List Mn} (h : BdD B) : ∀ x ∈ rawL (B.map Mn.cn), SOk x := fun x hx => by
  obtain ⟨m, hm, hx⟩ := List.mem_flatMap.mp hx
  have := lns_nm x ((h.cn.mn m hm).lns x hx)
  exact sok_of fun c hc => by have := this.abc c hc; omega
end Mh
namespace Mh
open PySem L2
/-! ### digits at once, one by one, late -/
def wl (l : List Nat) (s : CSt) : CSt := if s.over.isSome then s else { s with left := l }
def noC (B : List Mn) : Prop := ∀ n, (menuOf B n).clears = false
section
variable {B : List Mn}
theorem start_wl (h : noC B) (deep : List Str) {s : CSt} (ho : s.over = none) (l : List Nat) : startC B deep { s with left := l } = wl l (startC B deep { s with left := [] }) := by
  cases deep with
  | nil => rfl
  | cons n st => simp [startC, wl, h n, ho]
theorem happen_wl (h : noC B) (a : Act) {s : CSt} (ho : s.over = none) (l : List Nat) : happenC B a { s with left := l } = wl l (happenC B a { s with left := [] }) := by
  cases a with
  | line x => rfl
  | out => rfl
  | again => exact start_wl h s.deep ho l
  | main => exact start_wl h [firstOf B] ho l
  | back => exact start_wl h s.deep.tail ho l
  | go n => exact start_wl h (n :: s.deep.tail) ho l
  | call n t => exact start_wl h (n :: t :: s.deep.tail) ho l
theorem waste_wl (h : noC B) {s : CSt} (ho : s.over = none) (l : List Nat) : wasteC B { s with left := l } = wl l (wasteC B { s with left := [] }) := by
  by_cases hc : s.rest - 1 = 0
  · have e : ∀ l, wasteC B { s with left := l } = happenC B (menuOf B s.hd).tail { ({ s with rest := s.rest - 1 } : CSt) with left := l } := fun l => if_pos hc
    rw [e, e]
    exact happen_wl h _ (s := { s with rest := s.rest - 1 }) ho l
  · have e : ∀ l, wasteC B { s with left := l } = { ({ s with rest := s.rest - 1 } : CSt) with left := l } := fun l => if_neg hc
    rw [e, e]
    unfold wl
    rw [if_neg (by show ¬ s.over.isSome = true; rw [ho]; simp)]
theorem press_wl (h : noC B) (d : Str) {s : CSt} (ho : s.over = none) (l : List Nat) : pressC B d { s with left := l } = wl l (pressC B d { s with left := [] }) := by
  cases hc : (menuOf B s.hd).rows.lookup d with
  | some a =>
    have e : ∀ l, pressC B d { s with left := l } = happenC B a { ({ s with many := s.many + 1 } : CSt) with left := l } := fun l => by
      show (match (menuOf B s.hd).rows.lookup d with | some a => _ | none => _) = _
      rw [hc]
    rw [e, e]
    exact happen_wl h _ (s := { s with many := s.many + 1 }) ho l
  | none =>
    have e : ∀ l, pressC B d { s with left := l } = wasteC B { ({ s with many := s.many + 1 } : CSt) with left := l } := fun l => by
      show (match (menuOf B s.hd).rows.lookup d with | some a => _ | none => _) = _
      rw [hc]
    rw [e, e]
    exact waste_wl h (s := { s with many := s.many + 1 }) ho l
def ev1 (l : List Nat) : Ev := ⟨false, l⟩
theorem do1 {s : CSt} (ho : s.over = none) (c : Nat) : doC B (ev1 [c]) s = pressC B (sL [c]) { s with left := [] } := by
  show loopC B 1 { s with left := [c] } = _
  exact loopC_cons (s := { s with left := [c] }) (c := c) (r := []) ho rfl
theorem do1_left {s : CSt} (ho : s.over = none) (c : Nat) : (doC B (ev1 [c]) s).left = [] := by
  rw [do1 ho]
  have := press_left B (sL [c]) { s with left := [] }
  exact List.length_eq_zero_iff.mp (Nat.le_zero.mp this)
theorem do_cons (h : noC B) {s : CSt} (ho : s.over = none) (c : Nat) (r : List Nat) : doC B (ev1 (c :: r)) s = if (doC B (ev1 [c]) s).over.isSome then doC B (ev1 [c]) s else doC B (ev1 r) (doC B (ev1 [c]) s) := by
  have e : doC B (ev1 (c :: r)) s = loopC B r.length (wl r (doC B (ev1 [c]) s)) := by
    show loopC B (r.length + 1) { s with left := c :: r } = _
    rw [loopC_cons (s := { s with left := c :: r }) (c := c) (r := r) ho rfl, do1 ho]
    exact congrArg (loopC B r.length) (press_wl h (sL [c]) ho r)
  rw [e]
  generalize doC B (ev1 [c]) s = P
  cases hp : P.over with
  | some x =>
    unfold wl
    rw [if_pos (by rw [hp]; rfl)]
    exact loopC_over hp
  | none =>
    unfold wl
    rw [if_neg (by rw [hp]; simp), if_neg (by simp)]
    rfl
/-- digits one by one, as long as the call goes on -/
def chain (B : List Mn) : List Nat → CSt → CSt
  | [], s => s
  | c :: r, s => if s.over.isSome then s else chain B r (doC B (ev1 [c]) s)
theorem chain_over {s : CSt} (h : s.over.isSome = true) : ∀ l, chain B l s = s
  | [] => rfl
  | c :: r => by unfold chain; rw [if_pos h]
theorem at_once (h : noC B) : ∀ (ds : List Nat) {s : CSt}, s.over = none → s.left = [] → doC B (ev1 ds) s = chain B ds s
  | [], s, ho, hl => by
    show ({ s with left := [] } : CSt) = s
    rw [← hl]
  | c :: r, s, ho, hl => by
    rw [do_cons h ho]
    have ec : chain B (c :: r) s = chain B r (doC B (ev1 [c]) s) := by
      show (if s.over.isSome then _ else _) = _
      rw [if_neg (by rw [ho]; simp)]
    rw [ec]
    cases hp : (doC B (ev1 [c]) s).over.isSome with
    | true => rw [if_pos rfl, chain_over hp]
    | false =>
      rw [if_neg (by simp)]
      exact at_once h r (by simpa using hp) (do1_left ho c)
theorem chain_app (a b : List Nat) : ∀ s : CSt, chain B (a ++ b) s = chain B b (chain B a s) := by
  induction a with
  | nil => intro s; rfl
  | cons c a ih =>
    intro s
    rw [List.cons_append]
    show (if s.over.isSome then s else chain B (a ++ b) (doC B (ev1 [c]) s)) = chain B b (if s.over.isSome then s else chain B a (doC B (ev1 [c]) s))
    split
    · rename_i hs; exact (chain_over hs b).symm
    · exact ih _
theorem chain_left : ∀ (ds : List Nat) {s : CSt}, s.left = [] → (chain B ds s).left = []
  | [], _, h => h
  | c :: r, s, h => by
    unfold chain
    split
    · exact h
    · rename_i hs
      exact chain_left r (do1_left (by simpa using hs) c)
theorem begin_over (B : List Mn) : (beginC B).over = none := rfl
theorem begin_left (B : List Mn) : (beginC B).left = [] := by
  show (if _ then [] else []) = _
  split <;> rfl
theorem once_run (h : noC B) (ds : List Nat) : runC B [ev1 ds] = chain B ds (beginC B) := at_once h ds rfl (begin_left B)
theorem parts_run (h : noC B) (a b : List Nat) (ho : (runC B [ev1 a]).over = none) : runC B [ev1 a, ev1 b] = chain B (a ++ b) (beginC B) := by
  rw [once_run h] at ho
  show doC B (ev1 b) (runC B [ev1 a]) = _
  rw [once_run h, chain_app]
  exact at_once h b ho (chain_left a (begin_left B))
theorem late_run (h : noC B) (c : Nat) (ho : (runC B [⟨true, []⟩]).over = none) : runC B [⟨true, [c]⟩] = runC B [⟨true, []⟩, ev1 [c]] := by
  show loopC B 1 (wasteC B { beginC B with left := [c] }) = doC B (ev1 [c]) (runC B [⟨true, []⟩])
  rw [waste_wl h rfl [c]]
  have e : runC B [⟨true, []⟩] = wasteC B { beginC B with left := [] } := rfl
  rw [← e]
  generalize runC B [⟨true, []⟩] = P at *
  unfold wl
  rw [if_neg (by rw [ho]; simp)]
  rfl
/-! ### menus that clear -/
def plM (m : Mn) : Mn := ⟨m.name, m.rows, m.tail, m.tries, false⟩
theorem menuOf_pl (B : List Mn) (n : Str) : menuOf (B.map plM) n = plM (menuOf B n) := by
  unfold menuOf
  induction B with
  | nil => rfl
  | cons m B ih =>
    rw [List.map_cons, List.find?_cons, List.find?_cons]
    have e : decide ((plM m).name = n) = decide (m.name = n) := rfl
    rw [e]
    cases decide (m.name = n) with
    | true => rfl
    | false => exact ih
theorem noC_pl (B : List Mn) : noC (B.map plM) := fun n => by rw [menuOf_pl]; rfl
theorem first_pl (B : List Mn) : firstOf (B.map plM) = firstOf B := by cases B <;> rfl
theorem start_pre (B : List Mn) (deep : List Str) (s : CSt) : s.begun <+: (startC B deep s).begun := by
  cases deep with
  | nil => exact List.prefix_rfl
  | cons n st => exact ⟨[n], rfl⟩
theorem happen_pre (B : List Mn) (a : Act) (s : CSt) : s.begun <+: (happenC B a s).begun := by
  cases a <;> first | exact List.prefix_rfl | exact start_pre B _ s
theorem waste_pre (B : List Mn) (s : CSt) : s.begun <+: (wasteC B s).begun := by
  unfold wasteC
  split
  · exact happen_pre B _ { s with rest := s.rest - 1 }
  · exact List.prefix_rfl
theorem press_pre (B : List Mn) (d : Str) (s : CSt) : s.begun <+: (pressC B d s).begun := by
  unfold pressC
  split
  · exact happen_pre B _ { s with many := s.many + 1 }
  · exact waste_pre B { s with many := s.many + 1 }
theorem loop_pre (B : List Mn) : ∀ (n : Nat) (s : CSt), s.begun <+: (loopC B n s).begun
  | 0, _ => List.prefix_rfl
  | n + 1, s => by
    unfold loopC
    split
    · exact List.prefix_rfl
    · split
      · exact List.prefix_rfl
      · rename_i c r _
        exact (press_pre B (sL [c]) { s with left := r }).trans (loop_pre B n _)
def Soft (B : List Mn) (b : List Str) : Prop := ∀ z ∈ b.drop 1, (menuOf B z).clears = false
theorem Soft.pre {a b : List Str} (h : Soft B b) (p : a <+: b) : Soft B a := fun z hz => h z (by
  obtain ⟨t, e⟩ := p
  rw [← e, List.drop_append]
  exact List.mem_append.mpr (.inl hz))
theorem start_pl {deep : List Str} {s : CSt} (h1 : 1 ≤ s.begun.length) (h : Soft B (startC B deep s).begun) : startC (B.map plM) deep s = startC B deep s := by
  cases deep with
  | nil => rfl
  | cons n st =>
    have hn : (menuOf B n).clears = false := h n (by
      show n ∈ (s.begun ++ [n]).drop 1
      rw [List.drop_append_of_le_length h1]
      simp)
    simp [startC, menuOf_pl, plM, hn]
theorem happen_pl {a : Act} {s : CSt} (h1 : 1 ≤ s.begun.length) (h : Soft B (happenC B a s).begun) : happenC (B.map plM) a s = happenC B a s := by
  cases a with
  | line x => rfl
  | out => rfl
  | again => exact start_pl h1 h
  | main =>
    show startC (B.map plM) [firstOf (B.map plM)] s = _
    rw [first_pl]
    exact start_pl h1 h
  | back => exact start_pl h1 h
  | go n => exact start_pl h1 h
  | call n t => exact start_pl h1 h
theorem waste_pl {s : CSt} (h1 : 1 ≤ s.begun.length) (h : Soft B (wasteC B s).begun) : wasteC (B.map plM) s = wasteC B s := by
  unfold wasteC at h ⊢
  rw [menuOf_pl]
  split
  · rename_i hc
    rw [if_pos hc] at h
    exact happen_pl (s := { s with rest := s.rest - 1 }) h1 h
  · rfl
theorem press_pl {d : Str} {s : CSt} (h1 : 1 ≤ s.begun.length) (h : Soft B (pressC B d s).begun) : pressC (B.map plM) d s = pressC B d s := by
  unfold pressC at h ⊢
  rw [menuOf_pl]
  show (match (menuOf B s.hd).rows.lookup d with | some a => _ | none => _) = _
  cases hc : (menuOf B s.hd).rows.lookup d with
  | some a => rw [hc] at h; exact happen_pl (s := { s with many := s.many + 1 }) h1 h
  | none => rw [hc] at h; exact waste_pl (s := { s with many := s.many + 1 }) h1 h
theorem loop_pl : ∀ (n : Nat) {s : CSt}, 1 ≤ s.begun.length → Soft B (loopC B n s).begun → loopC (B.map plM) n s = loopC B n s
  | 0, _, _, _ => rfl
  | n + 1, s, h1, h => by
    unfold loopC at h ⊢
    split
    · rfl
    · rename_i ho
      rw [if_neg ho] at h
      cases hl : s.left with
      | nil => rfl
      | cons c r =>
        rw [hl] at h
        have p1 := press_pre B (sL [c]) { s with left := r }
        have p2 := loop_pre B n (pressC B (sL [c]) { s with left := r })
        show loopC (B.map plM) n (pressC (B.map plM) (sL [c]) { s with left := r }) = loopC B n (pressC B (sL [c]) { s with left := r })
        rw [press_pl (s := { s with left := r }) h1 (h.pre p2)]
        exact loop_pl n (Nat.le_trans h1 p1.length_le) h
theorem begin_pl (B : List Mn) : beginC (B.map plM) = beginC B := by
  unfold beginC
  rw [first_pl]
  show (⟨_, _, _, _, _, _⟩ : CSt) = ⟨_, _, _, _, _, _⟩
  simp [menuOf_pl, plM, zeroC]
theorem once_pl {ds : List Nat} (h : Soft B (runC B [ev1 ds]).begun) : runC (B.map plM) [ev1 ds] = runC B [ev1 ds] := by
  show doC (B.map plM) (ev1 ds) (beginC (B.map plM)) = _
  rw [begin_pl]
  exact loop_pl _ (by show 1 ≤ ([] ++ [firstOf B]).length; simp) h
theorem goes_snoc : ∀ {es : List Ev} {s : CSt} {e : Ev}, GoesOn B es s → (es.foldl (fun s e => doC B e s) s).over = none → GoesOn B (es ++ [e]) s
  | [], _, _, _, h => ⟨h, trivial⟩
  | _ :: es, _, _, g, h => ⟨g.1, goes_snoc (es := es) g.2 h⟩
theorem run_snoc (es : List Ev) (e : Ev) : runC B (es ++ [e]) = doC B e (runC B es) := by unfold runC; rw [List.foldl_append]; rfl
end
end Mh
namespace Mh
open PySem L2
theorem ltold_ok {s : CSt} {m : M} (hm : frz m = obPl s) : ff_law_told [m] = some (.p (plT s), [none]) := by
  have h5 : 5 ≤ sizeLine := sl_of (by omega)
  simp [ff_law_told, fnF, b_law_told, hm, lp_stack, lp_tries, lp_end, lp_pres, lp_start, dTup, h5, plT]
theorem nmsOf_pl (B : List Mn) : nmsOf (B.map plM) = nmsOf B := by unfold nmsOf; rw [List.map_map]; rfl
theorem BdD.pl {B : List Mn} (h : BdD B) : BdD (B.map plM) where
  ne := fun z => h.ne (List.map_eq_nil_iff.mp z)
  nd := by rw [nmsOf_pl]; exact h.nd
  nm := by rw [nmsOf_pl]; exact h.nm
  mn := fun m hm => by
    obtain ⟨m', hm', rfl⟩ := List.mem_map.mp hm
    rw [nmsOf_pl]
    have q := h.mn m' hm'
    exact ⟨q.rws, q.tl, q.t1, q.t3⟩
theorem playB {B : List Mn} (h : BdD B) (hl : B.length ≤ 7) {es : List Ev} {FF : List D} (hF : FF = es.map fun e => D.str (evT e)) (he : ∀ e ∈ es, e.Ok) (g : GoesOn B es (beginC B)) (hn : es.length ≤ 500) :
    ff_play [.p (obBd (B.map Mn.cn)), .l FF] = some (.o 4 (fsPl (runC B es)), [none, some (.l FF)]) := by
  obtain ⟨r, gC⟩ := same_run h.bdL.toBdC (sim_cn B) g (fun e hm c hc => (he e hm).dg c hc)
  have := play_ok (b := .p (obBd (B.map Mn.cn))) (h.okc hl) hF rfl he gC hn
  rw [r] at this
  exact this
theorem eq_run {B : List Mn} (hB : BdD B) {es : List Ev} (g : GoesOn B es (beginC B)) : eqB (plT (runC B es)) (plT (runC B es)) = some true := by
  have I : CallOk B (runC B es) := run_ok hB.bdL.toBdC (beginC_ok hB.bdL.toBdC) g
  have J : CallMore B (runC B es) := pres_run hB.bdL.toBdC (pres_more hB.bdL.toBdC) (beginC_ok hB.bdL.toBdC) (begin_more hB.bdL.toBdC) g
  exact eqB_plT (s := runC B es) (fun z hz => hB.bdL.ok z (I.mem z hz)) (fun z hz => hB.bdL.ok z (J.bm z hz)) (fun z hz => by
    rcases J.ends z hz with rfl | h
    · exact sok_of (by decide +kernel)
    · obtain ⟨m, hm, hx⟩ := List.mem_flatMap.mp h
      have := lns_nm z ((hB.mn m hm).lns z hx)
      exact sok_of fun c hc => by have := this.abc c hc; omega)
theorem ev1_ok {ds : List Nat} (h : ∀ c ∈ ds, c ∈ dg7) (hne : ds ≠ []) (hl : ds.length ≤ 100) : (ev1 ds).Ok := ⟨fun c hc => dg7_dgN c (h c hc), fun _ => hne, fun z => (nomatch z), hl⟩
theorem evT_1 (ds : List Nat) : evT (ev1 ds) = sL ds := rfl
theorem chars_sL (ds : List Nat) : chars (sL ds) = ds.map fun c => D.str (sL [c]) := by unfold chars; rw [sL_list]; rfl
def bOne : SF := (sIf (fB (f2 (dIsN false) (xFld 4 "end" (xFn ff_play [] [none, some 2] (aC (xV 0) (aC (xTk 2) aN)))) (xC .non))) (sEx (xApp 2 (xV 3))) sNx)
theorem bOne_ok {B : List Mn} (h : BdD B) (hl : B.length ≤ 7) {es : List Ev} {w1 w3 : Option M} {c : Nat} (hc : c ∈ dg7) (he : ∀ e ∈ es, e.Ok) (g : GoesOn B es (beginC B)) (hn : es.length ≤ 400) :
    ∃ es', (es' = es ∧ (runC B es).over.isSome = true ∨ es' = es ++ [ev1 [c]] ∧ (runC B es).over = none) ∧ bOne [some (.p (obBd (B.map Mn.cn))), w1, some (.l (es.map fun e => .str (evT e))), some (.p (.str (sL [c])))] = some (.nx, [some (.p (obBd (B.map Mn.cn))), w1, some (.l (es'.map fun e => .str (evT e))), some (.p (.str (sL [c])))]) := by
  have pl := playB h hl (es := es) rfl he g (by omega)
  have le := lp_end (runC B es)
  unfold obPl at le
  unfold bOne
  cases ho : (runC B es).over with
  | some x =>
    rw [ho] at le
    refine ⟨es, .inl ⟨rfl, rfl⟩, ?_⟩
    simp only [fsCall.encL'] at le
    generalize es.map (fun e => D.str (evT e)) = FF at *
    generalize fsPl (runC B es) = FS at *
    generalize obBd (B.map Mn.cn) = OC at *
    generalize sL [c] = sc at *
    simp [pl, le, dIsN]
  | none =>
    rw [ho] at le
    refine ⟨es ++ [ev1 [c]], .inr ⟨rfl, rfl⟩, ?_⟩
    simp only [fsCall.encL'] at le
    have hsz : (es.map fun e => D.str (evT e)).length < sizeLine := sl_lt (by rw [List.length_map]; omega)
    have mp : (es ++ [ev1 [c]]).map (fun e => D.str (evT e)) = es.map (fun e => D.str (evT e)) ++ [.str (sL [c])] := by rw [List.map_append]; rfl
    rw [mp]
    generalize es.map (fun e => D.str (evT e)) = FF at *
    generalize fsPl (runC B es) = FS at *
    generalize obBd (B.map Mn.cn) = OC at *
    generalize sL [c] = sc at *
    simp [pl, le, dIsN, slL, hsz]
theorem one_ok {B : List Mn} (h : BdD B) (hl : B.length ≤ 7) {ds : List Nat} (hd : ∀ c ∈ ds, c ∈ dg7) (hn : ds.length ≤ 50) :
    ∃ es, GoesOn B es (beginC B) ∧ runC B es = chain B ds (beginC B) ∧ ff_law_one_by_one [.p (obBd (B.map Mn.cn)), .p (.str (sL ds))] = some (.o 4 (fsPl (chain B ds (beginC B))), [none, none]) := by
  have lp := forF_list (tg := gSet 3) (body := bOne) (fun c : Nat => D.str (sL [c])) (fun done todo ms => (∀ c ∈ todo, c ∈ dg7) ∧ done.length + todo.length ≤ 50 ∧ ∃ es w3, (∀ e ∈ es, e.Ok) ∧ GoesOn B es (beginC B) ∧ es.length ≤ done.length ∧ runC B es = chain B done (beginC B) ∧ ms = [some (.p (obBd (B.map Mn.cn))), some (.p (.str (sL ds))), some (.l (es.map fun e => .str (evT e))), w3])
    (fun c done todo ms ⟨hc, hk, es, w3, he, g, hle, hr, em⟩ => by
      subst em
      rw [List.length_cons] at hk
      obtain ⟨es', hes, e⟩ := bOne_ok h hl (w1 := some (.p (.str (sL ds)))) (w3 := w3) (hc c List.mem_cons_self) he g (by omega)
      refine ⟨_, _, rfl, e, fun x hx => hc x (List.mem_cons_of_mem _ hx), by rw [List.length_append, List.length_singleton]; omega, es', some (.p (.str (sL [c]))), ?_⟩
      have ec : chain B (done ++ [c]) (beginC B) = if (runC B es).over.isSome then runC B es else doC B (ev1 [c]) (runC B es) := by
        rw [chain_app, ← hr]
        rfl
      rw [ec]
      rcases hes with ⟨rfl, ho⟩ | ⟨rfl, ho⟩
      · refine ⟨he, g, by rw [List.length_append]; omega, ?_, rfl⟩
        rw [if_pos ho]
      · refine ⟨fun x hx => ?_, goes_snoc g ho, by rw [List.length_append, List.length_append]; simp; omega, ?_, rfl⟩
        · rcases List.mem_append.mp hx with hx | hx
          · exact he x hx
          · rw [List.mem_singleton] at hx; subst hx
            exact ev1_ok (fun z hz => by rw [List.mem_singleton] at hz; subst hz; exact hc _ List.mem_cons_self) (by simp) (by simp)
        · rw [if_neg (by rw [ho]; simp)]
          exact run_snoc es (ev1 [c]))
    ds [] [some (.p (obBd (B.map Mn.cn))), some (.p (.str (sL ds))), some (.l []), none] ⟨hd, by simpa using hn, [], none, fun _ hx => (nomatch hx), trivial, Nat.le_refl _, rfl, rfl⟩
  obtain ⟨ms', e1, _, _, es, w3, he, g, hle, hr, rfl⟩ := lp
  rw [List.nil_append] at hr hle
  refine ⟨es, g, hr, ?_⟩
  have pl := playB h hl (es := es) rfl he g (by omega)
  rw [hr] at pl
  have hT : ff_law_one_by_one = fnF 4 2 [] (sSeq (sSet 2 (xCall dLst aN)) (sSeq (sFor (iS (xV 1)) (gSet 3) bOne) (sRet (xFn ff_play [] [none, some 2] (aC (xV 0) (aC (xTk 2) aN)))))) := rfl
  have hd0 : dLst [] = some (.l []) := rfl
  have cs := chars_sL ds
  rw [hT]
  generalize bOne = bb at *
  generalize fsPl (chain B ds (beginC B)) = FS at *
  generalize obBd (B.map Mn.cn) = OC at *
  generalize sL ds = ss at *
  rw [← cs] at e1
  generalize es.map (fun e => D.str (evT e)) = FF at *
  simp [fnF, hd0, e1, pl]
/-! ### parts of texts, values -/
theorem sL_take {ds : List Nat} {k : Nat} (h : ds.length ≤ 1000000) : dSl none (some (k : Int)) (.str (sL ds)) = some (.p (.str (sL (ds.take k)))) := by
  have hs : (sL ds).length ≤ sizeLine := sl_of (by rw [sL_len]; exact h)
  show (if _ then _ else _) = _
  rw [if_pos hs, cutS_eq, sL_list, cutG_take]
theorem sL_drop {ds : List Nat} {k : Nat} (h : ds.length ≤ 1000000) (hk : k ≤ ds.length) : dSl (some (k : Int)) none (.str (sL ds)) = some (.p (.str (sL (ds.drop k)))) := by
  have hs : (sL ds).length ≤ sizeLine := sl_of (by rw [sL_len]; exact h)
  have e : cutG ds (some (k : Int)) none = ds.drop k := by
    unfold cutG
    rw [HT.sIx_none, HT.sIx_nat, Nat.min_eq_left hk]
    exact List.take_of_length_le (by rw [List.length_drop]; exact Nat.le_refl _)
  show (if _ then _ else _) = _
  rw [if_pos hs, cutS_eq, sL_list, e]
theorem flat_bls (bs : List Bool) : (bs.map D.bl).mapM flatD = some (bs.map V.bl) := by
  induction bs with
  | nil => rfl
  | cons x xs ih => simp only [List.map_cons, List.mapM_cons, ih, flatD]; rfl
theorem inV_bls (bs : List Bool) : inV (.bl true) (bs.map V.bl) = decide (true ∈ bs) := by
  induction bs with
  | nil => rfl
  | cons x xs ih =>
    simp only [inV, List.map_cons, List.any_cons] at ih ⊢
    rw [ih]
    cases x <;> simp [eqV]
theorem dInA_bls (bs : List Bool) (neg : Bool) : dInA neg (.bl true) (.lst (bs.map D.bl)) = some (.bl (if neg then !decide (true ∈ bs) else decide (true ∈ bs))) := by
  show dIn neg (.bl true) (.lst (bs.map D.bl)) = _
  unfold dIn
  have e : seqD (.lst (bs.map D.bl)) = some (bs.map D.bl) := rfl
  rw [e]
  simp only [flatD, Option.bind_some, flat_bls, Option.map_some, inV_bls]
theorem lcF_fm2 {α : Type} {tg : GF} {tt : TF} {te : EF} {vs : List Nat} (ms0 ms1 : En) (enc : α → D) (c : α → Bool) (f : α → D) (xs : List α) (hne : xs ≠ []) (hl : xs.length ≤ 1000000)
    (h : ∀ x ∈ xs, ∀ ms, ms = ms0 ∨ ms = ms1 → ∃ m1 m2, tg (.p (enc x)) ms = some m1 ∧ tt m1 = some (c x, m2) ∧ (c x = false → wpM m2 vs = ms1) ∧ (c x = true → ∃ y m3, te m2 = some (y, m3) ∧ frz y = f x ∧ wpM m3 vs = ms1)) :
    lcF tg tt te vs (xs.map enc) ms0 [] = some ((xs.filter c).map f, ms1) := by
  cases xs with
  | nil => exact absurd rfl hne
  | cons x xs =>
    obtain ⟨m1, m2, e1, e2, e3, e4⟩ := h x List.mem_cons_self ms0 (.inl rfl)
    have a : (0 : Nat) < sizeLine := by rw [sizeLine_eq]; omega
    cases hc : c x with
    | false =>
      have ih := lcF_fm (tg := tg) (tt := tt) (te := te) (vs := vs) ms1 enc c f xs [] (by simp at hl ⊢; omega) fun x hx => h x (List.mem_cons_of_mem _ hx) ms1 (.inr rfl)
      rw [hc] at e2
      simp [lcF, e1, e2, e3 hc, a, ih, hc]
    | true =>
      obtain ⟨y, m3, e5, e6, e7⟩ := e4 hc
      have ih := lcF_fm (tg := tg) (tt := tt) (te := te) (vs := vs) ms1 enc c f xs [f x] (by simp at hl ⊢; omega) fun x hx => h x (List.mem_cons_of_mem _ hx) ms1 (.inr rfl)
      rw [hc] at e2
      simp [lcF, e1, e2, e5, e6, e7, a, ih, hc]
end Mh
namespace Mh
open PySem L2
section
variable {is : List Int} {w1 w2 w3 w4 w5 w6 w7 w8 w9 w10 w11 w12 w13 w14 w15 : Option M}
theorem dgt_no {n : Nat} {m : Nat} (h : m ≤ n) : dGt (.int (m : Int)) (.int (n : Int)) = some (.bl false) := by
  have : ¬ ((n : Int) < (m : Int)) := by omega
  simp [dII, gB, this]
theorem dgt_yes {m : Nat} (h : 0 < m) : dGt (.int (m : Int)) (.int 0) = some (.bl true) := by
  simp [dII, gB, h]
theorem dash_eq : ("-" : Str) = sL [45] := by decide +kernel
def bDg : SF := (sSet 8 (f2M dAddA (xV 8) (xFn ff_law_one_of [] [some 2, none] (aC (xTk 2) (aC (xC (.str "0123459")) aN)))))
theorem digits_ok {b : List D} (hb : Box b) : ∃ b' ds v9, Box b' ∧ (∀ c ∈ ds, c ∈ dg7) ∧ 1 ≤ ds.length ∧ ds.length ≤ 12 ∧ (sFor (iR1 (aC (f2M dAddA (xC (.int 1)) (xFn ff_law_choose [] [some 2, none] (aC (xTk 2) (aC (xC (.int 12)) aN)))) aN)) (gSet 9) (sSet 8 (f2M dAddA (xV 8) (xFn ff_law_one_of [] [some 2, none] (aC (xTk 2) (aC (xC (.str "0123459")) aN)))))) [some (.p (.lst (is.map .int))), w1, some (.l b), w3, w4, w5, w6, w7, some (.p (.str "")), w9, w10, w11, w12, w13, w14, w15, none] = some (.nx, [some (.p (.lst (is.map .int))), w1, some (.l b'), w3, w4, w5, w6, w7, some (.p (.str (sL ds))), v9, w10, w11, w12, w13, w14, w15, none]) := by
  obtain ⟨q, b2, hb2, q0, q1, e2⟩ := choose_ok (n := 12) hb (by decide) (by decide)
  obtain ⟨k, hk⟩ : ∃ k : Nat, 1 + q = (k : Int) := ⟨(1 + q).toNat, by omega⟩
  have lp := forF_cnt (tg := gSet 9) (body := bDg)
    (fun n ms => ∃ (b : List D) (ds : List Nat) (v9 : Option M), Box b ∧ (∀ c ∈ ds, c ∈ dg7) ∧ ds.length + n = k ∧ ms = [some (.p (.lst (is.map .int))), w1, some (.l b), w3, w4, w5, w6, w7, some (.p (.str (sL ds))), v9, w10, w11, w12, w13, w14, w15, none])
    (fun i n ms ⟨b, ds, v9, hb, hds, hn, em⟩ => by
      subst em
      obtain ⟨c, b', hb', hc, e⟩ := one_of_dg hb
      have hsz : (sL ds).length + (sL [c]).length ≤ sizeLine := sl_of (by rw [sL_len, sL_len]; simp; omega)
      have ap := sL_app ds [c]
      refine ⟨_, [some (.p (.lst (is.map .int))), w1, some (.l b'), w3, w4, w5, w6, w7, some (.p (.str (sL (ds ++ [c])))), some (.p (.int i)), w10, w11, w12, w13, w14, w15, none], rfl, ?_, b', ds ++ [c], _, hb', ?_, ?_, rfl⟩
      · generalize sL (ds ++ [c]) = z at *
        generalize sL ds = z1 at *
        generalize sL [c] = z2 at *
        simp [bDg, e, dAddA, hsz, ap]
      · intro x hx
        rcases List.mem_append.mp hx with h | h
        · exact hds x h
        · rw [List.mem_singleton] at h; subst h; exact hc
      · rw [List.length_append]; simp; omega)
    k 0 [some (.p (.lst (is.map .int))), w1, some (.l b2), w3, w4, w5, w6, w7, some (.p (.str "")), w9, w10, w11, w12, w13, w14, w15, none] ⟨b2, [], w9, hb2, fun _ h => (nomatch h), by simp, by rw [sL_nil]⟩
  obtain ⟨ms', e3, b3, ds, v9, hb3, hds, hn, rfl⟩ := lp
  rw [Nat.add_zero] at hn
  refine ⟨b3, ds, v9, hb3, hds, by omega, by omega, ?_⟩
  have it : ∀ ms, ms = [some (.p (.lst (is.map .int))), w1, some (.l b), w3, w4, w5, w6, w7, some (.p (.str "")), w9, w10, w11, w12, w13, w14, w15, none] → iR1 (aC (f2M dAddA (xC (.int 1)) (xFn ff_law_choose [] [some 2, none] (aC (xTk 2) (aC (xC (.int 12)) aN)))) aN) ms = some (rngD 0 k, [some (.p (.lst (is.map .int))), w1, some (.l b2), w3, w4, w5, w6, w7, some (.p (.str "")), w9, w10, w11, w12, w13, w14, w15, none]) := fun ms em => by
    subst em
    refine iR1_of (n := k) ?_ (by omega)
    simp [e2, dAddA, hk]
  rw [sFor_ap, it _ rfl]
  exact e3
def bTurn : SF := (sSeq (sSet 4 (xFn ff_law_board [] [some 2, none, none] (aC (xTk 2) (aC (xC (.int 6)) (aC (xC (.int 5)) aN))))) (sSeq (sSet 5 (xLc (iL (xV 4)) (gSet 16) tfY (f2M dAddA (xSl (xV 16) pN (pS (xC (.int 4)))) (xCall dLst (aC (xC (.bl false)) aN))) [16])) (sSeq (sPar 6 7 (xFn ff_law_home [] [none] (aC (xV 4) aN)) (xFn ff_law_home [] [none] (aC (xV 5) aN))) (sSeq (sSet 8 (xC (.str ""))) (sSeq (sFor (iR1 (aC (f2M dAddA (xC (.int 1)) (xFn ff_law_choose [] [some 2, none] (aC (xTk 2) (aC (xC (.int 12)) aN)))) aN)) (gSet 9) (sSet 8 (f2M dAddA (xV 8) (xFn ff_law_one_of [] [some 2, none] (aC (xTk 2) (aC (xC (.str "0123459")) aN)))))) (sSeq (sSet 10 (xFn ff_law_told [] [none] (aC (xFn ff_law_one_by_one [] [none, none] (aC (xV 7) (aC (xV 8) aN))) aN))) (sSeq (sIf (fB (f2 (dEq true) (xFn ff_law_told [] [none] (aC (xFn ff_play [] [none, none] (aC (xV 7) (aC (xCall dLst (aC (xV 8) aN)) aN))) aN)) (xV 10))) (sRet (xC (.bl false))) sNx) (sSeq (sSet 11 (xFn ff_law_choose [] [some 2, none] (aC (xTk 2) (aC (xCall (o1 dLen) (aC (xV 8) aN)) aN)))) (sSeq (sIf (tfAnd (fB (f2 dGt (xV 11) (xC (.int 0)))) (fB (f2 (dIsN false) (xFld 4 "end" (xFn ff_play [] [none, none] (aC (xV 7) (aC (xCall dLst (aC (xSl (xV 8) pN (pS (xV 11))) aN)) aN)))) (xC .non)))) (sIf (fB (f2 (dEq true) (xFn ff_law_told [] [none] (aC (xFn ff_play [] [none, none] (aC (xV 7) (aC (xCall dLst (aC (xSl (xV 8) pN (pS (xV 11))) (aC (xSl (xV 8) (pS (xV 11)) pN) aN))) aN))) aN)) (xV 10))) (sRet (xC (.bl false))) sNx) sNx) (sSeq (sPar 12 13 (xCall dLst (aC (f2M dAddA (xC (.str "-")) (xSl (xV 8) pN (pS (xC (.int 1))))) aN)) (xCall dLst (aC (xC (.str "-")) (aC (xSl (xV 8) pN (pS (xC (.int 1)))) aN)))) (sSeq (sIf (fB (f2 (dIsN false) (xFld 4 "end" (xFn ff_play [] [none, none] (aC (xV 7) (aC (xCall dLst (aC (xC (.str "-")) aN)) aN)))) (xC .non))) (sIf (fB (f2 (dEq true) (xFn ff_law_told [] [none] (aC (xFn ff_play [] [none, some 12] (aC (xV 7) (aC (xTk 12) aN))) aN)) (xFn ff_law_told [] [none] (aC (xFn ff_play [] [none, some 13] (aC (xV 7) (aC (xTk 13) aN))) aN)))) (sRet (xC (.bl false))) sNx) sNx) (sSeq (sIf (fB (f2 dGt (xFld 4 "presses" (xFn ff_play [] [none, none] (aC (xV 6) (aC (xCall dLst (aC (xV 8) aN)) aN)))) (xCall (o1 dLen) (aC (xV 8) aN)))) (sRet (xC (.bl false))) sNx) (sSeq (sSet 14 (xFn ff_play [] [none, none] (aC (xV 6) (aC (xCall dLst (aC (xV 8) aN)) aN)))) (sSeq (sSet 15 (xLc (iL (xV 4)) (gSet 16) (fB (f2 (dInA false) (f2 dIx (xV 16) (xC (.int 0))) (xSl (xFld 4 "started" (xV 14)) (pS (xC (.int 1))) pN))) (f2 dIx (xV 16) (xC (.int 4))) [16])) (sIf (tfAnd (fB (f2 (dIsN false) (xFld 4 "end" (xV 14)) (xC .non))) (tfAnd (fB (f2 (dInA true) (xC (.bl true)) (xV 15))) (fB (f2 (dEq true) (xFn ff_law_told [] [none] (aC (xV 14) aN)) (xV 10))))) (sRet (xC (.bl false))) sNx)))))))))))))))
theorem turn_ok {b : List D} (hb : Box b) : ∃ b' v4 v5 v6 v7 v8 v9 v10 v11 v12 v13 v14 v15, Box b' ∧ bTurn [some (.p (.lst (is.map .int))), w1, some (.l b), w3, w4, w5, w6, w7, w8, w9, w10, w11, w12, w13, w14, w15, none] = some (.nx, [some (.p (.lst (is.map .int))), w1, some (.l b'), w3, v4, v5, v6, v7, v8, v9, v10, v11, v12, v13, v14, v15, none]) := by
  obtain ⟨B, b1, hb1, hB, hl5, e0⟩ := board_ok (b := b) (many := 6) (most := 5) hb (by decide) (by decide) (by decide) (by decide)
  have hl : B.length ≤ 7 := by omega
  have hP := hB.pl
  have hPl : (B.map plM).length ≤ 7 := by rw [List.length_map]; exact hl
  have noP := noC_pl B
  have es0 : (.l (B.map fun m => D.lst (oneL m)) : M) = .l (toldB B) := rfl
  rw [es0] at e0
  have h11 : 1 ≤ sizeLine := sl_of (by omega)
  have h22 : 2 ≤ sizeLine := sl_of (by omega)
  have s0 : (sSet 4 (xFn ff_law_board [] [some 2, none, none] (aC (xTk 2) (aC (xC (.int 6)) (aC (xC (.int 5)) aN))))) [some (.p (.lst (is.map .int))), w1, some (.l b), w3, w4, w5, w6, w7, w8, w9, w10, w11, w12, w13, w14, w15, none] = some (.nx, [some (.p (.lst (is.map .int))), w1, some (.l b1), w3, some (.l (toldB B)), w5, w6, w7, w8, w9, w10, w11, w12, w13, w14, w15, none]) := by
    generalize toldB B = TL at *
    simp [e0]
  have lc1 : lcF (gSet 16) tfY (f2M dAddA (xSl (xV 16) pN (pS (xC (.int 4)))) (xCall dLst (aC (xC (.bl false)) aN))) [16] (B.map fun m => D.lst (oneL m)) [some (.p (.lst (is.map .int))), w1, some (.l b1), w3, some (.p (.lst (toldB B))), w5, w6, w7, w8, w9, w10, w11, w12, w13, w14, w15, none] [] = some (B.map fun m => D.lst (oneL (plM m)), [some (.p (.lst (is.map .int))), w1, some (.l b1), w3, some (.p (.lst (toldB B))), w5, w6, w7, w8, w9, w10, w11, w12, w13, w14, w15, none]) :=
    lcF_mp _ (fun m => D.lst (oneL m)) (fun m => D.lst (oneL (plM m))) B (by omega) fun m hm => by
      have c4 : cutG (oneL m) none (some ((4 : Nat) : Int)) = (oneL m).take 4 := cutG_take _ 4
      have e4 : ((4 : Nat) : Int) = 4 := rfl
      rw [e4] at c4
      have hz : ((oneL m).take 4).length + 1 ≤ sizeLine := sl_of (by show 5 ≤ 1000000; omega)
      have hp : (oneL m).take 4 ++ [.bl false] = oneL (plM m) := rfl
      refine ⟨_, _, .l (oneL (plM m)), [some (.p (.lst (is.map .int))), w1, some (.l b1), w3, some (.p (.lst (toldB B))), w5, w6, w7, w8, w9, w10, w11, w12, w13, w14, w15, some (.p (.lst (oneL m)))], rfl, rfl, ?_, rfl, rfl⟩
      rw [← hp]
      generalize (oneL m).take 4 = o4 at *
      generalize oneL m = om at *
      generalize toldB B = TL at *
      simp [dSl, c4, dAddA, dLst, h11, hz]
  have s1 : (sSet 5 (xLc (iL (xV 4)) (gSet 16) tfY (f2M dAddA (xSl (xV 16) pN (pS (xC (.int 4)))) (xCall dLst (aC (xC (.bl false)) aN))) [16])) [some (.p (.lst (is.map .int))), w1, some (.l b1), w3, some (.l (toldB B)), w5, w6, w7, w8, w9, w10, w11, w12, w13, w14, w15, none] = some (.nx, [some (.p (.lst (is.map .int))), w1, some (.l b1), w3, some (.p (.lst (toldB B))), some (.l (toldB (B.map plM))), w6, w7, w8, w9, w10, w11, w12, w13, w14, w15, none]) := by
    have et : toldB B = B.map fun m => D.lst (oneL m) := rfl
    have ep : toldB (B.map plM) = B.map fun m => D.lst (oneL (plM m)) := by unfold toldB; rw [List.map_map]; rfl
    rw [← et, ← ep] at lc1
    generalize toldB (B.map plM) = TP at *
    generalize toldB B = TL at *
    simp [wpM, lc1]
  have hm1 := home_ok (x := .p (.lst (toldB B))) hB hl rfl
  have hm2 := home_ok (x := .p (.lst (toldB (B.map plM)))) hP hPl rfl
  have s2 : (sPar 6 7 (xFn ff_law_home [] [none] (aC (xV 4) aN)) (xFn ff_law_home [] [none] (aC (xV 5) aN))) [some (.p (.lst (is.map .int))), w1, some (.l b1), w3, some (.p (.lst (toldB B))), some (.l (toldB (B.map plM))), w6, w7, w8, w9, w10, w11, w12, w13, w14, w15, none] = some (.nx, [some (.p (.lst (is.map .int))), w1, some (.l b1), w3, some (.p (.lst (toldB B))), some (.p (.lst (toldB (B.map plM)))), some (.o 1 (fsBd (B.map Mn.cn))), some (.o 1 (fsBd ((B.map plM).map Mn.cn))), w8, w9, w10, w11, w12, w13, w14, w15, none]) := by
    generalize toldB (B.map plM) = TP at *
    generalize toldB B = TL at *
    generalize fsBd (B.map Mn.cn) = FB at *
    generalize fsBd ((B.map plM).map Mn.cn) = FP at *
    simp [hm1, hm2]
  have s3 : (sSet 8 (xC (.str ""))) [some (.p (.lst (is.map .int))), w1, some (.l b1), w3, some (.p (.lst (toldB B))), some (.p (.lst (toldB (B.map plM)))), some (.o 1 (fsBd (B.map Mn.cn))), some (.o 1 (fsBd ((B.map plM).map Mn.cn))), w8, w9, w10, w11, w12, w13, w14, w15, none] = some (.nx, [some (.p (.lst (is.map .int))), w1, some (.l b1), w3, some (.p (.lst (toldB B))), some (.p (.lst (toldB (B.map plM)))), some (.o 1 (fsBd (B.map Mn.cn))), some (.o 1 (fsBd ((B.map plM).map Mn.cn))), some (.p (.str "")), w9, w10, w11, w12, w13, w14, w15, none]) := by
    generalize toldB (B.map plM) = TP at *
    generalize toldB B = TL at *
    generalize fsBd (B.map Mn.cn) = FB at *
    generalize fsBd ((B.map plM).map Mn.cn) = FP at *
    simp
  obtain ⟨b2, ds, v9, hb2, hds, hd1, hd12, s4⟩ := digits_ok (is := is) (w1 := w1) (w3 := w3) (w4 := some (.p (.lst (toldB B)))) (w5 := some (.p (.lst (toldB (B.map plM))))) (w6 := some (.o 1 (fsBd (B.map Mn.cn)))) (w7 := some (.o 1 (fsBd ((B.map plM).map Mn.cn)))) (w9 := w9) (w10 := w10) (w11 := w11) (w12 := w12) (w13 := w13) (w14 := w14) (w15 := w15) hb1
  cases ds with
  | nil => simp at hd1
  | cons c r =>
  have hds1 : (c :: r).length ≤ 100 := by omega
  obtain ⟨es, gO, hO, eO⟩ := one_ok hP hPl hds (by omega)
  have eqD := eq_run hP gO
  rw [hO] at eqD
  have lt := ltold_ok (s := chain (B.map plM) (c :: r) (beginC (B.map plM))) (m := .o 4 (fsPl (chain (B.map plM) (c :: r) (beginC (B.map plM))))) rfl
  have s5 : (sSet 10 (xFn ff_law_told [] [none] (aC (xFn ff_law_one_by_one [] [none, none] (aC (xV 7) (aC (xV 8) aN))) aN))) [some (.p (.lst (is.map .int))), w1, some (.l b2), w3, some (.p (.lst (toldB B))), some (.p (.lst (toldB (B.map plM)))), some (.o 1 (fsBd (B.map Mn.cn))), some (.o 1 (fsBd ((B.map plM).map Mn.cn))), some (.p (.str (sL (c :: r)))), v9, w10, w11, w12, w13, w14, w15, none] = some (.nx, [some (.p (.lst (is.map .int))), w1, some (.l b2), w3, some (.p (.lst (toldB B))), some (.p (.lst (toldB (B.map plM)))), some (.o 1 (fsBd (B.map Mn.cn))), some (.p (obBd ((B.map plM).map Mn.cn))), some (.p (.str (sL (c :: r)))), v9, some (.p (plT (chain (B.map plM) (c :: r) (beginC (B.map plM))))), w11, w12, w13, w14, w15, none]) := by
    have fz := frz_bd ((B.map plM).map Mn.cn)
    generalize fsPl (chain (B.map plM) (c :: r) (beginC (B.map plM))) = FC at *
    generalize plT (chain (B.map plM) (c :: r) (beginC (B.map plM))) = PT at *
    generalize toldB (B.map plM) = TP at *
    generalize toldB B = TL at *
    generalize obBd ((B.map plM).map Mn.cn) = OP at *
    generalize fsBd (B.map Mn.cn) = FB at *
    generalize fsBd ((B.map plM).map Mn.cn) = FP at *
    generalize sL (c :: r) = SS at *
    simp [fz, eO, lt]
  have onC := once_run noP (c :: r)
  have pD := playB hP hPl (es := [ev1 (c :: r)]) (FF := [.str (sL (c :: r))]) rfl (fun e he => by rw [List.mem_singleton] at he; subst he; exact ev1_ok hds (by simp) hds1) ⟨rfl, trivial⟩ (by simp)
  rw [onC] at pD
  have s6 : (sIf (fB (f2 (dEq true) (xFn ff_law_told [] [none] (aC (xFn ff_play [] [none, none] (aC (xV 7) (aC (xCall dLst (aC (xV 8) aN)) aN))) aN)) (xV 10))) (sRet (xC (.bl false))) sNx) [some (.p (.lst (is.map .int))), w1, some (.l b2), w3, some (.p (.lst (toldB B))), some (.p (.lst (toldB (B.map plM)))), some (.o 1 (fsBd (B.map Mn.cn))), some (.p (obBd ((B.map plM).map Mn.cn))), some (.p (.str (sL (c :: r)))), v9, some (.p (plT (chain (B.map plM) (c :: r) (beginC (B.map plM))))), w11, w12, w13, w14, w15, none] = some (.nx, [some (.p (.lst (is.map .int))), w1, some (.l b2), w3, some (.p (.lst (toldB B))), some (.p (.lst (toldB (B.map plM)))), some (.o 1 (fsBd (B.map Mn.cn))), some (.p (obBd ((B.map plM).map Mn.cn))), some (.p (.str (sL (c :: r)))), v9, some (.p (plT (chain (B.map plM) (c :: r) (beginC (B.map plM))))), w11, w12, w13, w14, w15, none]) := by
    generalize fsPl (chain (B.map plM) (c :: r) (beginC (B.map plM))) = FC at *
    generalize plT (chain (B.map plM) (c :: r) (beginC (B.map plM))) = PT at *
    generalize toldB (B.map plM) = TP at *
    generalize toldB B = TL at *
    generalize obBd ((B.map plM).map Mn.cn) = OP at *
    generalize fsBd (B.map Mn.cn) = FB at *
    generalize fsBd ((B.map plM).map Mn.cn) = FP at *
    generalize sL (c :: r) = SS at *
    simp [dLst, h11, pD, lt, eqD]
  have dl : dLen (.str (sL (c :: r))) = some (.p (.int (c :: r).length)) := by
    have : (sL (c :: r)).length ≤ sizeLine := sl_of (by rw [sL_len]; omega)
    unfold dLen
    dsimp only
    rw [if_pos this, sL_len]
  obtain ⟨q, b3, hb3, q0, q1, e7⟩ := choose_ok (b := b2) (n := (c :: r).length) hb2 (by omega) (by omega)
  obtain ⟨k, rfl⟩ : ∃ k : Nat, q = (k : Int) := ⟨q.toNat, by omega⟩
  have hk : k < (c :: r).length := by omega
  have s7 : (sSet 11 (xFn ff_law_choose [] [some 2, none] (aC (xTk 2) (aC (xCall (o1 dLen) (aC (xV 8) aN)) aN)))) [some (.p (.lst (is.map .int))), w1, some (.l b2), w3, some (.p (.lst (toldB B))), some (.p (.lst (toldB (B.map plM)))), some (.o 1 (fsBd (B.map Mn.cn))), some (.p (obBd ((B.map plM).map Mn.cn))), some (.p (.str (sL (c :: r)))), v9, some (.p (plT (chain (B.map plM) (c :: r) (beginC (B.map plM))))), w11, w12, w13, w14, w15, none] = some (.nx, [some (.p (.lst (is.map .int))), w1, some (.l b3), w3, some (.p (.lst (toldB B))), some (.p (.lst (toldB (B.map plM)))), some (.o 1 (fsBd (B.map Mn.cn))), some (.p (obBd ((B.map plM).map Mn.cn))), some (.p (.str (sL (c :: r)))), v9, some (.p (plT (chain (B.map plM) (c :: r) (beginC (B.map plM))))), some (.p (.int k)), w12, w13, w14, w15, none]) := by
    generalize (c :: r).length = L at *
    generalize plT (chain (B.map plM) (c :: r) (beginC (B.map plM))) = PT at *
    generalize toldB (B.map plM) = TP at *
    generalize toldB B = TL at *
    generalize obBd ((B.map plM).map Mn.cn) = OP at *
    generalize fsBd (B.map Mn.cn) = FB at *
    generalize fsBd ((B.map plM).map Mn.cn) = FP at *
    generalize sL (c :: r) = SS at *
    simp [dl, e7]
  have s8 : (sIf (tfAnd (fB (f2 dGt (xV 11) (xC (.int 0)))) (fB (f2 (dIsN false) (xFld 4 "end" (xFn ff_play [] [none, none] (aC (xV 7) (aC (xCall dLst (aC (xSl (xV 8) pN (pS (xV 11))) aN)) aN)))) (xC .non)))) (sIf (fB (f2 (dEq true) (xFn ff_law_told [] [none] (aC (xFn ff_play [] [none, none] (aC (xV 7) (aC (xCall dLst (aC (xSl (xV 8) pN (pS (xV 11))) (aC (xSl (xV 8) (pS (xV 11)) pN) aN))) aN))) aN)) (xV 10))) (sRet (xC (.bl false))) sNx) sNx) [some (.p (.lst (is.map .int))), w1, some (.l b3), w3, some (.p (.lst (toldB B))), some (.p (.lst (toldB (B.map plM)))), some (.o 1 (fsBd (B.map Mn.cn))), some (.p (obBd ((B.map plM).map Mn.cn))), some (.p (.str (sL (c :: r)))), v9, some (.p (plT (chain (B.map plM) (c :: r) (beginC (B.map plM))))), some (.p (.int k)), w12, w13, w14, w15, none] = some (.nx, [some (.p (.lst (is.map .int))), w1, some (.l b3), w3, some (.p (.lst (toldB B))), some (.p (.lst (toldB (B.map plM)))), some (.o 1 (fsBd (B.map Mn.cn))), some (.p (obBd ((B.map plM).map Mn.cn))), some (.p (.str (sL (c :: r)))), v9, some (.p (plT (chain (B.map plM) (c :: r) (beginC (B.map plM))))), some (.p (.int k)), w12, w13, w14, w15, none]) := by
    have t1 := sL_take (ds := c :: r) (k := k) (by omega)
    have t2 := sL_drop (ds := c :: r) (k := k) (by omega) (Nat.le_of_lt hk)
    by_cases hk0 : 0 < k
    · have gy := dgt_yes hk0
      have htk : (c :: r).take k ≠ [] := by
        intro z
        have := congrArg List.length z
        rw [List.length_take, List.length_nil] at this
        omega
      have hdk : (c :: r).drop k ≠ [] := by
        intro z
        have := congrArg List.length z
        rw [List.length_drop, List.length_nil] at this
        omega
      have ok1 : (ev1 ((c :: r).take k)).Ok := ev1_ok (fun x hx => hds x (List.mem_of_mem_take hx)) htk (by rw [List.length_take]; omega)
      have ok2 : (ev1 ((c :: r).drop k)).Ok := ev1_ok (fun x hx => hds x (List.mem_of_mem_drop hx)) hdk (by rw [List.length_drop]; omega)
      have p1 := playB hP hPl (es := [ev1 ((c :: r).take k)]) (FF := [.str (sL ((c :: r).take k))]) rfl (fun e he => by rw [List.mem_singleton] at he; subst he; exact ok1) ⟨rfl, trivial⟩ (by simp)
      have le := lp_end (runC (B.map plM) [ev1 ((c :: r).take k)])
      unfold obPl at le
      cases ho : (runC (B.map plM) [ev1 ((c :: r).take k)]).over with
      | some x =>
        rw [ho] at le
        simp only [fsCall.encL'] at le
        generalize fsPl (runC (B.map plM) [ev1 ((c :: r).take k)]) = F1 at *
        generalize sL ((c :: r).take k) = z1 at *
        generalize plT (chain (B.map plM) (c :: r) (beginC (B.map plM))) = PT at *
        generalize toldB (B.map plM) = TP at *
        generalize toldB B = TL at *
        generalize obBd ((B.map plM).map Mn.cn) = OP at *
        generalize fsBd (B.map Mn.cn) = FB at *
        generalize fsBd ((B.map plM).map Mn.cn) = FP at *
        generalize sL (c :: r) = SS at *
        simp [gy, t1, dLst, h11, p1, le, dIsN]
      | none =>
        have p2 := playB hP hPl (es := [ev1 ((c :: r).take k), ev1 ((c :: r).drop k)]) (FF := [.str (sL ((c :: r).take k)), .str (sL ((c :: r).drop k))]) rfl (fun e he => by
          rcases List.mem_cons.mp he with rfl | he
          · exact ok1
          · rw [List.mem_singleton] at he; subst he; exact ok2) ⟨rfl, ho, trivial⟩ (by simp)
        rw [parts_run noP _ _ ho, List.take_append_drop] at p2
        rw [ho] at le
        simp only [fsCall.encL'] at le
        generalize fsPl (runC (B.map plM) [ev1 ((c :: r).take k)]) = F1 at *
        generalize fsPl (chain (B.map plM) (c :: r) (beginC (B.map plM))) = FC at *
        generalize sL ((c :: r).take k) = z1 at *
        generalize sL ((c :: r).drop k) = z2 at *
        generalize plT (chain (B.map plM) (c :: r) (beginC (B.map plM))) = PT at *
        generalize toldB (B.map plM) = TP at *
        generalize toldB B = TL at *
        generalize obBd ((B.map plM).map Mn.cn) = OP at *
        generalize fsBd (B.map Mn.cn) = FB at *
        generalize fsBd ((B.map plM).map Mn.cn) = FP at *
        generalize sL (c :: r) = SS at *
        simp [gy, t1, t2, dLst, h11, h22, p1, le, dIsN, p2, lt, eqD]
    · have hk00 : k = 0 := by omega
      subst hk00
      have gn : dGt (.int 0) (.int 0) = some (.bl false) := rfl
      generalize plT (chain (B.map plM) (c :: r) (beginC (B.map plM))) = PT at *
      generalize toldB (B.map plM) = TP at *
      generalize toldB B = TL at *
      generalize obBd ((B.map plM).map Mn.cn) = OP at *
      generalize fsBd (B.map Mn.cn) = FB at *
      generalize fsBd ((B.map plM).map Mn.cn) = FP at *
      generalize sL (c :: r) = SS at *
      simp [gn]
  have c1 := sL_cut1 (c := c) (r := r) (by omega)
  have ap : ("-" : Str) ++ sL [c] = sL [45, c] := by rw [dash_eq, sL_app]; rfl
  have la : ("-" : Str).length + (sL [c]).length ≤ sizeLine := sl_of (by rw [dash_eq, sL_len, sL_len]; show 1 + 1 ≤ 1000000; omega)
  have s9 : (sPar 12 13 (xCall dLst (aC (f2M dAddA (xC (.str "-")) (xSl (xV 8) pN (pS (xC (.int 1))))) aN)) (xCall dLst (aC (xC (.str "-")) (aC (xSl (xV 8) pN (pS (xC (.int 1)))) aN)))) [some (.p (.lst (is.map .int))), w1, some (.l b3), w3, some (.p (.lst (toldB B))), some (.p (.lst (toldB (B.map plM)))), some (.o 1 (fsBd (B.map Mn.cn))), some (.p (obBd ((B.map plM).map Mn.cn))), some (.p (.str (sL (c :: r)))), v9, some (.p (plT (chain (B.map plM) (c :: r) (beginC (B.map plM))))), some (.p (.int k)), w12, w13, w14, w15, none] = some (.nx, [some (.p (.lst (is.map .int))), w1, some (.l b3), w3, some (.p (.lst (toldB B))), some (.p (.lst (toldB (B.map plM)))), some (.o 1 (fsBd (B.map Mn.cn))), some (.p (obBd ((B.map plM).map Mn.cn))), some (.p (.str (sL (c :: r)))), v9, some (.p (plT (chain (B.map plM) (c :: r) (beginC (B.map plM))))), some (.p (.int k)), some (.l [.str (sL [45, c])]), some (.l [.str "-", .str (sL [c])]), w14, w15, none]) := by
    generalize sL [45, c] = z2 at *
    generalize sL [c] = z1 at *
    generalize plT (chain (B.map plM) (c :: r) (beginC (B.map plM))) = PT at *
    generalize toldB (B.map plM) = TP at *
    generalize toldB B = TL at *
    generalize obBd ((B.map plM).map Mn.cn) = OP at *
    generalize fsBd (B.map Mn.cn) = FB at *
    generalize fsBd ((B.map plM).map Mn.cn) = FP at *
    generalize sL (c :: r) = SS at *
    simp [c1, ap, dAddA, la, dLst, h11, h22]
  have s10 : (sIf (fB (f2 (dIsN false) (xFld 4 "end" (xFn ff_play [] [none, none] (aC (xV 7) (aC (xCall dLst (aC (xC (.str "-")) aN)) aN)))) (xC .non))) (sIf (fB (f2 (dEq true) (xFn ff_law_told [] [none] (aC (xFn ff_play [] [none, some 12] (aC (xV 7) (aC (xTk 12) aN))) aN)) (xFn ff_law_told [] [none] (aC (xFn ff_play [] [none, some 13] (aC (xV 7) (aC (xTk 13) aN))) aN)))) (sRet (xC (.bl false))) sNx) sNx) [some (.p (.lst (is.map .int))), w1, some (.l b3), w3, some (.p (.lst (toldB B))), some (.p (.lst (toldB (B.map plM)))), some (.o 1 (fsBd (B.map Mn.cn))), some (.p (obBd ((B.map plM).map Mn.cn))), some (.p (.str (sL (c :: r)))), v9, some (.p (plT (chain (B.map plM) (c :: r) (beginC (B.map plM))))), some (.p (.int k)), some (.l [.str (sL [45, c])]), some (.l [.str "-", .str (sL [c])]), w14, w15, none] = some (.nx, [some (.p (.lst (is.map .int))), w1, some (.l b3), w3, some (.p (.lst (toldB B))), some (.p (.lst (toldB (B.map plM)))), some (.o 1 (fsBd (B.map Mn.cn))), some (.p (obBd ((B.map plM).map Mn.cn))), some (.p (.str (sL (c :: r)))), v9, some (.p (plT (chain (B.map plM) (c :: r) (beginC (B.map plM))))), some (.p (.int k)), some (.l [.str (sL [45, c])]), some (.l [.str "-", .str (sL [c])]), w14, w15, none]) := by
    have okd : (⟨true, []⟩ : Ev).Ok := ⟨fun _ h => (nomatch h), fun h => (nomatch h), fun _ => by simp, by simp⟩
    have okl : (⟨true, [c]⟩ : Ev).Ok := ⟨fun x hx => by rw [List.mem_singleton] at hx; subst hx; exact dg7_dgN _ (hds _ List.mem_cons_self), fun h => (nomatch h), fun _ => by simp, by simp⟩
    have ok1 : (ev1 [c]).Ok := ev1_ok (fun x hx => by rw [List.mem_singleton] at hx; subst hx; exact hds _ List.mem_cons_self) (by simp) (by simp)
    have p1 := playB hP hPl (es := [⟨true, []⟩]) (FF := [.str "-"]) (by rw [dash_eq]; rfl) (fun e he => by rw [List.mem_singleton] at he; subst he; exact okd) ⟨rfl, trivial⟩ (by simp)
    have le := lp_end (runC (B.map plM) [⟨true, []⟩])
    unfold obPl at le
    cases ho : (runC (B.map plM) [⟨true, []⟩]).over with
    | some x =>
      rw [ho] at le
      simp only [fsCall.encL'] at le
      generalize fsPl (runC (B.map plM) [⟨true, []⟩]) = F1 at *
      generalize sL [45, c] = z2 at *
      generalize sL [c] = z1 at *
      generalize plT (chain (B.map plM) (c :: r) (beginC (B.map plM))) = PT at *
      generalize toldB (B.map plM) = TP at *
      generalize toldB B = TL at *
      generalize obBd ((B.map plM).map Mn.cn) = OP at *
      generalize fsBd (B.map Mn.cn) = FB at *
      generalize fsBd ((B.map plM).map Mn.cn) = FP at *
      generalize sL (c :: r) = SS at *
      simp [dLst, h11, p1, le, dIsN]
    | none =>
      have p2 := playB hP hPl (es := [⟨true, [c]⟩]) (FF := [.str (sL [45, c])]) rfl (fun e he => by rw [List.mem_singleton] at he; subst he; exact okl) ⟨rfl, trivial⟩ (by simp)
      have g3 : GoesOn (B.map plM) [⟨true, []⟩, ev1 [c]] (beginC (B.map plM)) := ⟨rfl, ho, trivial⟩
      have p3 := playB hP hPl (es := [⟨true, []⟩, ev1 [c]]) (FF := [.str "-", .str (sL [c])]) (by rw [dash_eq]; rfl) (fun e he => by
        rcases List.mem_cons.mp he with rfl | he
        · exact okd
        · rw [List.mem_singleton] at he; subst he; exact ok1) g3 (by simp)
      rw [late_run noP c ho] at p2
      have eq3 := eq_run hP g3
      have lt3 := ltold_ok (s := runC (B.map plM) [⟨true, []⟩, ev1 [c]]) (m := .o 4 (fsPl (runC (B.map plM) [⟨true, []⟩, ev1 [c]]))) rfl
      rw [ho] at le
      simp only [fsCall.encL'] at le
      generalize plT (runC (B.map plM) [⟨true, []⟩, ev1 [c]]) = P3 at *
      generalize fsPl (runC (B.map plM) [⟨true, []⟩, ev1 [c]]) = F3 at *
      generalize fsPl (runC (B.map plM) [⟨true, []⟩]) = F1 at *
      generalize sL [45, c] = z2 at *
      generalize sL [c] = z1 at *
      generalize plT (chain (B.map plM) (c :: r) (beginC (B.map plM))) = PT at *
      generalize toldB (B.map plM) = TP at *
      generalize toldB B = TL at *
      generalize obBd ((B.map plM).map Mn.cn) = OP at *
      generalize fsBd (B.map Mn.cn) = FB at *
      generalize fsBd ((B.map plM).map Mn.cn) = FP at *
      generalize sL (c :: r) = SS at *
      simp [dLst, h11, p1, le, dIsN, p2, p3, lt3, eq3]
  have pB := playB hB hl (es := [ev1 (c :: r)]) (FF := [.str (sL (c :: r))]) rfl (fun e he => by rw [List.mem_singleton] at he; subst he; exact ev1_ok hds (by simp) hds1) ⟨rfl, trivial⟩ (by simp)
  have lpp := lp_pres (runC B [ev1 (c :: r)])
  unfold obPl at lpp
  have hmany : (runC B [ev1 (c :: r)]).many ≤ (c :: r).length := by
    have := (do_many B (ev1 (c :: r)) (beginC B)).2
    have e0 : (beginC B).many = 0 := rfl
    rw [e0, Nat.zero_add] at this
    exact this
  have s11 : (sIf (fB (f2 dGt (xFld 4 "presses" (xFn ff_play [] [none, none] (aC (xV 6) (aC (xCall dLst (aC (xV 8) aN)) aN)))) (xCall (o1 dLen) (aC (xV 8) aN)))) (sRet (xC (.bl false))) sNx) [some (.p (.lst (is.map .int))), w1, some (.l b3), w3, some (.p (.lst (toldB B))), some (.p (.lst (toldB (B.map plM)))), some (.o 1 (fsBd (B.map Mn.cn))), some (.p (obBd ((B.map plM).map Mn.cn))), some (.p (.str (sL (c :: r)))), v9, some (.p (plT (chain (B.map plM) (c :: r) (beginC (B.map plM))))), some (.p (.int k)), some (.l [.str (sL [45, c])]), some (.l [.str "-", .str (sL [c])]), w14, w15, none] = some (.nx, [some (.p (.lst (is.map .int))), w1, some (.l b3), w3, some (.p (.lst (toldB B))), some (.p (.lst (toldB (B.map plM)))), some (.p (obBd (B.map Mn.cn))), some (.p (obBd ((B.map plM).map Mn.cn))), some (.p (.str (sL (c :: r)))), v9, some (.p (plT (chain (B.map plM) (c :: r) (beginC (B.map plM))))), some (.p (.int k)), some (.l [.str (sL [45, c])]), some (.l [.str "-", .str (sL [c])]), w14, w15, none]) := by
    have gn := dgt_no hmany
    have fz := frz_bd (B.map Mn.cn)
    generalize (runC B [ev1 (c :: r)]).many = mn at *
    generalize (c :: r).length = L at *
    generalize sL [45, c] = z2 at *
    generalize sL [c] = z1 at *
    generalize fsPl (runC B [ev1 (c :: r)]) = FR at *
    generalize plT (chain (B.map plM) (c :: r) (beginC (B.map plM))) = PT at *
    generalize toldB (B.map plM) = TP at *
    generalize toldB B = TL at *
    generalize obBd ((B.map plM).map Mn.cn) = OP at *
    generalize obBd (B.map Mn.cn) = OB at *
    generalize fsBd (B.map Mn.cn) = FB at *
    generalize fsBd ((B.map plM).map Mn.cn) = FP at *
    generalize sL (c :: r) = SS at *
    simp [fz, dLst, h11, pB, lpp, dl, gn]
  have s12 : (sSet 14 (xFn ff_play [] [none, none] (aC (xV 6) (aC (xCall dLst (aC (xV 8) aN)) aN)))) [some (.p (.lst (is.map .int))), w1, some (.l b3), w3, some (.p (.lst (toldB B))), some (.p (.lst (toldB (B.map plM)))), some (.p (obBd (B.map Mn.cn))), some (.p (obBd ((B.map plM).map Mn.cn))), some (.p (.str (sL (c :: r)))), v9, some (.p (plT (chain (B.map plM) (c :: r) (beginC (B.map plM))))), some (.p (.int k)), some (.l [.str (sL [45, c])]), some (.l [.str "-", .str (sL [c])]), w14, w15, none] = some (.nx, [some (.p (.lst (is.map .int))), w1, some (.l b3), w3, some (.p (.lst (toldB B))), some (.p (.lst (toldB (B.map plM)))), some (.p (obBd (B.map Mn.cn))), some (.p (obBd ((B.map plM).map Mn.cn))), some (.p (.str (sL (c :: r)))), v9, some (.p (plT (chain (B.map plM) (c :: r) (beginC (B.map plM))))), some (.p (.int k)), some (.l [.str (sL [45, c])]), some (.l [.str "-", .str (sL [c])]), some (.o 4 (fsPl (runC B [ev1 (c :: r)]))), w15, none]) := by
    generalize sL [45, c] = z2 at *
    generalize sL [c] = z1 at *
    generalize fsPl (runC B [ev1 (c :: r)]) = FR at *
    generalize plT (chain (B.map plM) (c :: r) (beginC (B.map plM))) = PT at *
    generalize toldB (B.map plM) = TP at *
    generalize toldB B = TL at *
    generalize obBd ((B.map plM).map Mn.cn) = OP at *
    generalize obBd (B.map Mn.cn) = OB at *
    generalize fsBd (B.map Mn.cn) = FB at *
    generalize fsBd ((B.map plM).map Mn.cn) = FP at *
    generalize sL (c :: r) = SS at *
    simp [dLst, h11, pB]
  have lst := lp_start (runC B [ev1 (c :: r)])
  have lc2 : lcF (gSet 16) (fB (f2 (dInA false) (f2 dIx (xV 16) (xC (.int 0))) (xSl (xFld 4 "started" (xV 14)) (pS (xC (.int 1))) pN))) (f2 dIx (xV 16) (xC (.int 4))) [16] (B.map fun m => D.lst (oneL m)) [some (.p (.lst (is.map .int))), w1, some (.l b3), w3, some (.p (.lst (toldB B))), some (.p (.lst (toldB (B.map plM)))), some (.p (obBd (B.map Mn.cn))), some (.p (obBd ((B.map plM).map Mn.cn))), some (.p (.str (sL (c :: r)))), v9, some (.p (plT (chain (B.map plM) (c :: r) (beginC (B.map plM))))), some (.p (.int k)), some (.l [.str (sL [45, c])]), some (.l [.str "-", .str (sL [c])]), some (.o 4 (fsPl (runC B [ev1 (c :: r)]))), w15, none] [] = some ((B.filter fun m => decide (m.name ∈ (runC B [ev1 (c :: r)]).begun.tail)).map fun m => D.bl m.clears, [some (.p (.lst (is.map .int))), w1, some (.l b3), w3, some (.p (.lst (toldB B))), some (.p (.lst (toldB (B.map plM)))), some (.p (obBd (B.map Mn.cn))), some (.p (obBd ((B.map plM).map Mn.cn))), some (.p (.str (sL (c :: r)))), v9, some (.p (plT (chain (B.map plM) (c :: r) (beginC (B.map plM))))), some (.p (.int k)), some (.l [.str (sL [45, c])]), some (.l [.str "-", .str (sL [c])]), some (.p (obPl (runC B [ev1 (c :: r)]))), w15, none]) :=
    lcF_fm2 _ _ (fun m => D.lst (oneL m)) (fun m => decide (m.name ∈ (runC B [ev1 (c :: r)]).begun.tail)) (fun m => D.bl m.clears) B hB.ne (by omega) fun m hm ms hms => by
      have tl := tl_tup (runC B [ev1 (c :: r)]).begun
      have ins := dInA_strs m.name (runC B [ev1 (c :: r)]).begun.tail false (d := .tup ((runC B [ev1 (c :: r)]).begun.tail.map .str)) rfl
      have i0 := o_ix0 m
      have i4 := o_ix4 m
      have fo : frz (.o 4 (fsPl (runC B [ev1 (c :: r)]))) = obPl (runC B [ev1 (c :: r)]) := rfl
      have fp : ∀ d : D, frz (.p d) = d := fun _ => rfl
      refine ⟨ms.set 16 (some (.p (.lst (oneL m)))), [some (.p (.lst (is.map .int))), w1, some (.l b3), w3, some (.p (.lst (toldB B))), some (.p (.lst (toldB (B.map plM)))), some (.p (obBd (B.map Mn.cn))), some (.p (obBd ((B.map plM).map Mn.cn))), some (.p (.str (sL (c :: r)))), v9, some (.p (plT (chain (B.map plM) (c :: r) (beginC (B.map plM))))), some (.p (.int k)), some (.l [.str (sL [45, c])]), some (.l [.str "-", .str (sL [c])]), some (.p (obPl (runC B [ev1 (c :: r)]))), w15, some (.p (.lst (oneL m)))], ?_, ?_, fun _ => rfl, fun _ => ⟨.p (.bl m.clears), [some (.p (.lst (is.map .int))), w1, some (.l b3), w3, some (.p (.lst (toldB B))), some (.p (.lst (toldB (B.map plM)))), some (.p (obBd (B.map Mn.cn))), some (.p (obBd ((B.map plM).map Mn.cn))), some (.p (.str (sL (c :: r)))), v9, some (.p (plT (chain (B.map plM) (c :: r) (beginC (B.map plM))))), some (.p (.int k)), some (.l [.str (sL [45, c])]), some (.l [.str "-", .str (sL [c])]), some (.p (obPl (runC B [ev1 (c :: r)]))), w15, some (.p (.lst (oneL m)))], ?_, rfl, rfl⟩⟩
      · rcases hms with rfl | rfl <;> rfl
      · generalize (runC B [ev1 (c :: r)]).begun.tail.map D.str = BT at *
        generalize (runC B [ev1 (c :: r)]).begun.map D.str = BG at *
        generalize decide (m.name ∈ (runC B [ev1 (c :: r)]).begun.tail) = dd at *
        generalize obPl (runC B [ev1 (c :: r)]) = OR at *
        generalize oneL m = om at *
        generalize sL [45, c] = z2 at *
        generalize sL [c] = z1 at *
        generalize fsPl (runC B [ev1 (c :: r)]) = FR at *
        generalize plT (chain (B.map plM) (c :: r) (beginC (B.map plM))) = PT at *
        generalize toldB (B.map plM) = TP at *
        generalize toldB B = TL at *
        generalize obBd ((B.map plM).map Mn.cn) = OP at *
        generalize obBd (B.map Mn.cn) = OB at *
        generalize fsBd (B.map Mn.cn) = FB at *
        generalize fsBd ((B.map plM).map Mn.cn) = FP at *
        generalize sL (c :: r) = SS at *
        rcases hms with rfl | rfl
        · simp [fo, i0, lst, tl, ins, -frz_o]
        · simp [i0, lst, tl, ins]
      · generalize obPl (runC B [ev1 (c :: r)]) = OR at *
        generalize oneL m = om at *
        generalize sL [45, c] = z2 at *
        generalize sL [c] = z1 at *
        generalize fsPl (runC B [ev1 (c :: r)]) = FR at *
        generalize plT (chain (B.map plM) (c :: r) (beginC (B.map plM))) = PT at *
        generalize toldB (B.map plM) = TP at *
        generalize toldB B = TL at *
        generalize obBd ((B.map plM).map Mn.cn) = OP at *
        generalize obBd (B.map Mn.cn) = OB at *
        generalize fsBd (B.map Mn.cn) = FB at *
        generalize fsBd ((B.map plM).map Mn.cn) = FP at *
        generalize sL (c :: r) = SS at *
        simp [i4]
  have s13 : (sSet 15 (xLc (iL (xV 4)) (gSet 16) (fB (f2 (dInA false) (f2 dIx (xV 16) (xC (.int 0))) (xSl (xFld 4 "started" (xV 14)) (pS (xC (.int 1))) pN))) (f2 dIx (xV 16) (xC (.int 4))) [16])) [some (.p (.lst (is.map .int))), w1, some (.l b3), w3, some (.p (.lst (toldB B))), some (.p (.lst (toldB (B.map plM)))), some (.p (obBd (B.map Mn.cn))), some (.p (obBd ((B.map plM).map Mn.cn))), some (.p (.str (sL (c :: r)))), v9, some (.p (plT (chain (B.map plM) (c :: r) (beginC (B.map plM))))), some (.p (.int k)), some (.l [.str (sL [45, c])]), some (.l [.str "-", .str (sL [c])]), some (.o 4 (fsPl (runC B [ev1 (c :: r)]))), w15, none] = some (.nx, [some (.p (.lst (is.map .int))), w1, some (.l b3), w3, some (.p (.lst (toldB B))), some (.p (.lst (toldB (B.map plM)))), some (.p (obBd (B.map Mn.cn))), some (.p (obBd ((B.map plM).map Mn.cn))), some (.p (.str (sL (c :: r)))), v9, some (.p (plT (chain (B.map plM) (c :: r) (beginC (B.map plM))))), some (.p (.int k)), some (.l [.str (sL [45, c])]), some (.l [.str "-", .str (sL [c])]), some (.p (obPl (runC B [ev1 (c :: r)]))), some (.l ((B.filter fun m => decide (m.name ∈ (runC B [ev1 (c :: r)]).begun.tail)).map fun m => .bl m.clears)), none]) := by
    have et : toldB B = B.map fun m => D.lst (oneL m) := rfl
    rw [← et] at lc2
    generalize (B.filter fun m => decide (m.name ∈ (runC B [ev1 (c :: r)]).begun.tail)).map (fun m => D.bl m.clears) = BL at *
    generalize obPl (runC B [ev1 (c :: r)]) = OR at *
    generalize sL [45, c] = z2 at *
    generalize sL [c] = z1 at *
    generalize fsPl (runC B [ev1 (c :: r)]) = FR at *
    generalize plT (chain (B.map plM) (c :: r) (beginC (B.map plM))) = PT at *
    generalize toldB (B.map plM) = TP at *
    generalize toldB B = TL at *
    generalize obBd ((B.map plM).map Mn.cn) = OP at *
    generalize obBd (B.map Mn.cn) = OB at *
    generalize fsBd (B.map Mn.cn) = FB at *
    generalize fsBd ((B.map plM).map Mn.cn) = FP at *
    generalize sL (c :: r) = SS at *
    simp [wpM, lc2]
  have s14 : ∃ v15, (sIf (tfAnd (fB (f2 (dIsN false) (xFld 4 "end" (xV 14)) (xC .non))) (tfAnd (fB (f2 (dInA true) (xC (.bl true)) (xV 15))) (fB (f2 (dEq true) (xFn ff_law_told [] [none] (aC (xV 14) aN)) (xV 10))))) (sRet (xC (.bl false))) sNx) [some (.p (.lst (is.map .int))), w1, some (.l b3), w3, some (.p (.lst (toldB B))), some (.p (.lst (toldB (B.map plM)))), some (.p (obBd (B.map Mn.cn))), some (.p (obBd ((B.map plM).map Mn.cn))), some (.p (.str (sL (c :: r)))), v9, some (.p (plT (chain (B.map plM) (c :: r) (beginC (B.map plM))))), some (.p (.int k)), some (.l [.str (sL [45, c])]), some (.l [.str "-", .str (sL [c])]), some (.p (obPl (runC B [ev1 (c :: r)]))), some (.l ((B.filter fun m => decide (m.name ∈ (runC B [ev1 (c :: r)]).begun.tail)).map fun m => .bl m.clears)), none] = some (.nx, [some (.p (.lst (is.map .int))), w1, some (.l b3), w3, some (.p (.lst (toldB B))), some (.p (.lst (toldB (B.map plM)))), some (.p (obBd (B.map Mn.cn))), some (.p (obBd ((B.map plM).map Mn.cn))), some (.p (.str (sL (c :: r)))), v9, some (.p (plT (chain (B.map plM) (c :: r) (beginC (B.map plM))))), some (.p (.int k)), some (.l [.str (sL [45, c])]), some (.l [.str "-", .str (sL [c])]), some (.p (obPl (runC B [ev1 (c :: r)]))), v15, none]) := by
    have le := lp_end (runC B [ev1 (c :: r)])
    have ltB := ltold_ok (s := runC B [ev1 (c :: r)]) (m := .p (obPl (runC B [ev1 (c :: r)]))) rfl
    have ib := dInA_bls ((B.filter fun m => decide (m.name ∈ (runC B [ev1 (c :: r)]).begun.tail)).map fun m => m.clears) true
    rw [List.map_map] at ib
    have em : (D.bl ∘ fun m : Mn => m.clears) = fun m => D.bl m.clears := rfl
    rw [em] at ib
    cases ho : (runC B [ev1 (c :: r)]).over with
    | some x =>
      rw [ho] at le
      simp only [fsCall.encL'] at le
      refine ⟨some (.l ((B.filter fun m => decide (m.name ∈ (runC B [ev1 (c :: r)]).begun.tail)).map fun m => .bl m.clears)), ?_⟩
      generalize (B.filter fun m => decide (m.name ∈ (runC B [ev1 (c :: r)]).begun.tail)).map (fun m => D.bl m.clears) = BL at *
      generalize obPl (runC B [ev1 (c :: r)]) = OR at *
      generalize sL [45, c] = z2 at *
      generalize sL [c] = z1 at *
      generalize fsPl (runC B [ev1 (c :: r)]) = FR at *
      generalize plT (chain (B.map plM) (c :: r) (beginC (B.map plM))) = PT at *
      generalize toldB (B.map plM) = TP at *
      generalize toldB B = TL at *
      generalize obBd ((B.map plM).map Mn.cn) = OP at *
      generalize obBd (B.map Mn.cn) = OB at *
      generalize fsBd (B.map Mn.cn) = FB at *
      generalize fsBd ((B.map plM).map Mn.cn) = FP at *
      generalize sL (c :: r) = SS at *
      simp [le, dIsN]
    | none =>
      rw [ho] at le
      simp only [fsCall.encL'] at le
      by_cases hc : true ∈ (B.filter fun m => decide (m.name ∈ (runC B [ev1 (c :: r)]).begun.tail)).map fun m => m.clears
      · simp only [hc, decide_true, if_true, Bool.not_true] at ib
        refine ⟨some (.p (.lst ((B.filter fun m => decide (m.name ∈ (runC B [ev1 (c :: r)]).begun.tail)).map fun m => .bl m.clears))), ?_⟩
        generalize (B.filter fun m => decide (m.name ∈ (runC B [ev1 (c :: r)]).begun.tail)).map (fun m => D.bl m.clears) = BL at *
        generalize obPl (runC B [ev1 (c :: r)]) = OR at *
        generalize sL [45, c] = z2 at *
        generalize sL [c] = z1 at *
        generalize fsPl (runC B [ev1 (c :: r)]) = FR at *
        generalize plT (chain (B.map plM) (c :: r) (beginC (B.map plM))) = PT at *
        generalize toldB (B.map plM) = TP at *
        generalize toldB B = TL at *
        generalize obBd ((B.map plM).map Mn.cn) = OP at *
        generalize obBd (B.map Mn.cn) = OB at *
        generalize fsBd (B.map Mn.cn) = FB at *
        generalize fsBd ((B.map plM).map Mn.cn) = FP at *
        generalize sL (c :: r) = SS at *
        simp [le, dIsN, ib]
      · simp only [hc, decide_false, if_true, Bool.not_false] at ib
        have soft : Soft B (runC B [ev1 (c :: r)]).begun := fun z hz => by
          rw [List.drop_one] at hz
          cases hcl : (menuOf B z).clears with
          | false => rfl
          | true =>
            have J : CallMore B (runC B [ev1 (c :: r)]) := pres_run hB.bdL.toBdC (pres_more hB.bdL.toBdC) (beginC_ok hB.bdL.toBdC) (begin_more hB.bdL.toBdC) (es := [ev1 (c :: r)]) ⟨rfl, trivial⟩
            obtain ⟨m1, m2⟩ := menuOf_mem (J.bm z (List.mem_of_mem_tail hz))
            exact absurd (List.mem_map.mpr ⟨menuOf B z, List.mem_filter.mpr ⟨m1, by rw [m2]; simpa using hz⟩, hcl⟩) hc
        have eqs := once_pl soft
        rw [onC] at eqs
        rw [← eqs] at ltB le ib ⊢
        refine ⟨some (.p (.lst ((B.filter fun m => decide (m.name ∈ (chain (B.map plM) (c :: r) (beginC (B.map plM))).begun.tail)).map fun m => .bl m.clears))), ?_⟩
        generalize (B.filter fun m => decide (m.name ∈ (chain (B.map plM) (c :: r) (beginC (B.map plM))).begun.tail)).map (fun m => D.bl m.clears) = BL at *
        generalize obPl (chain (B.map plM) (c :: r) (beginC (B.map plM))) = OR at *
        generalize sL [45, c] = z2 at *
        generalize sL [c] = z1 at *
        generalize plT (chain (B.map plM) (c :: r) (beginC (B.map plM))) = PT at *
        generalize toldB (B.map plM) = TP at *
        generalize toldB B = TL at *
        generalize obBd ((B.map plM).map Mn.cn) = OP at *
        generalize obBd (B.map Mn.cn) = OB at *
        generalize fsBd (B.map Mn.cn) = FB at *
        generalize fsBd ((B.map plM).map Mn.cn) = FP at *
        generalize sL (c :: r) = SS at *
        simp [le, dIsN, ib, ltB, eqD]
  obtain ⟨v15, s14⟩ := s14
  exact ⟨b3, _, _, _, _, _, _, _, _, _, _, _, _, hb3, (seq_nx s0).trans ((seq_nx s1).trans ((seq_nx s2).trans ((seq_nx s3).trans ((seq_nx s4).trans ((seq_nx s5).trans ((seq_nx s6).trans ((seq_nx s7).trans ((seq_nx s8).trans ((seq_nx s9).trans ((seq_nx s10).trans ((seq_nx s11).trans ((seq_nx s12).trans ((seq_nx s13).trans s14)))))))))))))⟩
end
theorem law_ok (is : List Int) (hl : is.length ≤ 63) : ∃ c, ff_law [.p (.lst (is.map .int))] = some (.p (.bl true), c) := by
  have inner : ∀ (w1 w3 w4 w5 w6 w7 w8 w9 w10 w11 w12 w13 w14 w15 : Option M) (b : List D), Box b → ∃ ms', forF (gSet 3) bTurn (rngD 0 4) [some (.p (.lst (is.map .int))), w1, some (.l b), w3, w4, w5, w6, w7, w8, w9, w10, w11, w12, w13, w14, w15, none] = some (.nx, ms') ∧ ∃ w3 w4 w5 w6 w7 w8 w9 w10 w11 w12 w13 w14 w15 b, Box b ∧ ms' = [some (.p (.lst (is.map .int))), w1, some (.l b), w3, w4, w5, w6, w7, w8, w9, w10, w11, w12, w13, w14, w15, none] := by
    intro w1 w3 w4 w5 w6 w7 w8 w9 w10 w11 w12 w13 w14 w15 b hb
    refine forF_rng (fun ms => ∃ w3 w4 w5 w6 w7 w8 w9 w10 w11 w12 w13 w14 w15 b, Box b ∧ ms = [some (.p (.lst (is.map .int))), w1, some (.l b), w3, w4, w5, w6, w7, w8, w9, w10, w11, w12, w13, w14, w15, none]) ?_ 4 0 _ (by decide) ⟨_, _, _, _, _, _, _, _, _, _, _, _, _, b, hb, rfl⟩
    rintro i ms _ ⟨w3, w4, w5, w6, w7, w8, w9, w10, w11, w12, w13, w14, w15, b, hb, rfl⟩
    obtain ⟨b', v4, v5, v6, v7, v8, v9, v10, v11, v12, v13, v14, v15, hb', e⟩ := turn_ok (is := is) (w1 := w1) (w3 := some (.p (.int i))) (w4 := w4) (w5 := w5) (w6 := w6) (w7 := w7) (w8 := w8) (w9 := w9) (w10 := w10) (w11 := w11) (w12 := w12) (w13 := w13) (w14 := w14) (w15 := w15) hb
    exact ⟨_, _, rfl, e, _, _, _, _, _, _, _, _, _, _, _, _, _, b', hb', rfl⟩
  have r5 : ∀ ms, iR1 (aC (xC (.int 4)) aN) ms = some (rngD 0 4, ms) := fun ms => iR1_of (n := 4) (by simp) (by decide)
  have outer : ∀ k : Nat, ∃ ms', forF (gSet 1) (sSeq (sSet 2 (xFn ff_law_seed [] [none, none] (aC (xV 0) (aC (xV 1) aN)))) (sFor (iR1 (aC (xC (.int 4)) aN)) (gSet 3) bTurn)) (rngD 0 k) [some (.p (.lst (is.map .int))), none, none, none, none, none, none, none, none, none, none, none, none, none, none, none, none] = some (.nx, ms') ∧ ∃ w1 w2 w3 w4 w5 w6 w7 w8 w9 w10 w11 w12 w13 w14 w15, ms' = [some (.p (.lst (is.map .int))), w1, w2, w3, w4, w5, w6, w7, w8, w9, w10, w11, w12, w13, w14, w15, none] := by
    intro k
    refine forF_rng (fun ms => ∃ w1 w2 w3 w4 w5 w6 w7 w8 w9 w10 w11 w12 w13 w14 w15, ms = [some (.p (.lst (is.map .int))), w1, w2, w3, w4, w5, w6, w7, w8, w9, w10, w11, w12, w13, w14, w15, none]) ?_ k 0 _ (by decide) ⟨_, _, _, _, _, _, _, _, _, _, _, _, _, _, _, rfl⟩
    rintro i ms hi ⟨w1, w2, w3, w4, w5, w6, w7, w8, w9, w10, w11, w12, w13, w14, w15, rfl⟩
    obtain ⟨j, rfl⟩ : ∃ j : Nat, i = j := ⟨i.toNat, by omega⟩
    obtain ⟨b, hb, e⟩ := seed_ok is j
    obtain ⟨ms', e2, u3, u4, u5, u6, u7, u8, u9, u10, u11, u12, u13, u14, u15, b', hb', rfl⟩ := inner (some (.p (.int j))) w3 w4 w5 w6 w7 w8 w9 w10 w11 w12 w13 w14 w15 b hb
    refine ⟨[some (.p (.lst (is.map .int))), some (.p (.int j)), w2, w3, w4, w5, w6, w7, w8, w9, w10, w11, w12, w13, w14, w15, none], [some (.p (.lst (is.map .int))), some (.p (.int j)), some (.l b'), u3, u4, u5, u6, u7, u8, u9, u10, u11, u12, u13, u14, u15, none], rfl, ?_, _, _, _, _, _, _, _, _, _, _, _, _, _, _, _, rfl⟩
    · have s1 : (sSet 2 (xFn ff_law_seed [] [none, none] (aC (xV 0) (aC (xV 1) aN)))) [some (.p (.lst (is.map .int))), some (.p (.int j)), w2, w3, w4, w5, w6, w7, w8, w9, w10, w11, w12, w13, w14, w15, none] = some (.nx, [some (.p (.lst (is.map .int))), some (.p (.int j)), some (.l b), w3, w4, w5, w6, w7, w8, w9, w10, w11, w12, w13, w14, w15, none]) := by simp [e]
      rw [seq_nx s1]
      simp [r5, e2]
  have em : ∃ k : Nat, k < 1000000 ∧ ∀ ms, (ms[0]? = some (some (.p (.lst (is.map .int))))) → ((aC (xCall (o2 dMax) (aC (xC (.int 2)) (aC (xCall (o2 dMin) (aC (xC (.int 3)) (aC (xCall (o1 dLen) (aC (xV 0) aN)) aN))) aN))) aN)) ms = some ([.p (.int k)], ms.set 0 (some (.p (.lst (is.map .int))))) := by
    refine ⟨max 2 (min 3 is.length), by omega, fun ms h => ?_⟩
    simp [h, dMin, dMax]
    omega
  obtain ⟨k, hk, em⟩ := em
  have it : iR1 (aC (xCall (o2 dMax) (aC (xC (.int 2)) (aC (xCall (o2 dMin) (aC (xC (.int 3)) (aC (xCall (o1 dLen) (aC (xV 0) aN)) aN))) aN))) aN) [some (.p (.lst (is.map .int))), none, none, none, none, none, none, none, none, none, none, none, none, none, none, none, none] = some (rngD 0 k, [some (.p (.lst (is.map .int))), none, none, none, none, none, none, none, none, none, none, none, none, none, none, none, none]) :=
    iR1_of (em _ rfl) hk
  obtain ⟨ms', e, w1, w2, w3, w4, w5, w6, w7, w8, w9, w10, w11, w12, w13, w14, w15, rfl⟩ := outer k
  have ee : ff_law = fnF 17 1 [] (sSeq (sFor (iR1 (aC (xCall (o2 dMax) (aC (xC (.int 2)) (aC (xCall (o2 dMin) (aC (xC (.int 3)) (aC (xCall (o1 dLen) (aC (xV 0) aN)) aN))) aN))) aN)) (gSet 1) (sSeq (sSet 2 (xFn ff_law_seed [] [none, none] (aC (xV 0) (aC (xV 1) aN)))) (sFor (iR1 (aC (xC (.int 4)) aN)) (gSet 3) bTurn))) (sRet (xC (.bl true)))) := rfl
  rw [ee]
  refine ⟨[none], ?_⟩
  simp only [fnF, List.map_cons, List.map_nil, List.replicate, List.cons_append, List.nil_append, Nat.reduceSub, sSeq_ap, sFor_ap, it, Option.bind_some, e]
  simp
end Mh
namespace Mh
open PySem L2
def top (i : Nat) : Stmt := PySem.Challenge.pw_menuhome_k21_whole_digits_at_once.main.body.getD i (.Pass ⟨0, 0, 0, 0⟩)
def mtop (i j : Nat) : Stmt := (clsBody (top i)).getD j (.Pass ⟨0, 0, 0, 0⟩)
structure Fx (w : World) (K : PySem.W.Frag) (mg : Str → Option Value) (cl : Nat → Addr) : Prop where
  fu__law_choose : ∃ f fd, mg "_law_choose" = some (.ref f) ∧ Fun K "_law_choose" "_law_choose" (top 39) f fd
  fu__law_one_of : ∃ f fd, mg "_law_one_of" = some (.ref f) ∧ Fun K "_law_one_of" "_law_one_of" (top 40) f fd
  fu__law_deed : ∃ f fd, mg "_law_deed" = some (.ref f) ∧ Fun K "_law_deed" "_law_deed" (top 42) f fd
  fu__law_mixed : ∃ f fd, mg "_law_mixed" = some (.ref f) ∧ Fun K "_law_mixed" "_law_mixed" (top 41) f fd
  fu__law_menu : ∃ f fd, mg "_law_menu" = some (.ref f) ∧ Fun K "_law_menu" "_law_menu" (top 43) f fd
  fu__law_board : ∃ f fd, mg "_law_board" = some (.ref f) ∧ Fun K "_law_board" "_law_board" (top 44) f fd
  fu__law_menu_text : ∃ f fd, mg "_law_menu_text" = some (.ref f) ∧ Fun K "_law_menu_text" "_law_menu_text" (top 45) f fd
  fu__law_text : ∃ f fd, mg "_law_text" = some (.ref f) ∧ Fun K "_law_text" "_law_text" (top 46) f fd
  fu_is_name : ∃ f fd, mg "is_name" = some (.ref f) ∧ Fun K "is_name" "is_name" (top 16) f fd
  fu_action_in : ∃ f fd, mg "action_in" = some (.ref f) ∧ Fun K "action_in" "action_in" (top 21) f fd
  fu_is_digit : ∃ f fd, mg "is_digit" = some (.ref f) ∧ Fun K "is_digit" "is_digit" (top 17) f fd
  fu_number_in : ∃ f fd, mg "number_in" = some (.ref f) ∧ Fun K "number_in" "number_in" (top 20) f fd
  fu_head_in : ∃ f fd, mg "head_in" = some (.ref f) ∧ Fun K "head_in" "head_in" (top 30) f fd
  fu_told_in : ∃ f fd, mg "told_in" = some (.ref f) ∧ Fun K "told_in" "told_in" (top 31) f fd
  fu_are_unlike : ∃ f fd, mg "are_unlike" = some (.ref f) ∧ Fun K "are_unlike" "are_unlike" (top 19) f fd
  fu_deeds_of : ∃ f fd, mg "deeds_of" = some (.ref f) ∧ Fun K "deeds_of" "deeds_of" (top 34) f fd
  fu_is_sequence : ∃ f fd, mg "is_sequence" = some (.ref f) ∧ Fun K "is_sequence" "is_sequence" (top 18) f fd
  fu_named_in : ∃ f fd, mg "named_in" = some (.ref f) ∧ Fun K "named_in" "named_in" (top 35) f fd
  mk_1 : ∃ f fd, mg "Board" = some (.ref (cl 1)) ∧ Mk K (cl 1) f ∧ Fun K "__init__" "Board.__init__" (mtop 36 0) f fd
  fu_is_row : ∃ f fd, mg "is_row" = some (.ref f) ∧ Fun K "is_row" "is_row" (top 28) f fd
  fu_are_rows : ∃ f fd, mg "are_rows" = some (.ref f) ∧ Fun K "are_rows" "are_rows" (top 29) f fd
  fu_is_integer : ∃ f fd, mg "is_integer" = some (.ref f) ∧ Fun K "is_integer" "is_integer" (top 15) f fd
  mk_0 : ∃ f fd, mg "Menu" = some (.ref (cl 0)) ∧ Mk K (cl 0) f ∧ FunD K "__init__" "Menu.__init__" (defArgs (mtop 32 0)) (defBody (mtop 32 0)) (defScope (mtop 32 0)) [(.int 1), (.bl false)] [] f fd
  cm_1_read : ∃ f fd mc pa, mg "Board" = some (.ref (cl 1)) ∧ ClX.CRead K (cl 1) mc ∧ ClX.CMet K (cl 1) mc "read" pa f ∧ Fun K "read" "Board.read" (mtop 36 1) f fd
  fu__law_home : ∃ f fd, mg "_law_home" = some (.ref f) ∧ Fun K "_law_home" "_law_home" (top 55) f fd
  fu_is_event : ∃ f fd, mg "is_event" = some (.ref f) ∧ Fun K "is_event" "is_event" (top 23) f fd
  me_1_menu : ∃ f fd, Meth K (cl 1) "menu" f ∧ Fun K "menu" "Board.menu" (mtop 36 2) f fd
  me_3_finish : ∃ f fd, Meth K (cl 3) "finish" f ∧ Fun K "finish" "Call.finish" (mtop 24 2) f fd
  me_3_start : ∃ f fd, Meth K (cl 3) "start" f ∧ Fun K "start" "Call.start" (mtop 24 1) f fd
  mk_3 : ∃ f fd, mg "Call" = some (.ref (cl 3)) ∧ Mk K (cl 3) f ∧ Fun K "__init__" "Call.__init__" (mtop 24 0) f fd
  mk_4 : ∃ f fd, mg "Played" = some (.ref (cl 4)) ∧ Mk K (cl 4) f ∧ Fun K "__init__" "Played.__init__" (mtop 25 0) f fd
  me_3_happen : ∃ f fd, Meth K (cl 3) "happen" f ∧ Fun K "happen" "Call.happen" (mtop 24 3) f fd
  me_3_waste : ∃ f fd, Meth K (cl 3) "waste" f ∧ Fun K "waste" "Call.waste" (mtop 24 4) f fd
  me_3_press : ∃ f fd, Meth K (cl 3) "press" f ∧ Fun K "press" "Call.press" (mtop 24 5) f fd
  me_3_do : ∃ f fd, Meth K (cl 3) "do" f ∧ Fun K "do" "Call.do" (mtop 24 6) f fd
  fu_play : ∃ f fd, mg "play" = some (.ref f) ∧ Fun K "play" "play" (top 26) f fd
  fu__law_one_by_one : ∃ f fd, mg "_law_one_by_one" = some (.ref f) ∧ Fun K "_law_one_by_one" "_law_one_by_one" (top 56) f fd
  fu__law_seed : ∃ f fd, mg "_law_seed" = some (.ref f) ∧ Fun K "_law_seed" "_law_seed" (top 38) f fd
  fu__law_told : ∃ f fd, mg "_law_told" = some (.ref f) ∧ Fun K "_law_told" "_law_told" (top 54) f fd
  fu_law : ∃ f fd, mg "law" = some (.ref f) ∧ Fun K "law" "law" (top 57) f fd
  n_abs : mg "abs" = none
  n_all : mg "all" = none
  n_bool : mg "bool" = none
  n_enumerate : mg "enumerate" = none
  n_int : mg "int" = none
  n_isinstance : mg "isinstance" = none
  n_len : mg "len" = none
  n_list : mg "list" = none
  n_max : mg "max" = none
  n_min : mg "min" = none
  n_range : mg "range" = none
  n_set : mg "set" = none
  n_sorted : mg "sorted" = none
  n_str : mg "str" = none
  n_tuple : mg "tuple" = none
  g_ALONE : GD cl K mg "ALONE" (.tup [(.str "out"), (.str "again"), (.str "main"), (.str "back")])
  g_BARRED : GD cl K mg "BARRED" (.tup [(.str "line"), (.str "out"), (.str "main"), (.str "back"), (.str "go"), (.str "call"), (.str "menu"), (.str "else"), (.str "none")])
  g_LETTERS : GD cl K mg "LETTERS" (.str "abcdefghijklmnopqrstuvwxyz")
  kd : ∃ d es n, mg "MANY_NAMES" = some (.ref d) ∧ KTb K w d es n tb_MANY_NAMES
  g_MOST_LETTERS : GD cl K mg "MOST_LETTERS" (.int 4)
  g_SIGNS : GD cl K mg "SIGNS" (.str "0123456789")
  cl_1 : Cls K (cl 1)
  ic_1 : InC K (cl 1)
  gc_1 : mg "Board" = some (.ref (cl 1))
  cl_3 : Cls K (cl 3)
  ic_3 : InC K (cl 3)
  gc_3 : mg "Call" = some (.ref (cl 3))
  cl_0 : Cls K (cl 0)
  ic_0 : InC K (cl 0)
  gc_0 : mg "Menu" = some (.ref (cl 0))
  cl_4 : Cls K (cl 4)
  ic_4 : InC K (cl 4)
  gc_4 : mg "Played" = some (.ref (cl 4))
  na_0_clears : NoAttr K (cl 0) "clears"
  na_0_deeds : NoAttr K (cl 0) "deeds"
  na_0_last : NoAttr K (cl 0) "last"
  na_0_name : NoAttr K (cl 0) "name"
  na_0_rows : NoAttr K (cl 0) "rows"
  na_0_tail : NoAttr K (cl 0) "tail"
  na_0_tries : NoAttr K (cl 0) "tries"
  na_1_first : NoAttr K (cl 1) "first"
  na_1_lines : NoAttr K (cl 1) "lines"
  na_1_menus : NoAttr K (cl 1) "menus"
  na_1_names : NoAttr K (cl 1) "names"
  na_3_deep : NoAttr K (cl 3) "deep"
  na_3_many : NoAttr K (cl 3) "many"
  na_3_over : NoAttr K (cl 3) "over"
  na_3_pending : NoAttr K (cl 3) "pending"
  na_3_plan : NoAttr K (cl 3) "plan"
  na_3_rest : NoAttr K (cl 3) "rest"
  na_3_started_names : NoAttr K (cl 3) "started_names"
  na_4_end : NoAttr K (cl 4) "end"
  na_4_presses : NoAttr K (cl 4) "presses"
  na_4_stack : NoAttr K (cl 4) "stack"
  na_4_started : NoAttr K (cl 4) "started"
  na_4_tries : NoAttr K (cl 4) "tries"
section
variable {Pg : Program} {w : World} {K : PySem.W.Frag} {mg : Str → Option Value} {base : Heap} {cl : Nat → Addr}
theorem sc_law_choose : FnScope N_law_choose ["_law_box", "_law_many"] (defScope (top 39)) := ⟨rfl, rfl, rfl, by decide +kernel, rfl, by decide +kernel, by decide +kernel⟩
theorem c__law_choose (T : Fx w K mg cl)  : Cal Pg w K mg base cl "_law_choose" 1 2 ff_law_choose := by
  obtain ⟨f, fd, hm, F⟩ := T.fu__law_choose
  have nd := sc_law_choose.nd
  exact ⟨⟨f, fd, _, hm, F.kp, (fn_ok F sc_law_choose (by decide) fun cdv A outer s H E hr =>
    (xb_cons (xs_if (xt_cmp op_gt ops_B (xe_ixO 0 xe_int) xe_int) (xb_cons (xs_set 2 nd (xe_bin op_mod ops_Ic (xe_callTy (r := rInt2) call_int2 cas_int T.n_int (xa_cons (xe_ixO 0 xe_int) xa_nil)) (xe_var 1)))
    (xb_cons (xs_setIx 0 (xe_bin op_fdiv ops_Ic (xe_ixO 0 xe_int) (xe_var 1)) xe_int)
    (xb_one (xs_ret (xe_var 2))))) xb_nil)
    (xb_cons (xs_set 3 nd (xe_bin op_mod ops_Ic (xe_callTy (r := rInt2) call_int2 cas_int T.n_int (xa_cons (xe_addA (xe_bin op_mul ops_Ic (xe_ixO 0 xe_int) xe_int) xe_int) xa_nil)) xe_int))
    (xb_cons (xs_setIx 0 (xe_addA (xe_bin op_mod ops_Ic (xe_callTy (r := rInt2) call_int2 cas_int T.n_int (xa_cons (xe_addA (xe_bin op_mul ops_Ic (xe_var 3) xe_int) xe_int) xa_nil)) xe_int) xe_int) xe_int)
    (xb_one (xs_ret (xe_bin op_mod ops_Ic (xe_callTy (r := rInt2) call_int2 cas_int T.n_int (xa_cons (xe_bin op_fdiv ops_Ic (xe_addA (xe_bin op_mul ops_Ic (xe_var 3) xe_int) (xe_ixO 0 xe_int)) xe_int) xa_nil)) (xe_var 1)))))))), (F.binds fun _ _ _ _ _ _ us hl => match us, hl with | [_, _], _ => rfl)⟩⟩
theorem sc_law_one_of : FnScope N_law_one_of ["_law_box", "_law_some"] (defScope (top 40)) := ⟨rfl, rfl, rfl, by decide +kernel, rfl, by decide +kernel, by decide +kernel⟩
theorem c__law_one_of (T : Fx w K mg cl) (c__law_choose : Cal Pg w K mg base cl "_law_choose" 1 2 ff_law_choose) : Cal Pg w K mg base cl "_law_one_of" 2 2 ff_law_one_of := by
  obtain ⟨f, fd, hm, F⟩ := T.fu__law_one_of
  have nd := sc_law_one_of.nd
  exact ⟨⟨f, fd, _, hm, F.kp, (fn_ok F sc_law_one_of (by decide) fun cdv A outer s H E hr =>
    (xb_one (xs_ret (xe_ix (xe_var 1) (xe_cal (bs := [some 0, none]) c__law_choose (hr.mono (by decide)) (by rfl) (xab_lend 0 (xab_val (xe_len T.n_len (xe_var 1)) xab_nil))))))), (F.binds fun _ _ _ _ _ _ us hl => match us, hl with | [_, _], _ => rfl)⟩⟩
theorem sc_law_deed : FnScope N_law_deed ["_law_box", "_law_names"] (defScope (top 42)) := ⟨rfl, rfl, rfl, by decide +kernel, rfl, by decide +kernel, by decide +kernel⟩
theorem c__law_deed (T : Fx w K mg cl) (c__law_choose : Cal Pg w K mg base cl "_law_choose" 1 2 ff_law_choose) (c__law_one_of : Cal Pg w K mg base cl "_law_one_of" 2 2 ff_law_one_of) : Cal Pg w K mg base cl "_law_deed" 3 2 ff_law_deed := by
  obtain ⟨f, fd, hm, F⟩ := T.fu__law_deed
  have nd := sc_law_deed.nd
  exact ⟨⟨f, fd, _, hm, F.kp, (fn_ok F sc_law_deed (by decide) fun cdv A outer s H E hr =>
    (xb_cons (xs_set 2 nd (xe_cal (bs := [some 0, none]) c__law_choose (hr.mono (by decide)) (by rfl) (xab_lend 0 (xab_val xe_int xab_nil))))
    (xb_cons (xs_if (xt_cmp op_lt ops_B (xe_var 2) xe_int) (xb_one (xs_ret (xe_tup (xa_cons xe_str (xa_cons (xe_cal (bs := [some 0, none]) c__law_one_of (hr.mono (by decide)) (by rfl) (xab_lend 0 (xab_val (xe_lst (xa_cons xe_str (xa_cons xe_str (xa_cons xe_str (xa_cons xe_str xa_nil))))) xab_nil))) xa_nil))))) xb_nil)
    (xb_cons (xs_if (xt_cmp op_lt ops_B (xe_var 2) xe_int) (xb_one (xs_ret (xe_tup (xa_cons xe_str (xa_cons (xe_cal (bs := [some 0, none]) c__law_one_of (hr.mono (by decide)) (by rfl) (xab_lend 0 (xab_val (xe_var 1) xab_nil))) xa_nil))))) xb_nil)
    (xb_cons (xs_if (xt_cmp op_lt ops_B (xe_var 2) xe_int) (xb_one (xs_ret (xe_tup (xa_cons xe_str (xa_cons (xe_cal (bs := [some 0, none]) c__law_one_of (hr.mono (by decide)) (by rfl) (xab_lend 0 (xab_val (xe_var 1) xab_nil))) (xa_cons (xe_cal (bs := [some 0, none]) c__law_one_of (hr.mono (by decide)) (by rfl) (xab_lend 0 (xab_val (xe_var 1) xab_nil))) xa_nil)))))) xb_nil)
    (xb_one (xs_ret (xe_ix (xe_lst (xa_cons (xe_tup (xa_cons xe_str xa_nil)) (xa_cons (xe_tup (xa_cons xe_str xa_nil)) (xa_cons (xe_tup (xa_cons xe_str xa_nil)) (xa_cons (xe_tup (xa_cons xe_str xa_nil)) xa_nil))))) (xe_bin op_sub ops_I (xe_var 2) xe_int))))))))), (F.binds fun _ _ _ _ _ _ us hl => match us, hl with | [_, _], _ => rfl)⟩⟩
theorem sc_law_mixed : FnScope N_law_mixed ["_law_box", "_law_some"] (defScope (top 41)) := ⟨rfl, rfl, rfl, by decide +kernel, rfl, by decide +kernel, by decide +kernel⟩
theorem c__law_mixed (T : Fx w K mg cl) (c__law_choose : Cal Pg w K mg base cl "_law_choose" 1 2 ff_law_choose) : Cal Pg w K mg base cl "_law_mixed" 2 2 ff_law_mixed := by
  obtain ⟨f, fd, hm, F⟩ := T.fu__law_mixed
  have nd := sc_law_mixed.nd
  exact ⟨⟨f, fd, _, hm, F.kp, (fn_ok F sc_law_mixed (by decide) fun cdv A outer s H E hr =>
    (xb_cons (xs_par 2 3 (by rfl) nd (xe_listA (by rfl) T.n_list (xe_var 1)) (xe_lst xa_nil))
    (xb_cons (xs_for PassesOwn.never (by rfl) (xi_range1 T.n_range (xe_len T.n_len (xe_var 1))) (xg_name 4 nd) (xb_one (xs_expr (xe_app 3 (xe_popAt 2 (xe_cal (bs := [some 0, none]) c__law_choose (hr.mono (by decide)) (by rfl) (xab_lend 0 (xab_val (xe_lenO 2 T.n_len) xab_nil))))))))
    (xb_one (xs_ret (xe_var 3)))))), (F.binds fun _ _ _ _ _ _ us hl => match us, hl with | [_, _], _ => rfl)⟩⟩
theorem sc_law_menu : FnScope N_law_menu ["_law_box", "_law_name", "_law_names", "_law_most"] (defScope (top 43)) := ⟨rfl, rfl, rfl, by decide +kernel, rfl, by decide +kernel, by decide +kernel⟩
theorem c__law_menu (T : Fx w K mg cl) (c__law_choose : Cal Pg w K mg base cl "_law_choose" 1 2 ff_law_choose) (c__law_deed : Cal Pg w K mg base cl "_law_deed" 3 2 ff_law_deed) (c__law_mixed : Cal Pg w K mg base cl "_law_mixed" 2 2 ff_law_mixed) : Cal Pg w K mg base cl "_law_menu" 4 4 ff_law_menu := by
  obtain ⟨f, fd, hm, F⟩ := T.fu__law_menu
  have nd := sc_law_menu.nd
  exact ⟨⟨f, fd, _, hm, F.kp, (fn_ok F sc_law_menu (by decide) fun cdv A outer s H E hr =>
    (xb_cons (xs_set 4 nd xe_dnew)
    (xb_cons (xs_for PassesOwn.never (by rfl) (xi_list (xe_sl (xe_cal (bs := [some 0, none]) c__law_mixed (hr.mono (by decide)) (by rfl) (xab_lend 0 (xab_val xe_str xab_nil))) xo_none (xo_some (xe_cal (bs := [some 0, none]) c__law_choose (hr.mono (by decide)) (by rfl) (xab_lend 0 (xab_val (xe_addA (xe_var 3) xe_int) xab_nil)))))) (xg_name 5 nd) (xb_one (xs_dput 4 (hu_of hr) (xe_cal (bs := [some 0, none]) c__law_deed (hr.mono (by decide)) (by rfl) (xab_lend 0 (xab_val (xe_var 2) xab_nil))) (xe_var 5))))
    (xb_cons (xs_set 6 nd (xe_if (xt_cmp (op_eqA hr.units) ops_eq (xe_cal (bs := [some 0, none]) c__law_choose (hr.mono (by decide)) (by rfl) (xab_lend 0 (xab_val xe_int xab_nil))) xe_int) (xe_tup (xa_cons xe_str xa_nil)) (xe_cal (bs := [some 0, none]) c__law_deed (hr.mono (by decide)) (by rfl) (xab_lend 0 (xab_val (xe_var 2) xab_nil)))))
    (xb_one (xs_ret (xe_lst (xa_cons (xe_var 1) (xa_cons (xe_var 4) (xa_cons (xe_var 6) (xa_cons (xe_addA xe_int (xe_cal (bs := [some 0, none]) c__law_choose (hr.mono (by decide)) (by rfl) (xab_lend 0 (xab_val xe_int xab_nil)))) (xa_cons (xe_cmp (op_eqA hr.units) ops_eq (xe_cal (bs := [some 0, none]) c__law_choose (hr.mono (by decide)) (by rfl) (xab_lend 0 (xab_val xe_int xab_nil))) xe_int) xa_nil)))))))))))), (F.binds fun _ _ _ _ _ _ us hl => match us, hl with | [_, _, _, _], _ => rfl)⟩⟩
theorem sc_law_board : FnScope N_law_board ["_law_box", "_law_many", "_law_most"] (defScope (top 44)) := ⟨rfl, rfl, rfl, by decide +kernel, rfl, by decide +kernel, by decide +kernel⟩
theorem c__law_board (T : Fx w K mg cl) (c__law_choose : Cal Pg w K mg base cl "_law_choose" 1 2 ff_law_choose) (c__law_menu : Cal Pg w K mg base cl "_law_menu" 4 4 ff_law_menu) (c__law_mixed : Cal Pg w K mg base cl "_law_mixed" 2 2 ff_law_mixed) : Cal Pg w K mg base cl "_law_board" 5 3 ff_law_board := by
  obtain ⟨f, fd, hm, F⟩ := T.fu__law_board
  have nd := sc_law_board.nd
  exact ⟨⟨f, fd, _, hm, F.kp, (fn_ok F sc_law_board (by decide) fun cdv A outer s H E hr =>
    (xb_cons (xs_set 3 nd (xe_lst (xa_cons xe_str (xa_cons xe_str (xa_cons xe_str (xa_cons xe_str (xa_cons xe_str (xa_cons xe_str (xa_cons xe_str (xa_cons xe_str xa_nil))))))))))
    (xb_cons (xs_set 4 nd (xe_sl (xe_cal (bs := [some 0, none]) c__law_mixed (hr.mono (by decide)) (by rfl) (xab_lend 0 (xab_val (xe_var 3) xab_nil))) xo_none (xo_some (xe_addA xe_int (xe_cal (bs := [some 0, none]) c__law_choose (hr.mono (by decide)) (by rfl) (xab_lend 0 (xab_val (xe_var 1) xab_nil)))))))
    (xb_one (xs_ret (xe_lcV [("_law_name", 5)] (by rfl) nd (xi_list (xe_var 4)) (blkOk_by (N := N_law_board) (sc := (defScope (top 44))) (by decide +kernel)) (fun _ _ _ _ _ => (xg_name 5 nd)) (fun _ _ _ _ _ => xts_nil) (fun _ _ _ _ _ => (xe_cal (bs := [some 0, none, none, none]) c__law_menu (hr.mono (by decide)) (by rfl) (xab_lend 0 (xab_val (xe_var 5) (xab_val (xe_var 4) (xab_val (xe_var 2) xab_nil)))))))))))), (F.binds fun _ _ _ _ _ _ us hl => match us, hl with | [_, _, _], _ => rfl)⟩⟩
theorem sc_law_menu_text : FnScope N_law_menu_text ["_law_one"] (defScope (top 45)) := ⟨rfl, rfl, rfl, by decide +kernel, rfl, by decide +kernel, by decide +kernel⟩
theorem c__law_menu_text (T : Fx w K mg cl)  : Cal Pg w K mg base cl "_law_menu_text" 1 1 ff_law_menu_text := by
  obtain ⟨f, fd, hm, F⟩ := T.fu__law_menu_text
  have nd := sc_law_menu_text.nd
  exact ⟨⟨f, fd, _, hm, F.kp, (fn_ok F sc_law_menu_text (by decide) fun cdv A outer s H E hr =>
    (xb_cons (xs_set 1 nd (xe_join xe_str (xe_addA (xe_lst (xa_cons xe_str (xa_cons (xe_ix (xe_var 0) xe_int) (xa_cons xe_str (xa_cons (xe_callTy (r := rStrA) call_strA cas_strA T.n_str (xa_cons (xe_ix (xe_var 0) xe_int) xa_nil)) xa_nil))))) (xe_if (xt_val (xe_ix (xe_var 0) xe_int)) (xe_lst (xa_cons xe_str xa_nil)) (xe_lst xa_nil)))))
    (xb_cons (xs_setLcV 2 [("_law_digit", 3)] (by rfl) nd (xi_list (xe_callB (r := (rSortD _)) (call_sortedD hr.units) cas_sorted T.n_sorted (xa_cons (xe_lcV [("_law_digit", 3)] (by rfl) nd (xi_keys (xe_ix (xe_var 0) xe_int)) (blkOk_by (N := N_law_menu_text) (sc := (defScope (top 45))) (by decide +kernel)) (fun _ _ _ _ _ => (xg_name 3 nd)) (fun _ _ _ _ _ => xts_nil) (fun _ _ _ _ _ => (xe_callTy (r := rStrA) call_strA cas_strA T.n_str (xa_cons (xe_var 3) xa_nil)))) xa_nil))) (blkOk_by (N := N_law_menu_text) (sc := (defScope (top 45))) (by decide +kernel)) (fun _ _ _ _ _ => (xg_name 3 nd)) (fun _ _ _ _ _ => xts_nil) (fun _ _ _ _ _ => (xe_addA (xe_addA (xe_var 3) xe_str) (xe_join xe_str (xe_dget (hu_of hr) (xe_ix (xe_var 0) xe_int) (xe_var 3))))))
    (xb_one (xs_ret (xe_join xe_str (xe_addA (xe_addA (xe_lst (xa_cons (xe_var 1) xa_nil)) (xe_var 2)) (xe_lst (xa_cons (xe_addA xe_str (xe_join xe_str (xe_ix (xe_var 0) xe_int))) xa_nil))))))))), (F.binds fun _ _ _ _ _ _ us hl => match us, hl with | [_], _ => rfl)⟩⟩
theorem sc_law_text : FnScope N_law_text ["_law_told_here"] (defScope (top 46)) := ⟨rfl, rfl, rfl, by decide +kernel, rfl, by decide +kernel, by decide +kernel⟩
theorem c__law_text (T : Fx w K mg cl) (c__law_menu_text : Cal Pg w K mg base cl "_law_menu_text" 1 1 ff_law_menu_text) : Cal Pg w K mg base cl "_law_text" 2 1 ff_law_text := by
  obtain ⟨f, fd, hm, F⟩ := T.fu__law_text
  have nd := sc_law_text.nd
  exact ⟨⟨f, fd, _, hm, F.kp, (fn_ok F sc_law_text (by decide) fun cdv A outer s H E hr =>
    (xb_one (xs_ret (xe_join xe_str (xe_lcV [("_law_one", 1)] (by rfl) nd (xi_list (xe_var 0)) (blkOk_by (N := N_law_text) (sc := (defScope (top 46))) (by decide +kernel)) (fun _ _ _ _ _ => (xg_name 1 nd)) (fun _ _ _ _ _ => xts_nil) (fun _ _ _ _ _ => (xe_cal (bs := [none]) c__law_menu_text (hr.mono (by decide)) (by rfl) (xab_val (xe_var 1) xab_nil)))))))), (F.binds fun _ _ _ _ _ _ us hl => match us, hl with | [_], _ => rfl)⟩⟩
theorem sc_is_name : FnScope N_is_name ["value"] (defScope (top 16)) := ⟨rfl, rfl, rfl, by decide +kernel, rfl, by decide +kernel, by decide +kernel⟩
theorem c_is_name (T : Fx w K mg cl)  : Cal Pg w K mg base cl "is_name" 1 1 ff_is_name := by
  obtain ⟨f, fd, hm, F⟩ := T.fu_is_name
  have nd := sc_is_name.nd
  exact ⟨⟨f, fd, _, hm, F.kp, (fn_ok F sc_is_name (by decide) fun cdv A outer s H E hr =>
    (xb_cons (xs_if (XW.xt (xw_or (xt_not (xt_val (xe_isi T.n_isinstance T.n_str (xe_var 0)))) (xw_or (xt_cmp (op_in_str.or op_in_seq) ops_inA (xe_var 0) (xe_gd T.g_BARRED)) (xw_or1 (xt_not (xt_chain op_le op_le ops_B ops_B xe_int (xe_len T.n_len (xe_var 0)) (xe_gd T.g_MOST_LETTERS))))))) (xb_one (xs_ret xe_bl)) xb_nil)
    (xb_one (xs_ret (xe_callB (r := (rAll _)) (cr_all (by rfl)) cas_all T.n_all (xa_cons (xe_lcV [("sign", 1)] (by rfl) nd (xi_str (xe_var 0)) (blkOk_by (N := N_is_name) (sc := (defScope (top 16))) (by decide +kernel)) (fun _ _ _ _ _ => (xg_name 1 nd)) (fun _ _ _ _ _ => xts_nil) (fun _ _ _ _ _ => (xe_cmp (op_in_str.or op_in_seq) ops_inA (xe_var 1) (xe_gd T.g_LETTERS)))) xa_nil)))))), (F.binds fun _ _ _ _ _ _ us hl => match us, hl with | [_], _ => rfl)⟩⟩
theorem sc_action_in : FnScope N_action_in ["text"] (defScope (top 21)) := ⟨rfl, rfl, rfl, by decide +kernel, rfl, by decide +kernel, by decide +kernel⟩
theorem c_action_in (T : Fx w K mg cl) (c_is_name : Cal Pg w K mg base cl "is_name" 1 1 ff_is_name) : Cal Pg w K mg base cl "action_in" 2 1 ff_action_in := by
  obtain ⟨kd, kes, kn, G_MANY_NAMES, K_MANY_NAMES⟩ := T.kd
  obtain ⟨f, fd, hm, F⟩ := T.fu_action_in
  have nd := sc_action_in.nd
  exact ⟨⟨f, fd, _, hm, F.kp, (fn_ok F sc_action_in (by decide) fun cdv A outer s H E hr =>
    (xb_cons (xs_if (xt_not (xt_val (xe_isi T.n_isinstance T.n_str (xe_var 0)))) (xb_one (xs_ret xe_non)) xb_nil)
    (xb_cons (xs_set 1 nd (xe_split (xe_var 0) xe_str))
    (xb_cons (xs_if (xt_cmp (op_in_str.or op_in_seq) ops_inA (xe_var 0) (xe_gd T.g_ALONE)) (xb_one (xs_ret (xe_tup (xa_cons (xe_var 0) xa_nil)))) xb_nil)
    (xb_cons (xs_if (XW.xt (xw_or (xt_knin K_MANY_NAMES G_MANY_NAMES (xe_ix (xe_var 1) xe_int)) (xw_or1 (xt_cmp (op_neA hr.units) ops_ne (xe_len T.n_len (xe_var 1)) (xe_addA xe_int (xe_kix K_MANY_NAMES G_MANY_NAMES (xe_ix (xe_var 1) xe_int))))))) (xb_one (xs_ret xe_non)) xb_nil)
    (xb_one (xs_ret (xe_if (xt_val (xe_callB (r := (rAll _)) (cr_all (by rfl)) cas_all T.n_all (xa_cons (xe_lcV [("word", 2)] (by rfl) nd (xi_list (xe_sl (xe_var 1) (xo_some xe_int) xo_none)) (blkOk_by (N := N_action_in) (sc := (defScope (top 21))) (by decide +kernel)) (fun _ _ _ _ _ => (xg_name 2 nd)) (fun _ _ _ _ _ => xts_nil) (fun _ _ _ _ _ => (xe_cal (bs := [none]) c_is_name (hr.mono (by decide)) (by rfl) (xab_val (xe_var 2) xab_nil)))) xa_nil))) (xe_callTy (r := (rTuple2 _)) call_tuple_of cas_tuple T.n_tuple (xa_cons (xe_var 1) xa_nil)) xe_non)))))))), (F.binds fun _ _ _ _ _ _ us hl => match us, hl with | [_], _ => rfl)⟩⟩
theorem sc_is_digit : FnScope N_is_digit ["value"] (defScope (top 17)) := ⟨rfl, rfl, rfl, by decide +kernel, rfl, by decide +kernel, by decide +kernel⟩
theorem c_is_digit (T : Fx w K mg cl)  : Cal Pg w K mg base cl "is_digit" 1 1 ff_is_digit := by
  obtain ⟨f, fd, hm, F⟩ := T.fu_is_digit
  have nd := sc_is_digit.nd
  exact ⟨⟨f, fd, _, hm, F.kp, (fn_ok F sc_is_digit (by decide) fun cdv A outer s H E hr =>
    (xb_one (xs_ret (xe_and (xe_isi T.n_isinstance T.n_str (xe_var 0)) (xe_and (xe_cmp (op_eqA hr.units) ops_eq (xe_len T.n_len (xe_var 0)) xe_int) (xe_one (xe_cmp (op_in_str.or op_in_seq) ops_inA (xe_var 0) (xe_gd T.g_SIGNS)))))))), (F.binds fun _ _ _ _ _ _ us hl => match us, hl with | [_], _ => rfl)⟩⟩
theorem sc_number_in : FnScope N_number_in ["word"] (defScope (top 20)) := ⟨rfl, rfl, rfl, by decide +kernel, rfl, by decide +kernel, by decide +kernel⟩
theorem c_number_in (T : Fx w K mg cl) (c_is_digit : Cal Pg w K mg base cl "is_digit" 1 1 ff_is_digit) : Cal Pg w K mg base cl "number_in" 2 1 ff_number_in := by
  obtain ⟨f, fd, hm, F⟩ := T.fu_number_in
  have nd := sc_number_in.nd
  exact ⟨⟨f, fd, _, hm, F.kp, (fn_ok F sc_number_in (by decide) fun cdv A outer s H E hr =>
    (xb_cons (xs_if (XW.xt (xw_or (xt_not (xt_chain op_le op_le ops_B ops_B xe_int (xe_len T.n_len (xe_var 0)) xe_int)) (xw_or1 (xt_not (xt_val (xe_callB (r := (rAll _)) (cr_all (by rfl)) cas_all T.n_all (xa_cons (xe_lcV [("sign", 1)] (by rfl) nd (xi_str (xe_var 0)) (blkOk_by (N := N_number_in) (sc := (defScope (top 20))) (by decide +kernel)) (fun _ _ _ _ _ => (xg_name 1 nd)) (fun _ _ _ _ _ => xts_nil) (fun _ _ _ _ _ => (xe_cal (bs := [none]) c_is_digit (hr.mono (by decide)) (by rfl) (xab_val (xe_var 1) xab_nil)))) xa_nil))))))) (xb_one (xs_ret xe_non)) xb_nil)
    (xb_cons (xs_if (XW.xt (xw_and (xt_cmp (op_eqA hr.units) ops_eq (xe_len T.n_len (xe_var 0)) xe_int) (xw_and1 (xt_cmp (op_eqA hr.units) ops_eq (xe_ix (xe_var 0) xe_int) xe_str)))) (xb_one (xs_ret xe_non)) xb_nil)
    (xb_one (xs_ret (xe_callTy (r := rInt2) call_int2 cas_int T.n_int (xa_cons (xe_var 0) xa_nil))))))), (F.binds fun _ _ _ _ _ _ us hl => match us, hl with | [_], _ => rfl)⟩⟩
theorem sc_head_in : FnScope N_head_in ["line"] (defScope (top 30)) := ⟨rfl, rfl, rfl, by decide +kernel, rfl, by decide +kernel, by decide +kernel⟩
theorem c_head_in (T : Fx w K mg cl) (c_is_name : Cal Pg w K mg base cl "is_name" 1 1 ff_is_name) (c_number_in : Cal Pg w K mg base cl "number_in" 2 1 ff_number_in) : Cal Pg w K mg base cl "head_in" 3 1 ff_head_in := by
  obtain ⟨f, fd, hm, F⟩ := T.fu_head_in
  have nd := sc_head_in.nd
  exact ⟨⟨f, fd, _, hm, F.kp, (fn_ok F sc_head_in (by decide) fun cdv A outer s H E hr =>
    (xb_cons (xs_set 1 nd (xe_split (xe_var 0) xe_str))
    (xb_cons (xs_set 2 nd (xe_and (xe_cmp (op_eqA hr.units) ops_eq (xe_len T.n_len (xe_var 1)) xe_int) (xe_one (xe_cmp (op_eqA hr.units) ops_eq (xe_ix (xe_var 1) xe_int) xe_str))))
    (xb_cons (xs_if (XW.xt (xw_or (XW.xt (xw_and (xt_cmp (op_neA hr.units) ops_ne (xe_len T.n_len (xe_var 1)) xe_int) (xw_and1 (xt_not (xt_val (xe_var 2)))))) (xw_or (xt_cmp (op_neA hr.units) ops_ne (xe_ix (xe_var 1) xe_int) xe_str) (xw_or1 (xt_cmp (op_neA hr.units) ops_ne (xe_ix (xe_var 1) xe_int) xe_str))))) (xb_one (xs_ret xe_non)) xb_nil)
    (xb_cons (xs_set 3 nd (xe_cal (bs := [none]) c_number_in (hr.mono (by decide)) (by rfl) (xab_val (xe_ix (xe_var 1) xe_int) xab_nil)))
    (xb_one (xs_ret (xe_if (XW.xt (xw_and (xt_val (xe_cal (bs := [none]) c_is_name (hr.mono (by decide)) (by rfl) (xab_val (xe_ix (xe_var 1) xe_int) xab_nil))) (xw_and1 (xt_cmp op_notN ops_notN (xe_var 3) xe_non)))) (xe_tup (xa_cons (xe_ix (xe_var 1) xe_int) (xa_cons (xe_var 3) (xa_cons (xe_var 2) xa_nil)))) xe_non)))))))), (F.binds fun _ _ _ _ _ _ us hl => match us, hl with | [_], _ => rfl)⟩⟩
theorem sc_told_in : FnScope N_told_in ["lines", "begin"] (defScope (top 31)) := ⟨rfl, rfl, rfl, by decide +kernel, rfl, by decide +kernel, by decide +kernel⟩
theorem c_told_in (T : Fx w K mg cl) (c_action_in : Cal Pg w K mg base cl "action_in" 2 1 ff_action_in) (c_head_in : Cal Pg w K mg base cl "head_in" 3 1 ff_head_in) (c_is_digit : Cal Pg w K mg base cl "is_digit" 1 1 ff_is_digit) : Cal Pg w K mg base cl "told_in" 4 2 ff_told_in := by
  obtain ⟨f, fd, hm, F⟩ := T.fu_told_in
  have nd := sc_told_in.nd
  exact ⟨⟨f, fd, _, hm, F.kp, (fn_ok F sc_told_in (by decide) fun cdv A outer s H E hr =>
    (xb_cons (xs_if (xt_cmp op_ge ops_B (xe_var 1) (xe_len T.n_len (xe_var 0))) xb_never xb_nil)
    (xb_cons (xs_par 2 3 (by rfl) nd (xe_cal (bs := [none]) c_head_in (hr.mono (by decide)) (by rfl) (xab_val (xe_ix (xe_var 0) (xe_var 1)) xab_nil)) (xe_lst xa_nil))
    (xb_cons (xs_if (xt_cmp op_isN ops_isN (xe_var 2) xe_non) xb_never xb_nil)
    (xb_cons (xs_for PassesOwn.never (by rfl) (xi_range2 T.n_range (xe_addA (xe_var 1) xe_int) (xe_len T.n_len (xe_var 0))) (xg_name 4 nd) (xb_cons (xs_asg (xe_partition (xe_ix (xe_var 0) (xe_var 4)) xe_str) (xg_tup (n := 3) (by rfl) (xgs_cons (xg_name 5 nd) (xgs_cons (xg_name 6 nd) (xgs_cons (xg_name 7 nd) xgs_nil)))))
    (xb_cons (xs_if (XW.xt (xw_or (xt_cmp op_isN ops_isN (xe_cal (bs := [none]) c_action_in (hr.mono (by decide)) (by rfl) (xab_val (xe_var 7) xab_nil)) xe_non) (xw_or1 (XW.xt (xw_and (xt_cmp (op_neA hr.units) ops_ne (xe_var 5) xe_str) (xw_and1 (xt_not (xt_val (xe_cal (bs := [none]) c_is_digit (hr.mono (by decide)) (by rfl) (xab_val (xe_var 5) xab_nil)))))))))) xb_never xb_nil)
    (xb_cons (xs_if (xt_cmp (op_eqA hr.units) ops_eq (xe_var 5) xe_str) (xb_one (xs_ret (xe_tup (xa_cons (xe_tup (xa_cons (xe_ix (xe_var 2) xe_int) (xa_cons (xe_var 3) (xa_cons (xe_var 7) (xa_cons (xe_ix (xe_var 2) xe_int) (xa_cons (xe_ix (xe_var 2) xe_int) xa_nil)))))) (xa_cons (xe_addA (xe_var 4) xe_int) xa_nil))))) xb_nil)
    (xb_cons (xs_if (xt_cmp (op_in_str.or op_in_seq) ops_inA (xe_var 5) (xe_lcOV 3 [("row", 8)] (by rfl) nd (blkOk_by (N := N_told_in) (sc := (defScope (top 31))) (by decide +kernel)) (fun _ _ _ _ _ => (xg_name 8 nd)) (fun _ _ _ _ _ => xts_nil) (fun _ _ _ _ _ => (xe_ix (xe_var 8) xe_int)))) xb_never xb_nil)
    (xb_one (xs_expr (xe_app 3 (xe_tup (xa_cons (xe_var 5) (xa_cons (xe_var 7) xa_nil)))))))))))
    xb_never))))), (F.binds fun _ _ _ _ _ _ us hl => match us, hl with | [_, _], _ => rfl)⟩⟩
theorem sc_are_unlike : FnScope N_are_unlike ["values"] (defScope (top 19)) := ⟨rfl, rfl, rfl, by decide +kernel, rfl, by decide +kernel, by decide +kernel⟩
theorem c_are_unlike (T : Fx w K mg cl)  : Cal Pg w K mg base cl "are_unlike" 1 1 ff_are_unlike := by
  obtain ⟨f, fd, hm, F⟩ := T.fu_are_unlike
  have nd := sc_are_unlike.nd
  exact ⟨⟨f, fd, _, hm, F.kp, (fn_ok F sc_are_unlike (by decide) fun cdv A outer s H E hr =>
    (xb_one (xs_ret (xe_cmp (op_eqA hr.units) ops_eq (xe_lenSet (by rfl) T.n_len T.n_set (xe_var 0)) (xe_len T.n_len (xe_var 0)))))), (F.binds fun _ _ _ _ _ _ us hl => match us, hl with | [_], _ => rfl)⟩⟩
theorem sc_deeds_of : FnScope N_deeds_of ["menu"] (defScope (top 34)) := ⟨rfl, rfl, rfl, by decide +kernel, rfl, by decide +kernel, by decide +kernel⟩
theorem c_deeds_of (T : Fx w K mg cl)  : Cal Pg w K mg base cl "deeds_of" 1 1 ff_deeds_of := by
  obtain ⟨f, fd, hm, F⟩ := T.fu_deeds_of
  have nd := sc_deeds_of.nd
  exact ⟨⟨f, fd, _, hm, F.kp, (fn_ok F sc_deeds_of (by decide) fun cdv A outer s H E hr =>
    (xb_one (xs_ret (xe_lst (xa_star (xe_lcV [("digit", 1), ("deed", 2)] (by rfl) nd (xi_tup (xe_fld T.cl_0 T.na_0_deeds (xe_var 0))) (blkOk_by (N := N_deeds_of) (sc := (defScope (top 34))) (by decide +kernel)) (fun _ _ _ _ _ => (xg_tup (n := 2) (by rfl) (xgs_cons (xg_name 1 nd) (xgs_cons (xg_name 2 nd) xgs_nil)))) (fun _ _ _ _ _ => xts_nil) (fun _ _ _ _ _ => (xe_var 2))) (xa_cons (xe_fld T.cl_0 T.na_0_last (xe_var 0)) xa_nil)))))), (F.binds fun _ _ _ _ _ _ us hl => match us, hl with | [_], _ => rfl)⟩⟩
theorem sc_is_sequence : FnScope N_is_sequence ["value"] (defScope (top 18)) := ⟨rfl, rfl, rfl, by decide +kernel, rfl, by decide +kernel, by decide +kernel⟩
theorem c_is_sequence (T : Fx w K mg cl)  : Cal Pg w K mg base cl "is_sequence" 1 1 ff_is_sequence := by
  obtain ⟨f, fd, hm, F⟩ := T.fu_is_sequence
  have nd := sc_is_sequence.nd
  exact ⟨⟨f, fd, _, hm, F.kp, (fn_ok F sc_is_sequence (by decide) fun cdv A outer s H E hr =>
    (xb_one (xs_ret (xe_is2P 0 T.n_isinstance T.n_list T.n_tuple)))), (F.binds fun _ _ _ _ _ _ us hl => match us, hl with | [_], _ => rfl)⟩⟩
theorem sc_named_in : FnScope N_named_in ["menu"] (defScope (top 35)) := ⟨rfl, rfl, rfl, by decide +kernel, rfl, by decide +kernel, by decide +kernel⟩
theorem c_named_in (T : Fx w K mg cl) (c_deeds_of : Cal Pg w K mg base cl "deeds_of" 1 1 ff_deeds_of) : Cal Pg w K mg base cl "named_in" 2 1 ff_named_in := by
  obtain ⟨f, fd, hm, F⟩ := T.fu_named_in
  have nd := sc_named_in.nd
  exact ⟨⟨f, fd, _, hm, F.kp, (fn_ok F sc_named_in (by decide) fun cdv A outer s H E hr =>
    (xb_one (xs_ret (xe_lc2V [("deed", 1), ("name", 2)] (vs1 := [2]) (by rfl) nd (xi_list (xe_cal (bs := [none]) c_deeds_of (hr.mono (by decide)) (by rfl) (xab_val (xe_var 0) xab_nil))) (blkOk_by (N := N_named_in) (sc := (defScope (top 35))) (by decide +kernel)) (fun _ _ _ _ _ => (xg_name 1 nd)) (fun _ _ _ _ _ => (xts_one (xt_cmp (op_in_str.or op_in_seq) ops_inA (xe_ix (xe_var 1) xe_int) (xe_tup (xa_cons xe_str (xa_cons xe_str xa_nil)))))) (fun _ _ _ _ _ => (xi_tup (xe_sl (xe_var 1) (xo_some xe_int) xo_none))) (fun _ _ _ _ _ => (xg_name 2 nd)) (fun _ _ _ _ _ => xts_nil) (fun _ _ _ _ _ => (xe_var 2)))))), (F.binds fun _ _ _ _ _ _ us hl => match us, hl with | [_], _ => rfl)⟩⟩
theorem sc_Board_init : FnScope N_Board_init ["self", "menus"] (defScope (mtop 36 0)) := ⟨rfl, rfl, rfl, by decide +kernel, rfl, by decide +kernel, by decide +kernel⟩
theorem k_Board (T : Fx w K mg cl) (c_are_unlike : Cal Pg w K mg base cl "are_unlike" 1 1 ff_are_unlike) (c_deeds_of : Cal Pg w K mg base cl "deeds_of" 1 1 ff_deeds_of) (c_is_sequence : Cal Pg w K mg base cl "is_sequence" 1 1 ff_is_sequence) (c_named_in : Cal Pg w K mg base cl "named_in" 2 1 ff_named_in) : CalC Pg w K mg base cl 1 "Board" 3 2 ff_Board_init := by
  obtain ⟨f, fd, hm, M, F⟩ := T.mk_1
  have nd := sc_Board_init.nd
  exact ⟨⟨f, fd, _, hm, M, (fn_ok F sc_Board_init (by decide) fun cdv A outer s H E hr =>
    (xb_cons (xs_if (XW.xt (xw_or (xt_not (xt_val (xe_cal (bs := [none]) c_is_sequence (hr.mono (by decide)) (by rfl) (xab_val (xe_var 1) xab_nil)))) (xw_or (xt_cmp (op_eqA hr.units) ops_eq (xe_len T.n_len (xe_var 1)) xe_int) (xw_or1 (xt_not (xt_val (xe_callB (r := (rAll _)) (cr_all (by rfl)) cas_all T.n_all (xa_cons (xe_lcV [("menu", 3)] (by rfl) nd (xi_seq (xe_var 1)) (blkOk_by (N := N_Board_init) (sc := (defScope (mtop 36 0))) (by decide +kernel)) (fun _ _ _ _ _ => (xg_name 3 nd)) (fun _ _ _ _ _ => xts_nil) (fun _ _ _ _ _ => (xe_isO T.ic_0 T.n_isinstance T.gc_0 (xe_var 3)))) xa_nil)))))))) xb_never xb_nil)
    (xb_cons (xs_set 2 nd (xe_lcV [("menu", 3)] (by rfl) nd (xi_seq (xe_var 1)) (blkOk_by (N := N_Board_init) (sc := (defScope (mtop 36 0))) (by decide +kernel)) (fun _ _ _ _ _ => (xg_name 3 nd)) (fun _ _ _ _ _ => xts_nil) (fun _ _ _ _ _ => (xe_fld T.cl_0 T.na_0_name (xe_var 3)))))
    (xb_cons (xs_if (xt_not (xt_val (xe_cal (bs := [none]) c_are_unlike (hr.mono (by decide)) (by rfl) (xab_val (xe_var 2) xab_nil)))) xb_never xb_nil)
    (xb_cons (xs_if (xt_not (xt_val (xe_callB (r := (rAll _)) (cr_all (by rfl)) cas_all T.n_all (xa_cons (xe_lc2V [("menu", 3), ("name", 4)] (vs1 := [4]) (by rfl) nd (xi_seq (xe_var 1)) (blkOk_by (N := N_Board_init) (sc := (defScope (mtop 36 0))) (by decide +kernel)) (fun _ _ _ _ _ => (xg_name 3 nd)) (fun _ _ _ _ _ => xts_nil) (fun _ _ _ _ _ => (xi_list (xe_cal (bs := [none]) c_named_in (hr.mono (by decide)) (by rfl) (xab_val (xe_var 3) xab_nil)))) (fun _ _ _ _ _ => (xg_name 4 nd)) (fun _ _ _ _ _ => xts_nil) (fun _ _ _ _ _ => (xe_cmp (op_in_str.or op_in_seq) ops_inA (xe_var 4) (xe_var 2)))) xa_nil)))) xb_never xb_nil)
    (xb_cons (xs_fldO 0 1 T.cl_1 T.na_1_menus (xe_callTy (r := (rTuple2 _)) call_tuple_of cas_tuple T.n_tuple (xa_cons (xe_var 1) xa_nil)))
    (xb_cons (xs_fldO 0 1 T.cl_1 T.na_1_names (xe_callTy (r := (rTuple2 _)) call_tuple_of cas_tuple T.n_tuple (xa_cons (xe_var 2) xa_nil)))
    (xb_cons (xs_fldO 0 1 T.cl_1 T.na_1_first (xe_ix (xe_var 2) xe_int))
    (xb_one (xs_fldO 0 1 T.cl_1 T.na_1_lines (xe_callTy (r := (rTuple2 _)) call_tuple_of cas_tuple T.n_tuple (xa_cons (xe_ss2V [("menu", 3), ("deed", 5)] (vs1 := [5]) (by rfl) T.n_sorted nd (xi_seq (xe_var 1)) (blkOk_by (N := N_Board_init) (sc := (defScope (mtop 36 0))) (by decide +kernel)) (fun _ _ _ _ _ => (xg_name 3 nd)) (fun _ _ _ _ _ => xts_nil) (fun _ _ _ _ _ => (xi_list (xe_cal (bs := [none]) c_deeds_of (hr.mono (by decide)) (by rfl) (xab_val (xe_var 3) xab_nil)))) (fun _ _ _ _ _ => (xg_name 5 nd)) (fun _ _ _ _ _ => (xts_one (xt_cmp (op_eqA hr.units) ops_eq (xe_ix (xe_var 5) xe_int) xe_str))) (fun _ _ _ _ _ => (xe_ix (xe_var 5) xe_int))) xa_nil)))))))))))), (F.binds fun _ _ _ _ _ _ us hl => match us, hl with | [_, _], _ => rfl)⟩⟩
theorem sc_is_row : FnScope N_is_row ["value"] (defScope (top 28)) := ⟨rfl, rfl, rfl, by decide +kernel, rfl, by decide +kernel, by decide +kernel⟩
theorem c_is_row (T : Fx w K mg cl) (c_action_in : Cal Pg w K mg base cl "action_in" 2 1 ff_action_in) (c_is_digit : Cal Pg w K mg base cl "is_digit" 1 1 ff_is_digit) : Cal Pg w K mg base cl "is_row" 3 1 ff_is_row := by
  obtain ⟨f, fd, hm, F⟩ := T.fu_is_row
  have nd := sc_is_row.nd
  exact ⟨⟨f, fd, _, hm, F.kp, (fn_ok F sc_is_row (by decide) fun cdv A outer s H E hr =>
    (xb_cons (xs_if (XW.xt (xw_or (xt_not (xt_val (xe_isi T.n_isinstance T.n_tuple (xe_var 0)))) (xw_or1 (xt_cmp (op_neA hr.units) ops_ne (xe_len T.n_len (xe_var 0)) xe_int)))) (xb_one (xs_ret xe_bl)) xb_nil)
    (xb_one (xs_ret (xe_and (xe_cal (bs := [none]) c_is_digit (hr.mono (by decide)) (by rfl) (xab_val (xe_ix (xe_var 0) xe_int) xab_nil)) (xe_one (xe_cmp op_notN ops_notN (xe_cal (bs := [none]) c_action_in (hr.mono (by decide)) (by rfl) (xab_val (xe_ix (xe_var 0) xe_int) xab_nil)) xe_non))))))), (F.binds fun _ _ _ _ _ _ us hl => match us, hl with | [_], _ => rfl)⟩⟩
theorem sc_are_rows : FnScope N_are_rows ["value"] (defScope (top 29)) := ⟨rfl, rfl, rfl, by decide +kernel, rfl, by decide +kernel, by decide +kernel⟩
theorem c_are_rows (T : Fx w K mg cl) (c_are_unlike : Cal Pg w K mg base cl "are_unlike" 1 1 ff_are_unlike) (c_is_row : Cal Pg w K mg base cl "is_row" 3 1 ff_is_row) (c_is_sequence : Cal Pg w K mg base cl "is_sequence" 1 1 ff_is_sequence) : Cal Pg w K mg base cl "are_rows" 4 1 ff_are_rows := by
  obtain ⟨f, fd, hm, F⟩ := T.fu_are_rows
  have nd := sc_are_rows.nd
  exact ⟨⟨f, fd, _, hm, F.kp, (fn_ok F sc_are_rows (by decide) fun cdv A outer s H E hr =>
    (xb_cons (xs_if (XW.xt (xw_or (xt_not (xt_val (xe_cal (bs := [none]) c_is_sequence (hr.mono (by decide)) (by rfl) (xab_val (xe_var 0) xab_nil)))) (xw_or1 (xt_not (xt_val (xe_callB (r := (rAll _)) (cr_all (by rfl)) cas_all T.n_all (xa_cons (xe_lcV [("row", 1)] (by rfl) nd (xi_list (xe_var 0)) (blkOk_by (N := N_are_rows) (sc := (defScope (top 29))) (by decide +kernel)) (fun _ _ _ _ _ => (xg_name 1 nd)) (fun _ _ _ _ _ => xts_nil) (fun _ _ _ _ _ => (xe_cal (bs := [none]) c_is_row (hr.mono (by decide)) (by rfl) (xab_val (xe_var 1) xab_nil)))) xa_nil))))))) (xb_one (xs_ret xe_bl)) xb_nil)
    (xb_one (xs_ret (xe_cal (bs := [none]) c_are_unlike (hr.mono (by decide)) (by rfl) (xab_val (xe_lcV [("row", 1)] (by rfl) nd (xi_list (xe_var 0)) (blkOk_by (N := N_are_rows) (sc := (defScope (top 29))) (by decide +kernel)) (fun _ _ _ _ _ => (xg_name 1 nd)) (fun _ _ _ _ _ => xts_nil) (fun _ _ _ _ _ => (xe_ix (xe_var 1) xe_int))) xab_nil)))))), (F.binds fun _ _ _ _ _ _ us hl => match us, hl with | [_], _ => rfl)⟩⟩
theorem sc_is_integer : FnScope N_is_integer ["value"] (defScope (top 15)) := ⟨rfl, rfl, rfl, by decide +kernel, rfl, by decide +kernel, by decide +kernel⟩
theorem c_is_integer (T : Fx w K mg cl)  : Cal Pg w K mg base cl "is_integer" 1 1 ff_is_integer := by
  obtain ⟨f, fd, hm, F⟩ := T.fu_is_integer
  have nd := sc_is_integer.nd
  exact ⟨⟨f, fd, _, hm, F.kp, (fn_ok F sc_is_integer (by decide) fun cdv A outer s H E hr =>
    (xb_one (xs_ret (xe_and (xe_isi T.n_isinstance T.n_int (xe_var 0)) (xe_one (xe_not (xe_isi T.n_isinstance T.n_bool (xe_var 0)))))))), (F.binds fun _ _ _ _ _ _ us hl => match us, hl with | [_], _ => rfl)⟩⟩
theorem sc_Menu_init : FnScope N_Menu_init ["self", "name", "rows", "tail", "tries", "clears"] (defScope (mtop 32 0)) := ⟨rfl, rfl, rfl, by decide +kernel, rfl, by decide +kernel, by decide +kernel⟩
theorem k_Menu (T : Fx w K mg cl) (c_action_in : Cal Pg w K mg base cl "action_in" 2 1 ff_action_in) (c_are_rows : Cal Pg w K mg base cl "are_rows" 4 1 ff_are_rows) (c_is_integer : Cal Pg w K mg base cl "is_integer" 1 1 ff_is_integer) (c_is_name : Cal Pg w K mg base cl "is_name" 1 1 ff_is_name) : CalC Pg w K mg base cl 0 "Menu" 5 6 ff_Menu_init := by
  obtain ⟨f, fd, hm, M, F⟩ := T.mk_0
  have nd := sc_Menu_init.nd
  exact ⟨⟨f, fd, _, hm, M, (fn_okD F sc_Menu_init (by decide) fun cdv A outer s H E hr =>
    (xb_cons (xs_if (xt_not (xt_val (xe_cal (bs := [none]) c_is_name (hr.mono (by decide)) (by rfl) (xab_val (xe_var 1) xab_nil)))) xb_never xb_nil)
    (xb_cons (xs_if (xt_not (xt_val (xe_cal (bs := [none]) c_are_rows (hr.mono (by decide)) (by rfl) (xab_val (xe_var 2) xab_nil)))) xb_never xb_nil)
    (xb_cons (xs_if (xt_cmp op_isN ops_isN (xe_cal (bs := [none]) c_action_in (hr.mono (by decide)) (by rfl) (xab_val (xe_var 3) xab_nil)) xe_non) xb_never xb_nil)
    (xb_cons (xs_if (XW.xt (xw_or (xt_not (xt_val (xe_cal (bs := [none]) c_is_integer (hr.mono (by decide)) (by rfl) (xab_val (xe_var 4) xab_nil)))) (xw_or1 (xt_cmp op_lt ops_B (xe_var 4) xe_int)))) xb_never xb_nil)
    (xb_cons (xs_if (xt_not (xt_val (xe_isi T.n_isinstance T.n_bool (xe_var 5)))) xb_never xb_nil)
    (xb_cons (xs_fldO 0 0 T.cl_0 T.na_0_name (xe_var 1))
    (xb_cons (xs_fldO 0 0 T.cl_0 T.na_0_rows (xe_callTy (r := (rTuple2 _)) call_tuple_of cas_tuple T.n_tuple (xa_cons (xe_callB (r := (rSortD _)) (call_sortedD hr.units) cas_sorted T.n_sorted (xa_cons (xe_var 2) xa_nil)) xa_nil)))
    (xb_cons (xs_fldO 0 0 T.cl_0 T.na_0_tail (xe_var 3))
    (xb_cons (xs_fldO 0 0 T.cl_0 T.na_0_tries (xe_var 4))
    (xb_cons (xs_fldO 0 0 T.cl_0 T.na_0_clears (xe_var 5))
    (xb_cons (xs_fldO 0 0 T.cl_0 T.na_0_deeds (xe_callTy (r := (rTuple2 _)) call_tuple_of cas_tuple T.n_tuple (xa_cons (xe_lcV [("digit", 6), ("action", 7)] (by rfl) nd (xi_tup (xe_fldO 0 0 T.cl_0 T.na_0_rows)) (blkOk_by (N := N_Menu_init) (sc := (defScope (mtop 32 0))) (by decide +kernel)) (fun _ _ _ _ _ => (xg_tup (n := 2) (by rfl) (xgs_cons (xg_name 6 nd) (xgs_cons (xg_name 7 nd) xgs_nil)))) (fun _ _ _ _ _ => xts_nil) (fun _ _ _ _ _ => (xe_tup (xa_cons (xe_var 6) (xa_cons (xe_cal (bs := [none]) c_action_in (hr.mono (by decide)) (by rfl) (xab_val (xe_var 7) xab_nil)) xa_nil))))) xa_nil)))
    (xb_one (xs_fldO 0 0 T.cl_0 T.na_0_last (xe_cal (bs := [none]) c_action_in (hr.mono (by decide)) (by rfl) (xab_val (xe_var 3) xab_nil)))))))))))))))), (by obtain ⟨ds, hv, hb⟩ := F.binds1 (ps := ["self", "name", "rows", "tail", "tries", "clears"]) 6 2 (by simp) rfl (fun Q kV doc pm an cdv ct us its h1 h2 => match us, its, h1, h2 with | [_, _, _, _, _, _], [_, _], _, _ => ⟨_, rfl, by first | rfl | with_unfolding_all rfl | kernel_rfl⟩); cases hv; exact hb)⟩⟩
theorem sc_Board_read : FnScope N_Board_read ["cls", "text"] (defScope (mtop 36 1)) := ⟨rfl, rfl, rfl, by decide +kernel, rfl, by decide +kernel, by decide +kernel⟩
theorem r_Board_read (T : Fx w K mg cl) (c_told_in : Cal Pg w K mg base cl "told_in" 4 2 ff_told_in) (k_Board : CalC Pg w K mg base cl 1 "Board" 3 2 ff_Board_init) (k_Menu : CalC Pg w K mg base cl 0 "Menu" 5 6 ff_Menu_init) : CalK Pg w K mg base cl 1 "Board" "read" 7 2 ff_Board_read := by
  obtain ⟨f, fd, mc, pa, hm, cr, cm, F⟩ := T.cm_1_read
  have nd := sc_Board_read.nd
  exact ⟨⟨f, fd, _, mc, pa, hm, cr, cm, (fn_ok F sc_Board_read (by decide) fun cdv A outer s H E hr =>
    (xb_cons (xs_if (xt_not (xt_val (xe_isi T.n_isinstance T.n_str (xe_var 1)))) xb_never xb_nil)
    (xb_cons (xs_par3 2 3 4 (by rfl) nd (xe_split (xe_var 1) xe_str) (xe_lst xa_nil) xe_int)
    (xb_cons (xs_while 16777216 PassesOwn.never (XW.xt (xw_or (xt_cmp op_lt ops_B (xe_var 4) (xe_len T.n_len (xe_var 2))) (xw_or1 (xt_cmp (op_eqA hr.units) ops_eq (xe_lenO 3 T.n_len) xe_int)))) (xb_cons (xs_asg (xe_cal (bs := [none, none]) c_told_in (hr.mono (by decide)) (by rfl) (xab_val (xe_var 2) (xab_val (xe_var 4) xab_nil))) (xg_tup (n := 2) (by rfl) (xgs_cons (xg_name 5 nd) (xgs_cons (xg_name 4 nd) xgs_nil))))
    (xb_one (xs_expr (xe_app 3 (xe_var 5))))))
    (xb_one (xs_ret (xe_calVA 0 k_Board (hr.mono (by decide)) (by rfl) (by rfl) (aC_len aN_len) (xa_cons (xe_lcOV 3 [("more", 5)] (by rfl) nd (blkOk_by (N := N_Board_read) (sc := (defScope (mtop 36 1))) (by decide +kernel)) (fun _ _ _ _ _ => (xg_name 5 nd)) (fun _ _ _ _ _ => xts_nil) (fun _ _ _ _ _ => (xe_calS1 (j := 5) k_Menu (hr.mono (by decide)) (by rfl) (xe_var 5)))) xa_nil)))))))), (F.binds fun _ _ _ _ _ _ us hl => match us, hl with | [_, _], _ => rfl)⟩⟩
theorem sc_law_home : FnScope N_law_home ["_law_told_here"] (defScope (top 55)) := ⟨rfl, rfl, rfl, by decide +kernel, rfl, by decide +kernel, by decide +kernel⟩
theorem c__law_home (T : Fx w K mg cl) (c__law_text : Cal Pg w K mg base cl "_law_text" 2 1 ff_law_text) (r_Board_read : CalK Pg w K mg base cl 1 "Board" "read" 7 2 ff_Board_read) : Cal Pg w K mg base cl "_law_home" 8 1 ff_law_home := by
  obtain ⟨f, fd, hm, F⟩ := T.fu__law_home
  have nd := sc_law_home.nd
  exact ⟨⟨f, fd, _, hm, F.kp, (fn_ok F sc_law_home (by decide) fun cdv A outer s H E hr =>
    (xb_one (xs_ret (xe_calK r_Board_read (hr.mono (by decide)) (by rfl) (by rfl) (aC_len aN_len) (xa_cons (xe_cal (bs := [none]) c__law_text (hr.mono (by decide)) (by rfl) (xab_val (xe_var 0) xab_nil)) xa_nil))))), (F.binds fun _ _ _ _ _ _ us hl => match us, hl with | [_], _ => rfl)⟩⟩
theorem sc_is_event : FnScope N_is_event ["value"] (defScope (top 23)) := ⟨rfl, rfl, rfl, by decide +kernel, rfl, by decide +kernel, by decide +kernel⟩
theorem c_is_event (T : Fx w K mg cl) (c_is_digit : Cal Pg w K mg base cl "is_digit" 1 1 ff_is_digit) : Cal Pg w K mg base cl "is_event" 2 1 ff_is_event := by
  obtain ⟨f, fd, hm, F⟩ := T.fu_is_event
  have nd := sc_is_event.nd
  exact ⟨⟨f, fd, _, hm, F.kp, (fn_ok F sc_is_event (by decide) fun cdv A outer s H E hr =>
    (xb_cons (xs_if (XW.xt (xw_or (xt_not (xt_val (xe_isi T.n_isinstance T.n_str (xe_var 0)))) (xw_or1 (xt_cmp (op_eqA hr.units) ops_eq (xe_var 0) xe_str)))) (xb_one (xs_ret xe_bl)) xb_nil)
    (xb_cons (xs_if (xt_cmp (op_eqA hr.units) ops_eq (xe_ix (xe_var 0) xe_int) xe_str) (xb_one (xs_ret (xe_or (xe_cmp (op_eqA hr.units) ops_eq (xe_len T.n_len (xe_var 0)) xe_int) (xe_one (xe_and (xe_cmp (op_eqA hr.units) ops_eq (xe_len T.n_len (xe_var 0)) xe_int) (xe_one (xe_cal (bs := [none]) c_is_digit (hr.mono (by decide)) (by rfl) (xab_val (xe_ix (xe_var 0) xe_int) xab_nil)))))))) xb_nil)
    (xb_one (xs_ret (xe_callB (r := (rAll _)) (cr_all (by rfl)) cas_all T.n_all (xa_cons (xe_lcV [("sign", 1)] (by rfl) nd (xi_str (xe_var 0)) (blkOk_by (N := N_is_event) (sc := (defScope (top 23))) (by decide +kernel)) (fun _ _ _ _ _ => (xg_name 1 nd)) (fun _ _ _ _ _ => xts_nil) (fun _ _ _ _ _ => (xe_cal (bs := [none]) c_is_digit (hr.mono (by decide)) (by rfl) (xab_val (xe_var 1) xab_nil)))) xa_nil))))))), (F.binds fun _ _ _ _ _ _ us hl => match us, hl with | [_], _ => rfl)⟩⟩
theorem sc_Board_menu : FnScope N_Board_menu ["self", "name"] (defScope (mtop 36 2)) := ⟨rfl, rfl, rfl, by decide +kernel, rfl, by decide +kernel, by decide +kernel⟩
theorem m_Board_menu (T : Fx w K mg cl)  : CalM Pg w K mg base cl 1 "menu" 1 2 ff_Board_menu := by
  obtain ⟨f, fd, hm, F⟩ := T.me_1_menu
  have nd := sc_Board_menu.nd
  exact ⟨T.cl_1, ⟨f, fd, _, hm, (fn_ok F sc_Board_menu (by decide) fun cdv A outer s H E hr =>
    (xb_cons (xs_for PassesOwn.never (by rfl) (xi_tup (xe_fld T.cl_1 T.na_1_menus (xe_var 0))) (xg_name 2 nd) (xb_one (xs_if (xt_cmp (op_eqA hr.units) ops_eq (xe_fld T.cl_0 T.na_0_name (xe_var 2)) (xe_var 1)) (xb_one (xs_ret (xe_var 2))) xb_nil)))
    xb_never)), (F.binds fun _ _ _ _ _ _ us hl => match us, hl with | [_, _], _ => rfl)⟩⟩
theorem sc_Call_finish : FnScope N_Call_finish ["self", "how"] (defScope (mtop 24 2)) := ⟨rfl, rfl, rfl, by decide +kernel, rfl, by decide +kernel, by decide +kernel⟩
theorem m_Call_finish (T : Fx w K mg cl)  : CalM Pg w K mg base cl 3 "finish" 1 2 ff_Call_finish := by
  obtain ⟨f, fd, hm, F⟩ := T.me_3_finish
  have nd := sc_Call_finish.nd
  exact ⟨T.cl_3, ⟨f, fd, _, hm, (fn_ok F sc_Call_finish (by decide) fun cdv A outer s H E hr =>
    (xb_cons (xs_fldO 0 3 T.cl_3 T.na_3_deep (xe_tup xa_nil))
    (xb_cons (xs_fldO 0 3 T.cl_3 T.na_3_rest xe_int)
    (xb_cons (xs_fldO 0 3 T.cl_3 T.na_3_over (xe_var 1))
    (xb_one (xs_fldO 0 3 T.cl_3 T.na_3_pending xe_str)))))), (F.binds fun _ _ _ _ _ _ us hl => match us, hl with | [_, _], _ => rfl)⟩⟩
theorem sc_Call_start : FnScope N_Call_start ["self", "deep"] (defScope (mtop 24 1)) := ⟨rfl, rfl, rfl, by decide +kernel, rfl, by decide +kernel, by decide +kernel⟩
theorem m_Call_start (T : Fx w K mg cl) (m_Board_menu : CalM Pg w K mg base cl 1 "menu" 1 2 ff_Board_menu) (m_Call_finish : CalM Pg w K mg base cl 3 "finish" 1 2 ff_Call_finish) : CalM Pg w K mg base cl 3 "start" 2 2 ff_Call_start := by
  obtain ⟨f, fd, hm, F⟩ := T.me_3_start
  have nd := sc_Call_start.nd
  exact ⟨T.cl_3, ⟨f, fd, _, hm, (fn_ok F sc_Call_start (by decide) fun cdv A outer s H E hr =>
    (xb_cons (xs_if (xt_cmp (op_eqA hr.units) ops_eq (xe_len T.n_len (xe_var 1)) xe_int) (xb_cons (xs_expr (xe_calMO (bs := [none]) 0 m_Call_finish (hr.mono (by decide)) (by rfl) (xab_val xe_str xab_nil)))
    (xb_one xs_retN)) xb_nil)
    (xb_cons (xs_set 2 nd (xe_calM (bs := [none]) m_Board_menu (hr.mono (by decide)) (by rfl) (xe_fldO 0 3 T.cl_3 T.na_3_plan) (xab_val (xe_ix (xe_var 1) xe_int) xab_nil)))
    (xb_cons (xs_fldO 0 3 T.cl_3 T.na_3_deep (xe_callTy (r := (rTuple2 _)) call_tuple_of cas_tuple T.n_tuple (xa_cons (xe_var 1) xa_nil)))
    (xb_cons (xs_fldO 0 3 T.cl_3 T.na_3_rest (xe_fld T.cl_0 T.na_0_tries (xe_var 2)))
    (xb_cons (xs_expr (xe_fapp 0 3 T.cl_3 T.na_3_started_names (xp_fld T.cl_0 T.na_0_name (xp_var 2))))
    (xb_one (xs_if (xt_val (xe_fld T.cl_0 T.na_0_clears (xe_var 2))) (xb_one (xs_fldO 0 3 T.cl_3 T.na_3_pending xe_str)) xb_nil)))))))), (F.binds fun _ _ _ _ _ _ us hl => match us, hl with | [_, _], _ => rfl)⟩⟩
theorem sc_Call_init : FnScope N_Call_init ["self", "board"] (defScope (mtop 24 0)) := ⟨rfl, rfl, rfl, by decide +kernel, rfl, by decide +kernel, by decide +kernel⟩
theorem k_Call (T : Fx w K mg cl) (m_Call_start : CalM Pg w K mg base cl 3 "start" 2 2 ff_Call_start) : CalC Pg w K mg base cl 3 "Call" 3 2 ff_Call_init := by
  obtain ⟨f, fd, hm, M, F⟩ := T.mk_3
  have nd := sc_Call_init.nd
  exact ⟨⟨f, fd, _, hm, M, (fn_ok F sc_Call_init (by decide) fun cdv A outer s H E hr =>
    (xb_cons (xs_fldO 0 3 T.cl_3 T.na_3_plan (xe_var 1))
    (xb_cons (xs_fldO 0 3 T.cl_3 T.na_3_deep (xe_tup xa_nil))
    (xb_cons (xs_fldO 0 3 T.cl_3 T.na_3_rest xe_int)
    (xb_cons (xs_fldO 0 3 T.cl_3 T.na_3_over xe_non)
    (xb_cons (xs_fldO 0 3 T.cl_3 T.na_3_many xe_int)
    (xb_cons (xs_fldO 0 3 T.cl_3 T.na_3_started_names (xe_lst xa_nil))
    (xb_cons (xs_fldO 0 3 T.cl_3 T.na_3_pending xe_str)
    (xb_one (xs_expr (xe_calMO (bs := [none]) 0 m_Call_start (hr.mono (by decide)) (by rfl) (xab_val (xe_tup (xa_cons (xe_fld T.cl_1 T.na_1_first (xe_var 1)) xa_nil)) xab_nil)))))))))))), (F.binds fun _ _ _ _ _ _ us hl => match us, hl with | [_, _], _ => rfl)⟩⟩
theorem sc_Played_init : FnScope N_Played_init ["self", "call"] (defScope (mtop 25 0)) := ⟨rfl, rfl, rfl, by decide +kernel, rfl, by decide +kernel, by decide +kernel⟩
theorem k_Played (T : Fx w K mg cl)  : CalC Pg w K mg base cl 4 "Played" 1 2 ff_Played_init := by
  obtain ⟨f, fd, hm, M, F⟩ := T.mk_4
  have nd := sc_Played_init.nd
  exact ⟨⟨f, fd, _, hm, M, (fn_ok F sc_Played_init (by decide) fun cdv A outer s H E hr =>
    (xb_cons (xs_fldO 0 4 T.cl_4 T.na_4_stack (xe_fld T.cl_3 T.na_3_deep (xe_var 1)))
    (xb_cons (xs_fldO 0 4 T.cl_4 T.na_4_tries (xe_fld T.cl_3 T.na_3_rest (xe_var 1)))
    (xb_cons (xs_fldO 0 4 T.cl_4 T.na_4_end (xe_fld T.cl_3 T.na_3_over (xe_var 1)))
    (xb_cons (xs_fldO 0 4 T.cl_4 T.na_4_presses (xe_fld T.cl_3 T.na_3_many (xe_var 1)))
    (xb_one (xs_fldO 0 4 T.cl_4 T.na_4_started (xe_callTy (r := (rTuple2 _)) call_tuple_of cas_tuple T.n_tuple (xa_cons (xe_fld T.cl_3 T.na_3_started_names (xe_var 1)) xa_nil))))))))), (F.binds fun _ _ _ _ _ _ us hl => match us, hl with | [_, _], _ => rfl)⟩⟩
theorem sc_Call_happen : FnScope N_Call_happen ["self", "deed"] (defScope (mtop 24 3)) := ⟨rfl, rfl, rfl, by decide +kernel, rfl, by decide +kernel, by decide +kernel⟩
theorem m_Call_happen (T : Fx w K mg cl) (m_Call_finish : CalM Pg w K mg base cl 3 "finish" 1 2 ff_Call_finish) (m_Call_start : CalM Pg w K mg base cl 3 "start" 2 2 ff_Call_start) : CalM Pg w K mg base cl 3 "happen" 3 2 ff_Call_happen := by
  obtain ⟨f, fd, hm, F⟩ := T.me_3_happen
  have nd := sc_Call_happen.nd
  exact ⟨T.cl_3, ⟨f, fd, _, hm, (fn_ok F sc_Call_happen (by decide) fun cdv A outer s H E hr =>
    (xb_cons (xs_set 2 nd (xe_sl (xe_fldO 0 3 T.cl_3 T.na_3_deep) (xo_some xe_int) xo_none))
    (xb_one (xs_match (xe_ix (xe_var 1) xe_int) (xm_cons (xb_one (xs_expr (xe_calMO (bs := [none]) 0 m_Call_finish (hr.mono (by decide)) (by rfl) (xab_val (xe_ix (xe_var 1) xe_int) xab_nil)))) (xm_cons (xb_one (xs_expr (xe_calMO (bs := [none]) 0 m_Call_finish (hr.mono (by decide)) (by rfl) (xab_val xe_str xab_nil)))) (xm_cons (xb_one (xs_expr (xe_calMO (bs := [none]) 0 m_Call_start (hr.mono (by decide)) (by rfl) (xab_val (xe_fldO 0 3 T.cl_3 T.na_3_deep) xab_nil)))) (xm_cons (xb_one (xs_expr (xe_calMO (bs := [none]) 0 m_Call_start (hr.mono (by decide)) (by rfl) (xab_val (xe_tup (xa_cons (xe_fld T.cl_1 T.na_1_first (xe_fldO 0 3 T.cl_3 T.na_3_plan)) xa_nil)) xab_nil)))) (xm_cons (xb_one (xs_expr (xe_calMO (bs := [none]) 0 m_Call_start (hr.mono (by decide)) (by rfl) (xab_val (xe_var 2) xab_nil)))) (xm_else (xb_one (xs_expr (xe_calMO (bs := [none]) 0 m_Call_start (hr.mono (by decide)) (by rfl) (xab_val (xe_tup (xa_star (xe_sl (xe_var 1) (xo_some xe_int) xo_none) (xa_star (xe_var 2) xa_nil))) xab_nil)))))))))))))), (F.binds fun _ _ _ _ _ _ us hl => match us, hl with | [_, _], _ => rfl)⟩⟩
theorem sc_Call_waste : FnScope N_Call_waste ["self"] (defScope (mtop 24 4)) := ⟨rfl, rfl, rfl, by decide +kernel, rfl, by decide +kernel, by decide +kernel⟩
theorem m_Call_waste (T : Fx w K mg cl) (m_Board_menu : CalM Pg w K mg base cl 1 "menu" 1 2 ff_Board_menu) (m_Call_happen : CalM Pg w K mg base cl 3 "happen" 3 2 ff_Call_happen) : CalM Pg w K mg base cl 3 "waste" 4 1 ff_Call_waste := by
  obtain ⟨f, fd, hm, F⟩ := T.me_3_waste
  have nd := sc_Call_waste.nd
  exact ⟨T.cl_3, ⟨f, fd, _, hm, (fn_ok F sc_Call_waste (by decide) fun cdv A outer s H E hr =>
    (xb_cons (xs_fsub 0 3 T.cl_3 T.na_3_rest xe_int)
    (xb_one (xs_if (xt_cmp (op_eqA hr.units) ops_eq (xe_fldO 0 3 T.cl_3 T.na_3_rest) xe_int) (xb_one (xs_expr (xe_calMO (bs := [none]) 0 m_Call_happen (hr.mono (by decide)) (by rfl) (xab_val (xe_fld T.cl_0 T.na_0_last (xe_calM (bs := [none]) m_Board_menu (hr.mono (by decide)) (by rfl) (xe_fldO 0 3 T.cl_3 T.na_3_plan) (xab_val (xe_ix (xe_fldO 0 3 T.cl_3 T.na_3_deep) xe_int) xab_nil))) xab_nil)))) xb_nil)))), (F.binds fun _ _ _ _ _ _ us hl => match us, hl with | [_], _ => rfl)⟩⟩
theorem sc_Call_press : FnScope N_Call_press ["self", "digit"] (defScope (mtop 24 5)) := ⟨rfl, rfl, rfl, by decide +kernel, rfl, by decide +kernel, by decide +kernel⟩
theorem m_Call_press (T : Fx w K mg cl) (m_Board_menu : CalM Pg w K mg base cl 1 "menu" 1 2 ff_Board_menu) (m_Call_happen : CalM Pg w K mg base cl 3 "happen" 3 2 ff_Call_happen) (m_Call_waste : CalM Pg w K mg base cl 3 "waste" 4 1 ff_Call_waste) : CalM Pg w K mg base cl 3 "press" 5 2 ff_Call_press := by
  obtain ⟨f, fd, hm, F⟩ := T.me_3_press
  have nd := sc_Call_press.nd
  exact ⟨T.cl_3, ⟨f, fd, _, hm, (fn_ok F sc_Call_press (by decide) fun cdv A outer s H E hr =>
    (xb_cons (xs_fadd 0 3 T.cl_3 T.na_3_many xe_int)
    (xb_cons (xs_for PassesOwn.never (by rfl) (xi_tup (xe_fld T.cl_0 T.na_0_deeds (xe_calM (bs := [none]) m_Board_menu (hr.mono (by decide)) (by rfl) (xe_fldO 0 3 T.cl_3 T.na_3_plan) (xab_val (xe_ix (xe_fldO 0 3 T.cl_3 T.na_3_deep) xe_int) xab_nil)))) (xg_tup (n := 2) (by rfl) (xgs_cons (xg_name 2 nd) (xgs_cons (xg_name 3 nd) xgs_nil))) (xb_one (xs_if (xt_cmp (op_eqA hr.units) ops_eq (xe_var 2) (xe_var 1)) (xb_cons (xs_expr (xe_calMO (bs := [none]) 0 m_Call_happen (hr.mono (by decide)) (by rfl) (xab_val (xe_var 3) xab_nil)))
    (xb_one xs_retN)) xb_nil)))
    (xb_one (xs_expr (xe_calMO0 0 m_Call_waste (hr.mono (by decide)) (by rfl))))))), (F.binds fun _ _ _ _ _ _ us hl => match us, hl with | [_, _], _ => rfl)⟩⟩
theorem sc_Call_do : FnScope N_Call_do ["self", "event"] (defScope (mtop 24 6)) := ⟨rfl, rfl, rfl, by decide +kernel, rfl, by decide +kernel, by decide +kernel⟩
theorem m_Call_do (T : Fx w K mg cl) (m_Call_press : CalM Pg w K mg base cl 3 "press" 5 2 ff_Call_press) (m_Call_waste : CalM Pg w K mg base cl 3 "waste" 4 1 ff_Call_waste) : CalM Pg w K mg base cl 3 "do" 6 2 ff_Call_do := by
  obtain ⟨f, fd, hm, F⟩ := T.me_3_do
  have nd := sc_Call_do.nd
  exact ⟨T.cl_3, ⟨f, fd, _, hm, (fn_okTC F sc_Call_do (by decide) (by rfl) fun cdv A outer s H E hr =>
    (xbt_cons (xst_asg (xet_repl (xe_var 1)) (xg_fldO 0 3 T.cl_3 T.na_3_pending))
    (XB.t (xb_cons (xs_if (xt_cmp (op_eqA hr.units) ops_eq (xe_ix (xe_var 1) xe_int) xe_str) (xb_one (xs_expr (xe_calMO0 0 m_Call_waste (hr.mono (by decide)) (by rfl)))) xb_nil)
    (xb_one (xs_while 16777216 PassesOwn.never (XW.xt (xw_and (xt_cmp op_isN ops_isN (xe_fldO 0 3 T.cl_3 T.na_3_over) xe_non) (xw_and1 (xt_cmp (op_neA hr.units) ops_ne (xe_fldO 0 3 T.cl_3 T.na_3_pending) xe_str)))) (xb_cons (xs_asg (xe_tup (xa_cons (xe_ix (xe_fldO 0 3 T.cl_3 T.na_3_pending) xe_int) (xa_cons (xe_sl (xe_fldO 0 3 T.cl_3 T.na_3_pending) (xo_some xe_int) xo_none) xa_nil))) (xg_tup (n := 2) (by rfl) (xgs_cons (xg_name 2 nd) (xgs_cons (xg_fldO 0 3 T.cl_3 T.na_3_pending) xgs_nil))))
    (xb_one (xs_expr (xe_calMO (bs := [none]) 0 m_Call_press (hr.mono (by decide)) (by rfl) (xab_val (xe_var 2) xab_nil))))))))))), (F.binds fun _ _ _ _ _ _ us hl => match us, hl with | [_, _], _ => rfl)⟩⟩
theorem sc_play : FnScope N_play ["board", "events"] (defScope (top 26)) := ⟨rfl, rfl, rfl, by decide +kernel, rfl, by decide +kernel, by decide +kernel⟩
theorem c_play (T : Fx w K mg cl) (c_is_event : Cal Pg w K mg base cl "is_event" 2 1 ff_is_event) (c_is_sequence : Cal Pg w K mg base cl "is_sequence" 1 1 ff_is_sequence) (k_Call : CalC Pg w K mg base cl 3 "Call" 3 2 ff_Call_init) (k_Played : CalC Pg w K mg base cl 4 "Played" 1 2 ff_Played_init) (m_Call_do : CalM Pg w K mg base cl 3 "do" 6 2 ff_Call_do) : Cal Pg w K mg base cl "play" 7 2 ff_play := by
  obtain ⟨f, fd, hm, F⟩ := T.fu_play
  have nd := sc_play.nd
  exact ⟨⟨f, fd, _, hm, F.kp, (fn_ok F sc_play (by decide) fun cdv A outer s H E hr =>
    (xb_cons (xs_if (xt_not (xt_val (xe_cal (bs := [some 1]) c_is_sequence (hr.mono (by decide)) (by rfl) (xab_lend 1 xab_nil)))) xb_never xb_nil)
    (xb_cons (xs_set 2 nd (xe_calC k_Call (hr.mono (by decide)) (by rfl) (by rfl) (aC_len aN_len) (xa_cons (xe_var 0) xa_nil)))
    (xb_cons (xs_forEO 1 PassesOwn.never (by rfl) T.n_enumerate (xg_tup (n := 2) (by rfl) (xgs_cons (xg_name 3 nd) (xgs_cons (xg_name 4 nd) xgs_nil))) (xb_cons (xs_if (XW.xt (xw_or (xt_not (xt_val (xe_cal (bs := [none]) c_is_event (hr.mono (by decide)) (by rfl) (xab_val (xe_var 4) xab_nil)))) (xw_or1 (xt_cmp op_notN ops_notN (xe_fldO 2 3 T.cl_3 T.na_3_over) xe_non)))) xb_never xb_nil)
    (xb_one (xs_expr (xe_calMO (bs := [none]) 2 m_Call_do (hr.mono (by decide)) (by rfl) (xab_val (xe_var 4) xab_nil))))))
    (xb_one (xs_ret (xe_calC k_Played (hr.mono (by decide)) (by rfl) (by rfl) (aC_len aN_len) (xa_cons (xe_var 2) xa_nil)))))))), (F.binds fun _ _ _ _ _ _ us hl => match us, hl with | [_, _], _ => rfl)⟩⟩
theorem sc_law_one_by_one : FnScope N_law_one_by_one ["_law_home_here", "_law_digits"] (defScope (top 56)) := ⟨rfl, rfl, rfl, by decide +kernel, rfl, by decide +kernel, by decide +kernel⟩
theorem c__law_one_by_one (T : Fx w K mg cl) (c_play : Cal Pg w K mg base cl "play" 7 2 ff_play) : Cal Pg w K mg base cl "_law_one_by_one" 8 2 ff_law_one_by_one := by
  obtain ⟨f, fd, hm, F⟩ := T.fu__law_one_by_one
  have nd := sc_law_one_by_one.nd
  exact ⟨⟨f, fd, _, hm, F.kp, (fn_ok F sc_law_one_by_one (by decide) fun cdv A outer s H E hr =>
    (xb_cons (xs_set 2 nd (xe_lst xa_nil))
    (xb_cons (xs_for PassesOwn.never (by rfl) (xi_str (xe_var 1)) (xg_name 3 nd) (xb_one (xs_if (xt_cmp op_isN ops_isN (xe_fld T.cl_4 T.na_4_end (xe_cal (bs := [none, some 2]) c_play (hr.mono (by decide)) (by rfl) (xab_val (xe_var 0) (xab_lend 2 xab_nil)))) xe_non) (xb_one (xs_expr (xe_app 2 (xe_var 3)))) xb_nil)))
    (xb_one (xs_ret (xe_cal (bs := [none, some 2]) c_play (hr.mono (by decide)) (by rfl) (xab_val (xe_var 0) (xab_lend 2 xab_nil)))))))), (F.binds fun _ _ _ _ _ _ us hl => match us, hl with | [_, _], _ => rfl)⟩⟩
theorem sc_law_seed : FnScope N_law_seed ["_law_script", "_law_k"] (defScope (top 38)) := ⟨rfl, rfl, rfl, by decide +kernel, rfl, by decide +kernel, by decide +kernel⟩
theorem c__law_seed (T : Fx w K mg cl)  : Cal Pg w K mg base cl "_law_seed" 1 2 ff_law_seed := by
  obtain ⟨f, fd, hm, F⟩ := T.fu__law_seed
  have nd := sc_law_seed.nd
  exact ⟨⟨f, fd, _, hm, F.kp, (fn_ok F sc_law_seed (by decide) fun cdv A outer s H E hr =>
    (xb_cons (xs_set 2 nd (xe_addA (xe_bin op_mul ops_Ic xe_int (xe_var 1)) xe_int))
    (xb_cons (xs_if (xt_cmp op_lt ops_B (xe_var 1) (xe_len T.n_len (xe_var 0))) (xb_one (xs_set 2 nd (xe_callB (r := rAbs2) call_abs cas_abs T.n_abs (xa_cons (xe_ix (xe_var 0) (xe_var 1)) xa_nil)))) (xb_one (xs_if (xt_cmp op_gt ops_B (xe_len T.n_len (xe_var 0)) xe_int) (xb_one (xs_set 2 nd (xe_addA (xe_var 2) (xe_bin op_mul ops_Ic (xe_bin op_mod ops_Ic (xe_callTy (r := rInt2) call_int2 cas_int T.n_int (xa_cons (xe_callB (r := rAbs2) call_abs cas_abs T.n_abs (xa_cons (xe_ix (xe_var 0) (xe_bin op_mod ops_Ic (xe_callTy (r := rInt2) call_int2 cas_int T.n_int (xa_cons (xe_var 1) xa_nil)) (xe_len T.n_len (xe_var 0)))) xa_nil)) xa_nil)) xe_int) xe_int)))) xb_nil)))
    (xb_cons (xs_set 3 nd (xe_if (xt_cmp op_ge ops_B (xe_var 2) (xe_bin op_pow ops_Ic xe_int xe_int)) (xe_var 2) xe_int))
    (xb_one (xs_ret (xe_lst (xa_cons (xe_var 3) (xa_cons (xe_addA (xe_bin op_mod ops_Ic (xe_callTy (r := rInt2) call_int2 cas_int T.n_int (xa_cons (xe_addA (xe_bin op_mul ops_Ic (xe_bin op_mod ops_Ic (xe_callTy (r := rInt2) call_int2 cas_int T.n_int (xa_cons (xe_var 2) xa_nil)) xe_int) xe_int) (xe_bin op_mul ops_Ic xe_int (xe_var 1))) xa_nil)) xe_int) xe_int) xa_nil))))))))), (F.binds fun _ _ _ _ _ _ us hl => match us, hl with | [_, _], _ => rfl)⟩⟩
theorem sc_law_told : FnScope N_law_told ["_law_played"] (defScope (top 54)) := ⟨rfl, rfl, rfl, by decide +kernel, rfl, by decide +kernel, by decide +kernel⟩
theorem c__law_told (T : Fx w K mg cl)  : Cal Pg w K mg base cl "_law_told" 1 1 ff_law_told := by
  obtain ⟨f, fd, hm, F⟩ := T.fu__law_told
  have nd := sc_law_told.nd
  exact ⟨⟨f, fd, _, hm, F.kp, (fn_ok F sc_law_told (by decide) fun cdv A outer s H E hr =>
    (xb_one (xs_ret (xe_tup (xa_cons (xe_fld T.cl_4 T.na_4_stack (xe_var 0)) (xa_cons (xe_fld T.cl_4 T.na_4_tries (xe_var 0)) (xa_cons (xe_fld T.cl_4 T.na_4_end (xe_var 0)) (xa_cons (xe_fld T.cl_4 T.na_4_presses (xe_var 0)) (xa_cons (xe_fld T.cl_4 T.na_4_started (xe_var 0)) xa_nil))))))))), (F.binds fun _ _ _ _ _ _ us hl => match us, hl with | [_], _ => rfl)⟩⟩
theorem sc_law : FnScope N_law ["_law_script"] (defScope (top 57)) := ⟨rfl, rfl, rfl, by decide +kernel, rfl, by decide +kernel, by decide +kernel⟩
theorem o_law (T : Fx w K mg cl) (c__law_board : Cal Pg w K mg base cl "_law_board" 5 3 ff_law_board) (c__law_choose : Cal Pg w K mg base cl "_law_choose" 1 2 ff_law_choose) (c__law_home : Cal Pg w K mg base cl "_law_home" 8 1 ff_law_home) (c__law_one_by_one : Cal Pg w K mg base cl "_law_one_by_one" 8 2 ff_law_one_by_one) (c__law_one_of : Cal Pg w K mg base cl "_law_one_of" 2 2 ff_law_one_of) (c__law_seed : Cal Pg w K mg base cl "_law_seed" 1 2 ff_law_seed) (c__law_told : Cal Pg w K mg base cl "_law_told" 1 1 ff_law_told) (c_play : Cal Pg w K mg base cl "play" 7 2 ff_play) {f : Addr} {fd : FuncData} (F : Fun K "law" "law" (top 57) f fd) : FnOk Pg w K mg base CX0 9 f fd ["_law_script"] (spF ⟨cl, K⟩ 1 ff_law) := by
  have nd := sc_law.nd
  exact (fn_ok F sc_law (by decide) fun cdv A outer s H E hr =>
    (xb_cons (xs_for PassesOwn.never (by rfl) (xi_range1 T.n_range (xe_callB (r := rMax3) (call_max2 (by rfl)) cas_max T.n_max (xa_cons xe_int (xa_cons (xe_callB (r := rMin3) (call_min2 (by rfl)) cas_min T.n_min (xa_cons xe_int (xa_cons (xe_len T.n_len (xe_var 0)) xa_nil))) xa_nil)))) (xg_name 1 nd) (xb_cons (xs_set 2 nd (xe_cal (bs := [none, none]) c__law_seed (hr.mono (by decide)) (by rfl) (xab_val (xe_var 0) (xab_val (xe_var 1) xab_nil))))
    (xb_one (xs_for PassesOwn.never (by rfl) (xi_range1 T.n_range xe_int) (xg_name 3 nd) (xb_cons (xs_set 4 nd (xe_cal (bs := [some 2, none, none]) c__law_board (hr.mono (by decide)) (by rfl) (xab_lend 2 (xab_val xe_int (xab_val xe_int xab_nil)))))
    (xb_cons (xs_setLcV 5 [("_law_one", 16)] (by rfl) nd (xi_list (xe_var 4)) (blkOk_by (N := N_law) (sc := (defScope (top 57))) (by decide +kernel)) (fun _ _ _ _ _ => (xg_name 16 nd)) (fun _ _ _ _ _ => xts_nil) (fun _ _ _ _ _ => (xe_addA (xe_sl (xe_var 16) xo_none (xo_some xe_int)) (xe_lst (xa_cons xe_bl xa_nil)))))
    (xb_cons (xs_par 6 7 (by rfl) nd (xe_cal (bs := [none]) c__law_home (hr.mono (by decide)) (by rfl) (xab_val (xe_var 4) xab_nil)) (xe_cal (bs := [none]) c__law_home (hr.mono (by decide)) (by rfl) (xab_val (xe_var 5) xab_nil)))
    (xb_cons (xs_set 8 nd xe_str)
    (xb_cons (xs_for PassesOwn.never (by rfl) (xi_range1 T.n_range (xe_addA xe_int (xe_cal (bs := [some 2, none]) c__law_choose (hr.mono (by decide)) (by rfl) (xab_lend 2 (xab_val xe_int xab_nil))))) (xg_name 9 nd) (xb_one (xs_set 8 nd (xe_addA (xe_var 8) (xe_cal (bs := [some 2, none]) c__law_one_of (hr.mono (by decide)) (by rfl) (xab_lend 2 (xab_val xe_str xab_nil)))))))
    (xb_cons (xs_set 10 nd (xe_cal (bs := [none]) c__law_told (hr.mono (by decide)) (by rfl) (xab_val (xe_cal (bs := [none, none]) c__law_one_by_one (hr.mono (by decide)) (by rfl) (xab_val (xe_var 7) (xab_val (xe_var 8) xab_nil))) xab_nil)))
    (xb_cons (xs_if (xt_cmp (op_neA hr.units) ops_ne (xe_cal (bs := [none]) c__law_told (hr.mono (by decide)) (by rfl) (xab_val (xe_cal (bs := [none, none]) c_play (hr.mono (by decide)) (by rfl) (xab_val (xe_var 7) (xab_val (xe_lst (xa_cons (xe_var 8) xa_nil)) xab_nil))) xab_nil)) (xe_var 10)) (xb_one (xs_ret xe_bl)) xb_nil)
    (xb_cons (xs_set 11 nd (xe_cal (bs := [some 2, none]) c__law_choose (hr.mono (by decide)) (by rfl) (xab_lend 2 (xab_val (xe_len T.n_len (xe_var 8)) xab_nil))))
    (xb_cons (xs_if (XW.xt (xw_and (xt_cmp op_gt ops_B (xe_var 11) xe_int) (xw_and1 (xt_cmp op_isN ops_isN (xe_fld T.cl_4 T.na_4_end (xe_cal (bs := [none, none]) c_play (hr.mono (by decide)) (by rfl) (xab_val (xe_var 7) (xab_val (xe_lst (xa_cons (xe_sl (xe_var 8) xo_none (xo_some (xe_var 11))) xa_nil)) xab_nil)))) xe_non)))) (xb_one (xs_if (xt_cmp (op_neA hr.units) ops_ne (xe_cal (bs := [none]) c__law_told (hr.mono (by decide)) (by rfl) (xab_val (xe_cal (bs := [none, none]) c_play (hr.mono (by decide)) (by rfl) (xab_val (xe_var 7) (xab_val (xe_lst (xa_cons (xe_sl (xe_var 8) xo_none (xo_some (xe_var 11))) (xa_cons (xe_sl (xe_var 8) (xo_some (xe_var 11)) xo_none) xa_nil))) xab_nil))) xab_nil)) (xe_var 10)) (xb_one (xs_ret xe_bl)) xb_nil)) xb_nil)
    (xb_cons (xs_par 12 13 (by rfl) nd (xe_lst (xa_cons (xe_addA xe_str (xe_sl (xe_var 8) xo_none (xo_some xe_int))) xa_nil)) (xe_lst (xa_cons xe_str (xa_cons (xe_sl (xe_var 8) xo_none (xo_some xe_int)) xa_nil))))
    (xb_cons (xs_if (xt_cmp op_isN ops_isN (xe_fld T.cl_4 T.na_4_end (xe_cal (bs := [none, none]) c_play (hr.mono (by decide)) (by rfl) (xab_val (xe_var 7) (xab_val (xe_lst (xa_cons xe_str xa_nil)) xab_nil)))) xe_non) (xb_one (xs_if (xt_cmp (op_neA hr.units) ops_ne (xe_cal (bs := [none]) c__law_told (hr.mono (by decide)) (by rfl) (xab_val (xe_cal (bs := [none, some 12]) c_play (hr.mono (by decide)) (by rfl) (xab_val (xe_var 7) (xab_lend 12 xab_nil))) xab_nil)) (xe_cal (bs := [none]) c__law_told (hr.mono (by decide)) (by rfl) (xab_val (xe_cal (bs := [none, some 13]) c_play (hr.mono (by decide)) (by rfl) (xab_val (xe_var 7) (xab_lend 13 xab_nil))) xab_nil))) (xb_one (xs_ret xe_bl)) xb_nil)) xb_nil)
    (xb_cons (xs_if (xt_cmp op_gt ops_B (xe_fld T.cl_4 T.na_4_presses (xe_cal (bs := [none, none]) c_play (hr.mono (by decide)) (by rfl) (xab_val (xe_var 6) (xab_val (xe_lst (xa_cons (xe_var 8) xa_nil)) xab_nil)))) (xe_len T.n_len (xe_var 8))) (xb_one (xs_ret xe_bl)) xb_nil)
    (xb_cons (xs_set 14 nd (xe_cal (bs := [none, none]) c_play (hr.mono (by decide)) (by rfl) (xab_val (xe_var 6) (xab_val (xe_lst (xa_cons (xe_var 8) xa_nil)) xab_nil))))
    (xb_cons (xs_setLcV 15 [("_law_one", 16)] (by rfl) nd (xi_list (xe_var 4)) (blkOk_by (N := N_law) (sc := (defScope (top 57))) (by decide +kernel)) (fun _ _ _ _ _ => (xg_name 16 nd)) (fun _ _ _ _ _ => (xts_one (xt_cmp (op_in_str.or op_in_seq) ops_inA (xe_ix (xe_var 16) xe_int) (xe_sl (xe_fld T.cl_4 T.na_4_started (xe_var 14)) (xo_some xe_int) xo_none)))) (fun _ _ _ _ _ => (xe_ix (xe_var 16) xe_int)))
    (xb_one (xs_if (XW.xt (xw_and (xt_cmp op_isN ops_isN (xe_fld T.cl_4 T.na_4_end (xe_var 14)) xe_non) (xw_and (xt_cmp (op_notIn_str.or op_notIn_seq) ops_notInA xe_bl (xe_var 15)) (xw_and1 (xt_cmp (op_neA hr.units) ops_ne (xe_cal (bs := [none]) c__law_told (hr.mono (by decide)) (by rfl) (xab_val (xe_var 14) xab_nil)) (xe_var 10)))))) (xb_one (xs_ret xe_bl)) xb_nil))))))))))))))))))))
    (xb_one (xs_ret xe_bl))))
theorem whole (T : Fx w K mg cl) {f : Addr} {fd : FuncData} (F : Fun K "law" "law" (top 57) f fd) : FnOk Pg w K mg base CX0 9 f fd ["_law_script"] (spF ⟨cl, K⟩ 1 ff_law) := by
  have c__law_choose : Cal Pg w K mg base cl "_law_choose" 1 2 ff_law_choose := c__law_choose T 
  have c__law_one_of : Cal Pg w K mg base cl "_law_one_of" 2 2 ff_law_one_of := c__law_one_of T c__law_choose
  have c__law_deed : Cal Pg w K mg base cl "_law_deed" 3 2 ff_law_deed := c__law_deed T c__law_choose c__law_one_of
  have c__law_mixed : Cal Pg w K mg base cl "_law_mixed" 2 2 ff_law_mixed := c__law_mixed T c__law_choose
  have c__law_menu : Cal Pg w K mg base cl "_law_menu" 4 4 ff_law_menu := c__law_menu T c__law_choose c__law_deed c__law_mixed
  have c__law_board : Cal Pg w K mg base cl "_law_board" 5 3 ff_law_board := c__law_board T c__law_choose c__law_menu c__law_mixed
  have c__law_menu_text : Cal Pg w K mg base cl "_law_menu_text" 1 1 ff_law_menu_text := c__law_menu_text T 
  have c__law_text : Cal Pg w K mg base cl "_law_text" 2 1 ff_law_text := c__law_text T c__law_menu_text
  have c_is_name : Cal Pg w K mg base cl "is_name" 1 1 ff_is_name := c_is_name T 
  have c_action_in : Cal Pg w K mg base cl "action_in" 2 1 ff_action_in := c_action_in T c_is_name
  have c_is_digit : Cal Pg w K mg base cl "is_digit" 1 1 ff_is_digit := c_is_digit T 
  have c_number_in : Cal Pg w K mg base cl "number_in" 2 1 ff_number_in := c_number_in T c_is_digit
  have c_head_in : Cal Pg w K mg base cl "head_in" 3 1 ff_head_in := c_head_in T c_is_name c_number_in
  have c_told_in : Cal Pg w K mg base cl "told_in" 4 2 ff_told_in := c_told_in T c_action_in c_head_in c_is_digit
  have c_are_unlike : Cal Pg w K mg base cl "are_unlike" 1 1 ff_are_unlike := c_are_unlike T 
  have c_deeds_of : Cal Pg w K mg base cl "deeds_of" 1 1 ff_deeds_of := c_deeds_of T 
  have c_is_sequence : Cal Pg w K mg base cl "is_sequence" 1 1 ff_is_sequence := c_is_sequence T 
  have c_named_in : Cal Pg w K mg base cl "named_in" 2 1 ff_named_in := c_named_in T c_deeds_of
  have k_Board : CalC Pg w K mg base cl 1 "Board" 3 2 ff_Board_init := k_Board T c_are_unlike c_deeds_of c_is_sequence c_named_in
  have c_is_row : Cal Pg w K mg base cl "is_row" 3 1 ff_is_row := c_is_row T c_action_in c_is_digit
  have c_are_rows : Cal Pg w K mg base cl "are_rows" 4 1 ff_are_rows := c_are_rows T c_are_unlike c_is_row c_is_sequence
  have c_is_integer : Cal Pg w K mg base cl "is_integer" 1 1 ff_is_integer := c_is_integer T 
  have k_Menu : CalC Pg w K mg base cl 0 "Menu" 5 6 ff_Menu_init := k_Menu T c_action_in c_are_rows c_is_integer c_is_name
  have r_Board_read : CalK Pg w K mg base cl 1 "Board" "read" 7 2 ff_Board_read := r_Board_read T c_told_in k_Board k_Menu
  have c__law_home : Cal Pg w K mg base cl "_law_home" 8 1 ff_law_home := c__law_home T c__law_text r_Board_read
  have c_is_event : Cal Pg w K mg base cl "is_event" 2 1 ff_is_event := c_is_event T c_is_digit
  have m_Board_menu : CalM Pg w K mg base cl 1 "menu" 1 2 ff_Board_menu := m_Board_menu T 
  have m_Call_finish : CalM Pg w K mg base cl 3 "finish" 1 2 ff_Call_finish := m_Call_finish T 
  have m_Call_start : CalM Pg w K mg base cl 3 "start" 2 2 ff_Call_start := m_Call_start T m_Board_menu m_Call_finish
  have k_Call : CalC Pg w K mg base cl 3 "Call" 3 2 ff_Call_init := k_Call T m_Call_start
  have k_Played : CalC Pg w K mg base cl 4 "Played" 1 2 ff_Played_init := k_Played T 
  have m_Call_happen : CalM Pg w K mg base cl 3 "happen" 3 2 ff_Call_happen := m_Call_happen T m_Call_finish m_Call_start
  have m_Call_waste : CalM Pg w K mg base cl 3 "waste" 4 1 ff_Call_waste := m_Call_waste T m_Board_menu m_Call_happen
  have m_Call_press : CalM Pg w K mg base cl 3 "press" 5 2 ff_Call_press := m_Call_press T m_Board_menu m_Call_happen m_Call_waste
  have m_Call_do : CalM Pg w K mg base cl 3 "do" 6 2 ff_Call_do := m_Call_do T m_Call_press m_Call_waste
  have c_play : Cal Pg w K mg base cl "play" 7 2 ff_play := c_play T c_is_event c_is_sequence k_Call k_Played m_Call_do
  have c__law_one_by_one : Cal Pg w K mg base cl "_law_one_by_one" 8 2 ff_law_one_by_one := c__law_one_by_one T c_play
  have c__law_seed : Cal Pg w K mg base cl "_law_seed" 1 2 ff_law_seed := c__law_seed T 
  have c__law_told : Cal Pg w K mg base cl "_law_told" 1 1 ff_law_told := c__law_told T 
  exact o_law T c__law_board c__law_choose c__law_home c__law_one_by_one c__law_one_of c__law_seed c__law_told c_play F
end
end Mh
/-! facts of the top, by one Hook -/
namespace Mh
open PySem L2 He
abbrev Fr := PySem.W.Frag
abbrev AlM : Type := AlD × List (Option (List (Option (Str × Int)))) × Bool
def obsM (fa : List Fa) (fn : List He5.DefA) (ts : List Tab) (ex : Fr → Bool) (K : Fr) : AlM := (He5.obsA fa fn K, ts.map fun t => dicW K (t.1 K), ex K)
def valM (fn : List He5.DefA) (ts : List Tab) (w : World) : AlM := (He5.valA fn, ts.map fun t => some (keysIn w.params t.2), true)
def SaysM (fa : List Fa) (fn : List He5.DefA) (ts : List Tab) (ex : Fr → Bool) (w : World) (K : Fr) : Prop := obsM fa fn ts ex K = valM fn ts w
def obsMG (n : Nat) (fa : List Fa) (fn : List He5.DefA) (ts : List Tab) (ex : Fr → Bool) (g : Addr → Option Obj) : AlM := obsM fa fn ts ex (frG g (He5.asA g n))
def hookM (n : Nat) (fa : List Fa) (fn : List He5.DefA) (ts : List Tab) (ex : Fr → Bool) : PySem.W.Hook where
  α := AlM
  obs := fun s => obsMG n fa fn ts ex s.heap.get?
  val := fun w => valM fn ts w
  says := fun w h => ∃ K : Fr, K.In h ∧ SaysM fa fn ts ex w K
  of := fun _ _ e => ⟨_, frG_in, e⟩
  keeps := fun _ _ _ ⟨K, hK, c⟩ k => ⟨K, PySem.W.Frag.In.keeps hK k, c⟩
theorem obsMG_eq {n : Nat} {fa : List Fa} {fn : List He5.DefA} {ts : List Tab} {ex : Fr → Bool} {g : Addr → Option Obj} {s : Shared} (h : ∀ a, g a = s.heap.get? a) : obsMG n fa fn ts ex g = (hookM n fa fn ts ex).obs s := by
  have e : g = s.heap.get? := funext h
  rw [e] <;> rfl
section
variable {fa : List Fa} {fn : List He5.DefA} {ts : List Tab} {ex : Fr → Bool} {w : World} {K : Fr}
theorem SaysM.a (c : SaysM fa fn ts ex w K) : He5.SaysA fa fn K := congrArg (fun z : AlM => z.1) c
theorem SaysM.more (c : SaysM fa fn ts ex w K) : ex K = true := congrArg (fun z : AlM => z.2.2) c
theorem SaysM.fact (c : SaysM fa fn ts ex w K) (i : Nat) {f : Fa} (h : fa[i]? = some f := by rfl) : f.ok K = true := c.a.fact i h
theorem SaysM.def_ (c : SaysM fa fn ts ex w K) (i : Nat) {d : He5.DefA} (h : fn[i]? = some d := by rfl) : ∃ fd, FunD K d.name d.qual d.params d.body d.scope (d.dvs K) (d.kws K) (d.at_ K) fd := c.a.def_ i h
theorem SaysM.fun_ (c : SaysM fa fn ts ex w K) (i : Nat) {at_ : Fr → Addr} {x q : Str} {st : Stmt} (h : fn[i]? = some ⟨at_, x, q, defArgs st, defBody st, defScope st, [], []⟩ := by rfl) : ∃ fd, L2.Fun K x q st (at_ K) fd := by
  obtain ⟨fd, F⟩ := c.def_ i h
  exact ⟨fd, He5.fun_of F⟩
theorem dicW_keys {a : Addr} {ks : List Str} (h : dicW K a = some (keysIn w.params ks)) : ∃ es n, KDict K w a es n ∧ es.toList.map He.keyOf = keysIn w.params ks := by
  obtain ⟨es, n, D⟩ := He.dicW_ok h
  refine ⟨es, n, D, ?_⟩
  unfold dicW at h
  rw [D.at_] at h
  have h1 : (match decide (("dict" : String) = "dict") && ((#[] : Array (Option Value)).isEmpty && !(a == sysModules)) with
            | true => some (es.toList.map He.keyOf)
            | false => none) = some (keysIn w.params ks) := h
  rw [D.low] at h1
  simpa using h1
theorem SaysM.tab (c : SaysM fa fn ts ex w K) (i : Nat) {t : Tab} (h : ts[i]? = some t := by rfl) : ∃ es n, KDict K w (t.1 K) es n ∧ es.toList.map He.keyOf = keysIn w.params t.2 := by
  have e : ts.map (fun t => dicW K (t.1 K)) = ts.map fun t => some (keysIn w.params t.2) := congrArg (fun z : AlM => z.2.1) c
  have e2 : (ts.map fun t => dicW K (t.1 K))[i]? = (ts.map fun t => some (keysIn w.params t.2))[i]? := by rw [e]
  rw [List.getElem?_map, List.getElem?_map, h] at e2
  exact dicW_keys (Option.some.inj e2)
end
theorem find_none {P : Params} {z : Str} : ∀ {l : List DictEntry} {ks : List Str}, l.map He.keyOf = keysIn P ks → z ∉ ks → l.find? (·.key.isStr z) = none ∧ l.any (·.refKey) = false
  | [], _, _, _ => ⟨rfl, rfl⟩
  | e :: r, [], h, _ => by cases h
  | e :: r, k :: ks, h, hz => by
    have h1 : He.keyOf e :: r.map He.keyOf = some (k, PyData.keyHash P k) :: keysIn P ks := h
    injection h1 with h2 h3
    obtain ⟨i1, i2⟩ := find_none h3 fun hm => hz (List.mem_cons_of_mem _ hm)
    unfold He.keyOf at h2
    split at h2
    · rename_i x t q
      have h4 := Option.some.inj h2
      obtain ⟨h5, h6⟩ := Prod.mk.inj h4
      have ne : ¬ x = z := fun e => hz (by rw [← h5, e]; exact List.mem_cons_self)
      refine ⟨?_, ?_⟩
      · rw [List.find?_cons_of_neg (by rw [q]; simpa [Value.isStr] using ne)]
        exact i1
      · rw [List.any_cons, i2, Bool.or_false]
        unfold DictEntry.refKey
        rw [q]
    · cases h2
/-- a written dict, text to int -/
theorem ktb_of {K : Fr} {w : World} {a : Addr} {kvs : List (Str × Int)} (h : ∃ es n, KDict K w a es n ∧ es.toList.map He.keyOf = keysIn w.params (kvs.map (·.1))) (v : valsB K a (kvs.map fun q => (q.1, .int q.2)) = true) : ∃ es n, KTb K w a es n fun z => kvs.lookup z := by
  obtain ⟨es, n, D, e⟩ := h
  refine ⟨es, n, D, fun z => ?_⟩
  cases q : kvs.lookup z with
  | some i =>
    have hm : (z, i) ∈ kvs := by
      clear v e D
      induction kvs with
      | nil => cases q
      | cons p r ih =>
        obtain ⟨x, y⟩ := p
        rw [List.lookup_cons] at q
        cases hb : z == x with
        | true => rw [hb] at q; cases q; rw [eq_of_beq hb]; exact List.mem_cons_self
        | false => rw [hb] at q; exact List.mem_cons_of_mem _ (ih q)
    obtain ⟨u, h1, h2⟩ := He.valsB_ok v (List.mem_map_of_mem hm)
    exact ⟨some u, h1, rfl, fun j hj => by cases hj; exact ⟨u, rfl, h2⟩⟩
  | none =>
    have hz : z ∉ kvs.map (·.1) := by
      clear v e D
      induction kvs with
      | nil => simp
      | cons p r ih =>
        obtain ⟨x, y⟩ := p
        rw [List.lookup_cons] at q
        cases hb : z == x with
        | true => rw [hb] at q; cases q
        | false =>
          rw [hb] at q
          rw [List.map_cons, List.mem_cons, not_or]
          exact ⟨ne_of_beq_false hb, ih q⟩
    obtain ⟨f1, f2⟩ := find_none e hz
    refine ⟨none, ?_, rfl, fun j hj => by cases hj⟩
    unfold PySem.W.nsIn
    rw [D.at_]
    simp only [f1, f2]
    rfl
/-! ### classes -/
def kits : List String := ["NoneType", "bool", "int", "str", "tuple", "list", "dict"]
def inB (K : Fr) (x : Str) : Bool := He.eqO (PySem.W.findIn K (.ref (ga K x)) "__class__") (some (some (.builtin "object.__class__"))) && (He.eqO (PySem.W.specialIn K (.builtin "object.__class__") "__get__") (some (some (.builtin "getset_descriptor.__get__"))) &&
  (decide (PySem.W.takesIn K (.builtin "object.__class__") = some true) && (decide (PySem.W.mroIn K (ga K x) (.type "object") = some true) && (decide (PySem.W.kitOne K (.ref (ga K x)) (.ref (ga K x)) = some true) && kits.all fun t => decide (PySem.W.kitOne K (.type t) (.ref (ga K x)) = some false)))))
theorem inB_ok {K : Fr} {x : Str} (c : Cls K (ga K x)) (h : inB K x = true) : InC K (ga K x) := by
  obtain ⟨h1, h⟩ := He.ba h
  obtain ⟨h2, h⟩ := He.ba h
  obtain ⟨h3, h⟩ := He.ba h
  obtain ⟨h4, h⟩ := He.ba h
  obtain ⟨h5, h6⟩ := He.ba h
  exact ⟨⟨c, He.eqO_ok h1, He.eqO_ok h2, of_decide_eq_true h3, of_decide_eq_true h4, of_decide_eq_true h5⟩, fun t ht => of_decide_eq_true (List.all_eq_true.mp h6 t ht)⟩
def eqCB (K : Fr) (x : Str) : Bool := He.eqO (PySem.W.findIn K (.ref (ga K x)) "__eq__") (some (some (.ref (ma K (ga K x) "__eq__")))) && (He.eqO (PySem.W.findIn K (.ref (ga K x)) "__ne__") (some (some (.builtin "object.__ne__"))) &&
  (PySem.W.isFn K (.ref (ma K (ga K x) "__eq__")) && (decide (PySem.W.subIn K (.ref (ga K x)) (.type "object") = some true) && decide (PySem.W.subIn K (.ref (ga K x)) (.type "str") = some false))))
theorem eqCB_ok {K : Fr} {x : Str} (h : eqCB K x = true) : EqC K (ga K x) (ma K (ga K x) "__eq__") := by
  obtain ⟨h1, h⟩ := He.ba h
  obtain ⟨h2, h⟩ := He.ba h
  obtain ⟨h3, h⟩ := He.ba h
  obtain ⟨h4, h5⟩ := He.ba h
  exact ⟨He.eqO_ok h1, He.eqO_ok h2, h3, of_decide_eq_true h4, of_decide_eq_true h5⟩
def stCB (K : Fr) (x : Str) : Bool := He.eqO (PySem.W.findIn K (.ref (ga K x)) "__str__") (some (some (.ref (ma K (ga K x) "__str__")))) && PySem.W.isFn K (.ref (ma K (ga K x) "__str__"))
theorem stCB_ok {K : Fr} {x : Str} (h : stCB K x = true) : StC K (ga K x) (ma K (ga K x) "__str__") := by
  obtain ⟨h1, h2⟩ := He.ba h
  exact ⟨He.eqO_ok h1, h2⟩
def crB (K : Fr) (x : Str) : Bool := PySem.W.readsIn K (ga K x) (.type "type")
theorem crB_ok {K : Fr} {x : Str} (h : crB K x = true) : ClX.CRead K (ga K x) (.type "type") := by
  have h0 : PySem.W.readsIn K (ga K x) (.type "type") = true := h
  refine ⟨h0, ?_⟩
  unfold PySem.W.readsIn at h0
  obtain ⟨h0, _⟩ := He.ba h0
  obtain ⟨h0, _⟩ := He.ba h0
  obtain ⟨h0, h3⟩ := He.ba h0
  obtain ⟨_, h2⟩ := He.ba h0
  unfold PySem.W.specialIn
  rw [beq_iff_eq.mp h2, Option.bind_some]
  exact beq_iff_eq.mp h3
/-- a classmethod's def -/
abbrev cmA (x m : Str) (K : Fr) : Addr := He5.wf K (ga K x) "classmethod" m
def cmB (K : Fr) (x m : Str) : Bool := He5.wrapB K (ga K x) "classmethod" "classmethod.__get__" m && PySem.W.fnIn K (cmA x m K)
theorem cmB_ok {K : Fr} {x m : Str} (h : cmB K x m = true) : ClX.CMet K (ga K x) (.type "type") m (ma K (ga K x) m) (cmA x m K) := by
  obtain ⟨h1, h2⟩ := He.ba h
  exact He5.cmet_of h1 h2
/-! ### the module's constants -/
section
variable {K : Fr} {h : Heap} {mg : Str → Option Value} {cl : Nat → Addr}
theorem gd_str (X : K.In h) (G : h.Ns mainGlobals mg) {x z : Str} (c : (Fa.str x z).ok K = true) : GD cl K mg x (.str z) := by
  obtain ⟨t, e⟩ := He.str_ok X G c
  exact ⟨.str z, _, e, ⟨t, rfl⟩, fun B => .str z⟩
theorem gd_int (X : K.In h) (G : h.Ns mainGlobals mg) {x : Str} {i : Int} (c : (Fa.int x i).ok K = true) : GD cl K mg x (.int i) := by
  obtain ⟨t, e⟩ := He.int_ok X G c
  exact ⟨.int i, _, e, ⟨t, rfl⟩, fun B => .int i⟩
theorem gd_tup (X : K.In h) (G : h.Ns mainGlobals mg) {x : Str} {zs : List Str} (c : (Fa.glo x).ok K = true) (b : tupB K x (zs.map .str) = true) : GD cl K mg x (.tup (zs.map .str)) := by
  refine ⟨.ref (ga K x), _, He.glo_ok X G c, rfl, fun B => .tup (vs := zs.map V.str) ?_ (RepL.of_strs zs)⟩
  have := He.tupB_ok b B
  rw [List.map_map] at this
  exact this
end
abbrev topAt (m x : Str) (K : Fr) : Addr := ma K (ga K x) m
abbrev gloAt (x : Str) (K : Fr) : Addr := ga K x
end Mh
namespace Mh
open PySem L2 He
def clN : Nat → Str
  | 0 => "Menu"
  | 1 => "Board"
  | 3 => "Call"
  | 4 => "Played"
  | _ => ""
def clA (K : Fr) : Nat → Addr := fun c => ga K (clN c)
def hfa : List Fa := [.glo "_law_choose", .glo "_law_one_of", .glo "_law_deed", .glo "_law_mixed", .glo "_law_menu", .glo "_law_board", .glo "_law_menu_text", .glo "_law_text", .glo "is_name", .glo "action_in", .glo "is_digit", .glo "number_in", .glo "head_in", .glo "told_in", .glo "are_unlike", .glo "deeds_of", .glo "is_sequence", .glo "named_in", .glo "Board", .mkr "Board", .glo "is_row", .glo "are_rows", .glo "is_integer", .glo "Menu", .mkr "Menu", .glo "_law_home", .glo "is_event", .meth "Board" "menu", .meth "Call" "finish", .meth "Call" "start", .glo "Call", .mkr "Call", .glo "Played", .mkr "Played", .meth "Call" "happen", .meth "Call" "waste", .meth "Call" "press", .meth "Call" "do", .glo "play", .glo "_law_one_by_one", .glo "_law_seed", .glo "_law_told", .glo "law", .free "abs", .free "all", .free "bool", .free "enumerate", .free "int", .free "isinstance", .free "len", .free "list", .free "max", .free "min", .free "range", .free "set", .free "sorted", .free "str", .free "tuple", .glo "ALONE", .glo "BARRED", .str "LETTERS" "abcdefghijklmnopqrstuvwxyz", .glo "MANY_NAMES", .int "MOST_LETTERS" 4, .str "SIGNS" "0123456789", .cls "Board", .cls "Call", .cls "Menu", .cls "Played", .noat "Menu" "clears", .noat "Menu" "deeds", .noat "Menu" "last", .noat "Menu" "name", .noat "Menu" "rows", .noat "Menu" "tail", .noat "Menu" "tries", .noat "Board" "first", .noat "Board" "lines", .noat "Board" "menus", .noat "Board" "names", .noat "Call" "deep", .noat "Call" "many", .noat "Call" "over", .noat "Call" "pending", .noat "Call" "plan", .noat "Call" "rest", .noat "Call" "started_names", .noat "Played" "end", .noat "Played" "presses", .noat "Played" "stack", .noat "Played" "started", .noat "Played" "tries"]
def fnD_0 : He5.DefA := ⟨(gloAt "_law_choose"), "_law_choose", "_law_choose", defArgs (top 39), defBody (top 39), defScope (top 39), [], []⟩
def fnD_1 : He5.DefA := ⟨(gloAt "_law_one_of"), "_law_one_of", "_law_one_of", defArgs (top 40), defBody (top 40), defScope (top 40), [], []⟩
def fnD_2 : He5.DefA := ⟨(gloAt "_law_deed"), "_law_deed", "_law_deed", defArgs (top 42), defBody (top 42), defScope (top 42), [], []⟩
def fnD_3 : He5.DefA := ⟨(gloAt "_law_mixed"), "_law_mixed", "_law_mixed", defArgs (top 41), defBody (top 41), defScope (top 41), [], []⟩
def fnD_4 : He5.DefA := ⟨(gloAt "_law_menu"), "_law_menu", "_law_menu", defArgs (top 43), defBody (top 43), defScope (top 43), [], []⟩
def fnD_5 : He5.DefA := ⟨(gloAt "_law_board"), "_law_board", "_law_board", defArgs (top 44), defBody (top 44), defScope (top 44), [], []⟩
def fnD_6 : He5.DefA := ⟨(gloAt "_law_menu_text"), "_law_menu_text", "_law_menu_text", defArgs (top 45), defBody (top 45), defScope (top 45), [], []⟩
def fnD_7 : He5.DefA := ⟨(gloAt "_law_text"), "_law_text", "_law_text", defArgs (top 46), defBody (top 46), defScope (top 46), [], []⟩
def fnD_8 : He5.DefA := ⟨(gloAt "is_name"), "is_name", "is_name", defArgs (top 16), defBody (top 16), defScope (top 16), [], []⟩
def fnD_9 : He5.DefA := ⟨(gloAt "action_in"), "action_in", "action_in", defArgs (top 21), defBody (top 21), defScope (top 21), [], []⟩
def fnD_10 : He5.DefA := ⟨(gloAt "is_digit"), "is_digit", "is_digit", defArgs (top 17), defBody (top 17), defScope (top 17), [], []⟩
def fnD_11 : He5.DefA := ⟨(gloAt "number_in"), "number_in", "number_in", defArgs (top 20), defBody (top 20), defScope (top 20), [], []⟩
def fnD_12 : He5.DefA := ⟨(gloAt "head_in"), "head_in", "head_in", defArgs (top 30), defBody (top 30), defScope (top 30), [], []⟩
def fnD_13 : He5.DefA := ⟨(gloAt "told_in"), "told_in", "told_in", defArgs (top 31), defBody (top 31), defScope (top 31), [], []⟩
def fnD_14 : He5.DefA := ⟨(gloAt "are_unlike"), "are_unlike", "are_unlike", defArgs (top 19), defBody (top 19), defScope (top 19), [], []⟩
def fnD_15 : He5.DefA := ⟨(gloAt "deeds_of"), "deeds_of", "deeds_of", defArgs (top 34), defBody (top 34), defScope (top 34), [], []⟩
def fnD_16 : He5.DefA := ⟨(gloAt "is_sequence"), "is_sequence", "is_sequence", defArgs (top 18), defBody (top 18), defScope (top 18), [], []⟩
def fnD_17 : He5.DefA := ⟨(gloAt "named_in"), "named_in", "named_in", defArgs (top 35), defBody (top 35), defScope (top 35), [], []⟩
def fnD_18 : He5.DefA := ⟨(topAt "__init__" "Board"), "__init__", "Board.__init__", defArgs (mtop 36 0), defBody (mtop 36 0), defScope (mtop 36 0), [], []⟩
def fnD_19 : He5.DefA := ⟨(gloAt "is_row"), "is_row", "is_row", defArgs (top 28), defBody (top 28), defScope (top 28), [], []⟩
def fnD_20 : He5.DefA := ⟨(gloAt "are_rows"), "are_rows", "are_rows", defArgs (top 29), defBody (top 29), defScope (top 29), [], []⟩
def fnD_21 : He5.DefA := ⟨(gloAt "is_integer"), "is_integer", "is_integer", defArgs (top 15), defBody (top 15), defScope (top 15), [], []⟩
def fnD_22 : He5.DefA := ⟨(topAt "__init__" "Menu"), "__init__", "Menu.__init__", defArgs (mtop 32 0), defBody (mtop 32 0), defScope (mtop 32 0), [(.int 1), (.bl false)], []⟩
def fnD_23 : He5.DefA := ⟨(cmA "Board" "read"), "read", "Board.read", defArgs (mtop 36 1), defBody (mtop 36 1), defScope (mtop 36 1), [], []⟩
def fnD_24 : He5.DefA := ⟨(gloAt "_law_home"), "_law_home", "_law_home", defArgs (top 55), defBody (top 55), defScope (top 55), [], []⟩
def fnD_25 : He5.DefA := ⟨(gloAt "is_event"), "is_event", "is_event", defArgs (top 23), defBody (top 23), defScope (top 23), [], []⟩
def fnD_26 : He5.DefA := ⟨(topAt "menu" "Board"), "menu", "Board.menu", defArgs (mtop 36 2), defBody (mtop 36 2), defScope (mtop 36 2), [], []⟩
def fnD_27 : He5.DefA := ⟨(topAt "finish" "Call"), "finish", "Call.finish", defArgs (mtop 24 2), defBody (mtop 24 2), defScope (mtop 24 2), [], []⟩
def fnD_28 : He5.DefA := ⟨(topAt "start" "Call"), "start", "Call.start", defArgs (mtop 24 1), defBody (mtop 24 1), defScope (mtop 24 1), [], []⟩
def fnD_29 : He5.DefA := ⟨(topAt "__init__" "Call"), "__init__", "Call.__init__", defArgs (mtop 24 0), defBody (mtop 24 0), defScope (mtop 24 0), [], []⟩
def fnD_30 : He5.DefA := ⟨(topAt "__init__" "Played"), "__init__", "Played.__init__", defArgs (mtop 25 0), defBody (mtop 25 0), defScope (mtop 25 0), [], []⟩
def fnD_31 : He5.DefA := ⟨(topAt "happen" "Call"), "happen", "Call.happen", defArgs (mtop 24 3), defBody (mtop 24 3), defScope (mtop 24 3), [], []⟩
def fnD_32 : He5.DefA := ⟨(topAt "waste" "Call"), "waste", "Call.waste", defArgs (mtop 24 4), defBody (mtop 24 4), defScope (mtop 24 4), [], []⟩
def fnD_33 : He5.DefA := ⟨(topAt "press" "Call"), "press", "Call.press", defArgs (mtop 24 5), defBody (mtop 24 5), defScope (mtop 24 5), [], []⟩
def fnD_34 : He5.DefA := ⟨(topAt "do" "Call"), "do", "Call.do", defArgs (mtop 24 6), defBody (mtop 24 6), defScope (mtop 24 6), [], []⟩
def fnD_35 : He5.DefA := ⟨(gloAt "play"), "play", "play", defArgs (top 26), defBody (top 26), defScope (top 26), [], []⟩
def fnD_36 : He5.DefA := ⟨(gloAt "_law_one_by_one"), "_law_one_by_one", "_law_one_by_one", defArgs (top 56), defBody (top 56), defScope (top 56), [], []⟩
def fnD_37 : He5.DefA := ⟨(gloAt "_law_seed"), "_law_seed", "_law_seed", defArgs (top 38), defBody (top 38), defScope (top 38), [], []⟩
def fnD_38 : He5.DefA := ⟨(gloAt "_law_told"), "_law_told", "_law_told", defArgs (top 54), defBody (top 54), defScope (top 54), [], []⟩
def fnD_39 : He5.DefA := ⟨(gloAt "law"), "law", "law", defArgs (top 57), defBody (top 57), defScope (top 57), [], []⟩
def hfn : List He5.DefA := [fnD_0, fnD_1, fnD_2, fnD_3, fnD_4, fnD_5, fnD_6, fnD_7, fnD_8, fnD_9, fnD_10, fnD_11, fnD_12, fnD_13, fnD_14, fnD_15, fnD_16, fnD_17, fnD_18, fnD_19, fnD_20, fnD_21, fnD_22, fnD_23, fnD_24, fnD_25, fnD_26, fnD_27, fnD_28, fnD_29, fnD_30, fnD_31, fnD_32, fnD_33, fnD_34, fnD_35, fnD_36, fnD_37, fnD_38, fnD_39]
def hts : List Tab := [(gloAt "MANY_NAMES", kv_MANY_NAMES.map (·.1))]
def hex (K : Fr) : Bool := ([crB K "Board", cmB K "Board" "read", tupB K "ALONE" ((["out", "again", "main", "back"] : List Str).map .str), tupB K "BARRED" ((["line", "out", "main", "back", "go", "call", "menu", "else", "none"] : List Str).map .str), valsB K (ga K "MANY_NAMES") (kv_MANY_NAMES.map fun q => (q.1, .int q.2)), inB K "Board", inB K "Call", inB K "Menu", inB K "Played"] : List Bool).all id
theorem ex_0 {w : World} {K : Fr} (c : SaysM hfa hfn hts hex w K) : (crB K "Board") = true := List.all_eq_true.mp c.more _ (List.mem_of_getElem? (i := 0) rfl)
theorem ex_1 {w : World} {K : Fr} (c : SaysM hfa hfn hts hex w K) : (cmB K "Board" "read") = true := List.all_eq_true.mp c.more _ (List.mem_of_getElem? (i := 1) rfl)
theorem ex_2 {w : World} {K : Fr} (c : SaysM hfa hfn hts hex w K) : (tupB K "ALONE" ((["out", "again", "main", "back"] : List Str).map .str)) = true := List.all_eq_true.mp c.more _ (List.mem_of_getElem? (i := 2) rfl)
theorem ex_3 {w : World} {K : Fr} (c : SaysM hfa hfn hts hex w K) : (tupB K "BARRED" ((["line", "out", "main", "back", "go", "call", "menu", "else", "none"] : List Str).map .str)) = true := List.all_eq_true.mp c.more _ (List.mem_of_getElem? (i := 3) rfl)
theorem ex_4 {w : World} {K : Fr} (c : SaysM hfa hfn hts hex w K) : (valsB K (ga K "MANY_NAMES") (kv_MANY_NAMES.map fun q => (q.1, .int q.2))) = true := List.all_eq_true.mp c.more _ (List.mem_of_getElem? (i := 4) rfl)
theorem ex_5 {w : World} {K : Fr} (c : SaysM hfa hfn hts hex w K) : (inB K "Board") = true := List.all_eq_true.mp c.more _ (List.mem_of_getElem? (i := 5) rfl)
theorem ex_6 {w : World} {K : Fr} (c : SaysM hfa hfn hts hex w K) : (inB K "Call") = true := List.all_eq_true.mp c.more _ (List.mem_of_getElem? (i := 6) rfl)
theorem ex_7 {w : World} {K : Fr} (c : SaysM hfa hfn hts hex w K) : (inB K "Menu") = true := List.all_eq_true.mp c.more _ (List.mem_of_getElem? (i := 7) rfl)
theorem ex_8 {w : World} {K : Fr} (c : SaysM hfa hfn hts hex w K) : (inB K "Played") = true := List.all_eq_true.mp c.more _ (List.mem_of_getElem? (i := 8) rfl)
theorem fx_of {w : World} {K : Fr} {h : Heap} {mg : Str → Option Value} (X : K.In h) (G : h.Ns mainGlobals mg) (c : SaysM hfa hfn hts hex w K) : Fx w K mg (clA K) where
  fu__law_choose := by
    obtain ⟨fd, F⟩ := c.fun_ 0 rfl
    exact ⟨_, fd, He.glo_ok X G (c.fact 0 (f := .glo "_law_choose") rfl), F⟩
  fu__law_one_of := by
    obtain ⟨fd, F⟩ := c.fun_ 1 rfl
    exact ⟨_, fd, He.glo_ok X G (c.fact 1 (f := .glo "_law_one_of") rfl), F⟩
  fu__law_deed := by
    obtain ⟨fd, F⟩ := c.fun_ 2 rfl
    exact ⟨_, fd, He.glo_ok X G (c.fact 2 (f := .glo "_law_deed") rfl), F⟩
  fu__law_mixed := by
    obtain ⟨fd, F⟩ := c.fun_ 3 rfl
    exact ⟨_, fd, He.glo_ok X G (c.fact 3 (f := .glo "_law_mixed") rfl), F⟩
  fu__law_menu := by
    obtain ⟨fd, F⟩ := c.fun_ 4 rfl
    exact ⟨_, fd, He.glo_ok X G (c.fact 4 (f := .glo "_law_menu") rfl), F⟩
  fu__law_board := by
    obtain ⟨fd, F⟩ := c.fun_ 5 rfl
    exact ⟨_, fd, He.glo_ok X G (c.fact 5 (f := .glo "_law_board") rfl), F⟩
  fu__law_menu_text := by
    obtain ⟨fd, F⟩ := c.fun_ 6 rfl
    exact ⟨_, fd, He.glo_ok X G (c.fact 6 (f := .glo "_law_menu_text") rfl), F⟩
  fu__law_text := by
    obtain ⟨fd, F⟩ := c.fun_ 7 rfl
    exact ⟨_, fd, He.glo_ok X G (c.fact 7 (f := .glo "_law_text") rfl), F⟩
  fu_is_name := by
    obtain ⟨fd, F⟩ := c.fun_ 8 rfl
    exact ⟨_, fd, He.glo_ok X G (c.fact 8 (f := .glo "is_name") rfl), F⟩
  fu_action_in := by
    obtain ⟨fd, F⟩ := c.fun_ 9 rfl
    exact ⟨_, fd, He.glo_ok X G (c.fact 9 (f := .glo "action_in") rfl), F⟩
  fu_is_digit := by
    obtain ⟨fd, F⟩ := c.fun_ 10 rfl
    exact ⟨_, fd, He.glo_ok X G (c.fact 10 (f := .glo "is_digit") rfl), F⟩
  fu_number_in := by
    obtain ⟨fd, F⟩ := c.fun_ 11 rfl
    exact ⟨_, fd, He.glo_ok X G (c.fact 11 (f := .glo "number_in") rfl), F⟩
  fu_head_in := by
    obtain ⟨fd, F⟩ := c.fun_ 12 rfl
    exact ⟨_, fd, He.glo_ok X G (c.fact 12 (f := .glo "head_in") rfl), F⟩
  fu_told_in := by
    obtain ⟨fd, F⟩ := c.fun_ 13 rfl
    exact ⟨_, fd, He.glo_ok X G (c.fact 13 (f := .glo "told_in") rfl), F⟩
  fu_are_unlike := by
    obtain ⟨fd, F⟩ := c.fun_ 14 rfl
    exact ⟨_, fd, He.glo_ok X G (c.fact 14 (f := .glo "are_unlike") rfl), F⟩
  fu_deeds_of := by
    obtain ⟨fd, F⟩ := c.fun_ 15 rfl
    exact ⟨_, fd, He.glo_ok X G (c.fact 15 (f := .glo "deeds_of") rfl), F⟩
  fu_is_sequence := by
    obtain ⟨fd, F⟩ := c.fun_ 16 rfl
    exact ⟨_, fd, He.glo_ok X G (c.fact 16 (f := .glo "is_sequence") rfl), F⟩
  fu_named_in := by
    obtain ⟨fd, F⟩ := c.fun_ 17 rfl
    exact ⟨_, fd, He.glo_ok X G (c.fact 17 (f := .glo "named_in") rfl), F⟩
  mk_1 := by
    obtain ⟨fd, F⟩ := c.fun_ 18 rfl
    exact ⟨_, fd, He.glo_ok X G (c.fact 18 (f := .glo "Board") rfl), He.mkr_ok (c.fact 19 (f := .mkr "Board") rfl), F⟩
  fu_is_row := by
    obtain ⟨fd, F⟩ := c.fun_ 19 rfl
    exact ⟨_, fd, He.glo_ok X G (c.fact 20 (f := .glo "is_row") rfl), F⟩
  fu_are_rows := by
    obtain ⟨fd, F⟩ := c.fun_ 20 rfl
    exact ⟨_, fd, He.glo_ok X G (c.fact 21 (f := .glo "are_rows") rfl), F⟩
  fu_is_integer := by
    obtain ⟨fd, F⟩ := c.fun_ 21 rfl
    exact ⟨_, fd, He.glo_ok X G (c.fact 22 (f := .glo "is_integer") rfl), F⟩
  mk_0 := by
    obtain ⟨fd, F⟩ := c.def_ 22 (d := fnD_22) rfl
    exact ⟨_, fd, He.glo_ok X G (c.fact 23 (f := .glo "Menu") rfl), He.mkr_ok (c.fact 24 (f := .mkr "Menu") rfl), F⟩
  cm_1_read := by
    obtain ⟨fd, F⟩ := c.fun_ 23 rfl
    exact ⟨_, fd, _, _, He.glo_ok X G (c.fact 18 (f := .glo "Board") rfl), crB_ok (ex_0 c), cmB_ok (ex_1 c), F⟩
  fu__law_home := by
    obtain ⟨fd, F⟩ := c.fun_ 24 rfl
    exact ⟨_, fd, He.glo_ok X G (c.fact 25 (f := .glo "_law_home") rfl), F⟩
  fu_is_event := by
    obtain ⟨fd, F⟩ := c.fun_ 25 rfl
    exact ⟨_, fd, He.glo_ok X G (c.fact 26 (f := .glo "is_event") rfl), F⟩
  me_1_menu := by
    obtain ⟨fd, F⟩ := c.fun_ 26 rfl
    exact ⟨_, fd, He.meth_ok (c.fact 27 (f := .meth "Board" "menu") rfl), F⟩
  me_3_finish := by
    obtain ⟨fd, F⟩ := c.fun_ 27 rfl
    exact ⟨_, fd, He.meth_ok (c.fact 28 (f := .meth "Call" "finish") rfl), F⟩
  me_3_start := by
    obtain ⟨fd, F⟩ := c.fun_ 28 rfl
    exact ⟨_, fd, He.meth_ok (c.fact 29 (f := .meth "Call" "start") rfl), F⟩
  mk_3 := by
    obtain ⟨fd, F⟩ := c.fun_ 29 rfl
    exact ⟨_, fd, He.glo_ok X G (c.fact 30 (f := .glo "Call") rfl), He.mkr_ok (c.fact 31 (f := .mkr "Call") rfl), F⟩
  mk_4 := by
    obtain ⟨fd, F⟩ := c.fun_ 30 rfl
    exact ⟨_, fd, He.glo_ok X G (c.fact 32 (f := .glo "Played") rfl), He.mkr_ok (c.fact 33 (f := .mkr "Played") rfl), F⟩
  me_3_happen := by
    obtain ⟨fd, F⟩ := c.fun_ 31 rfl
    exact ⟨_, fd, He.meth_ok (c.fact 34 (f := .meth "Call" "happen") rfl), F⟩
  me_3_waste := by
    obtain ⟨fd, F⟩ := c.fun_ 32 rfl
    exact ⟨_, fd, He.meth_ok (c.fact 35 (f := .meth "Call" "waste") rfl), F⟩
  me_3_press := by
    obtain ⟨fd, F⟩ := c.fun_ 33 rfl
    exact ⟨_, fd, He.meth_ok (c.fact 36 (f := .meth "Call" "press") rfl), F⟩
  me_3_do := by
    obtain ⟨fd, F⟩ := c.fun_ 34 rfl
    exact ⟨_, fd, He.meth_ok (c.fact 37 (f := .meth "Call" "do") rfl), F⟩
  fu_play := by
    obtain ⟨fd, F⟩ := c.fun_ 35 rfl
    exact ⟨_, fd, He.glo_ok X G (c.fact 38 (f := .glo "play") rfl), F⟩
  fu__law_one_by_one := by
    obtain ⟨fd, F⟩ := c.fun_ 36 rfl
    exact ⟨_, fd, He.glo_ok X G (c.fact 39 (f := .glo "_law_one_by_one") rfl), F⟩
  fu__law_seed := by
    obtain ⟨fd, F⟩ := c.fun_ 37 rfl
    exact ⟨_, fd, He.glo_ok X G (c.fact 40 (f := .glo "_law_seed") rfl), F⟩
  fu__law_told := by
    obtain ⟨fd, F⟩ := c.fun_ 38 rfl
    exact ⟨_, fd, He.glo_ok X G (c.fact 41 (f := .glo "_law_told") rfl), F⟩
  fu_law := by
    obtain ⟨fd, F⟩ := c.fun_ 39 rfl
    exact ⟨_, fd, He.glo_ok X G (c.fact 42 (f := .glo "law") rfl), F⟩
  n_abs := He.free_ok X G (c.fact 43 (f := .free "abs") rfl)
  n_all := He.free_ok X G (c.fact 44 (f := .free "all") rfl)
  n_bool := He.free_ok X G (c.fact 45 (f := .free "bool") rfl)
  n_enumerate := He.free_ok X G (c.fact 46 (f := .free "enumerate") rfl)
  n_int := He.free_ok X G (c.fact 47 (f := .free "int") rfl)
  n_isinstance := He.free_ok X G (c.fact 48 (f := .free "isinstance") rfl)
  n_len := He.free_ok X G (c.fact 49 (f := .free "len") rfl)
  n_list := He.free_ok X G (c.fact 50 (f := .free "list") rfl)
  n_max := He.free_ok X G (c.fact 51 (f := .free "max") rfl)
  n_min := He.free_ok X G (c.fact 52 (f := .free "min") rfl)
  n_range := He.free_ok X G (c.fact 53 (f := .free "range") rfl)
  n_set := He.free_ok X G (c.fact 54 (f := .free "set") rfl)
  n_sorted := He.free_ok X G (c.fact 55 (f := .free "sorted") rfl)
  n_str := He.free_ok X G (c.fact 56 (f := .free "str") rfl)
  n_tuple := He.free_ok X G (c.fact 57 (f := .free "tuple") rfl)
  g_ALONE := gd_tup (zs := ["out", "again", "main", "back"]) X G (c.fact 58 (f := .glo "ALONE") rfl) (ex_2 c)
  g_BARRED := gd_tup (zs := ["line", "out", "main", "back", "go", "call", "menu", "else", "none"]) X G (c.fact 59 (f := .glo "BARRED") rfl) (ex_3 c)
  g_LETTERS := gd_str X G (c.fact 60 (f := .str "LETTERS" "abcdefghijklmnopqrstuvwxyz") rfl)
  kd := by
    obtain ⟨es, n, h⟩ := ktb_of (kvs := kv_MANY_NAMES) (c.tab 0 rfl) (ex_4 c)
    exact ⟨_, es, n, He.glo_ok X G (c.fact 61 (f := .glo "MANY_NAMES") rfl), h⟩
  g_MOST_LETTERS := gd_int X G (c.fact 62 (f := .int "MOST_LETTERS" 4) rfl)
  g_SIGNS := gd_str X G (c.fact 63 (f := .str "SIGNS" "0123456789") rfl)
  cl_1 := He.cls_ok (c.fact 64 (f := .cls "Board") rfl)
  ic_1 := inB_ok (He.cls_ok (c.fact 64 (f := .cls "Board") rfl)) (ex_5 c)
  gc_1 := He.glo_ok X G (c.fact 18 (f := .glo "Board") rfl)
  cl_3 := He.cls_ok (c.fact 65 (f := .cls "Call") rfl)
  ic_3 := inB_ok (He.cls_ok (c.fact 65 (f := .cls "Call") rfl)) (ex_6 c)
  gc_3 := He.glo_ok X G (c.fact 30 (f := .glo "Call") rfl)
  cl_0 := He.cls_ok (c.fact 66 (f := .cls "Menu") rfl)
  ic_0 := inB_ok (He.cls_ok (c.fact 66 (f := .cls "Menu") rfl)) (ex_7 c)
  gc_0 := He.glo_ok X G (c.fact 23 (f := .glo "Menu") rfl)
  cl_4 := He.cls_ok (c.fact 67 (f := .cls "Played") rfl)
  ic_4 := inB_ok (He.cls_ok (c.fact 67 (f := .cls "Played") rfl)) (ex_8 c)
  gc_4 := He.glo_ok X G (c.fact 32 (f := .glo "Played") rfl)
  na_0_clears := He.noat_ok (c.fact 68 (f := .noat "Menu" "clears") rfl)
  na_0_deeds := He.noat_ok (c.fact 69 (f := .noat "Menu" "deeds") rfl)
  na_0_last := He.noat_ok (c.fact 70 (f := .noat "Menu" "last") rfl)
  na_0_name := He.noat_ok (c.fact 71 (f := .noat "Menu" "name") rfl)
  na_0_rows := He.noat_ok (c.fact 72 (f := .noat "Menu" "rows") rfl)
  na_0_tail := He.noat_ok (c.fact 73 (f := .noat "Menu" "tail") rfl)
  na_0_tries := He.noat_ok (c.fact 74 (f := .noat "Menu" "tries") rfl)
  na_1_first := He.noat_ok (c.fact 75 (f := .noat "Board" "first") rfl)
  na_1_lines := He.noat_ok (c.fact 76 (f := .noat "Board" "lines") rfl)
  na_1_menus := He.noat_ok (c.fact 77 (f := .noat "Board" "menus") rfl)
  na_1_names := He.noat_ok (c.fact 78 (f := .noat "Board" "names") rfl)
  na_3_deep := He.noat_ok (c.fact 79 (f := .noat "Call" "deep") rfl)
  na_3_many := He.noat_ok (c.fact 80 (f := .noat "Call" "many") rfl)
  na_3_over := He.noat_ok (c.fact 81 (f := .noat "Call" "over") rfl)
  na_3_pending := He.noat_ok (c.fact 82 (f := .noat "Call" "pending") rfl)
  na_3_plan := He.noat_ok (c.fact 83 (f := .noat "Call" "plan") rfl)
  na_3_rest := He.noat_ok (c.fact 84 (f := .noat "Call" "rest") rfl)
  na_3_started_names := He.noat_ok (c.fact 85 (f := .noat "Call" "started_names") rfl)
  na_4_end := He.noat_ok (c.fact 86 (f := .noat "Played" "end") rfl)
  na_4_presses := He.noat_ok (c.fact 87 (f := .noat "Played" "presses") rfl)
  na_4_stack := He.noat_ok (c.fact 88 (f := .noat "Played" "stack") rfl)
  na_4_started := He.noat_ok (c.fact 89 (f := .noat "Played" "started") rfl)
  na_4_tries := He.noat_ok (c.fact 90 (f := .noat "Played" "tries") rfl)
abbrev RR : PySem.W.OpenRow := PySem.W.OpenLaw.row PySem.Challenge.rw_menuhome_k21_whole_digits_at_once
def hnm : List Str := (["_wall", "MenuError", "InvalidMenu", "InvalidBoard", "InvalidText", "InvalidEvent", "NoMenu", "LETTERS", "SIGNS", "BARRED", "ALONE", "MOST_LETTERS", "MANY_NAMES", "is_integer", "is_name", "is_digit", "is_sequence", "are_unlike", "number_in", "action_in", "is_event", "Call", "Played", "play", "is_row", "are_rows", "head_in", "told_in", "Menu", "deeds_of"] : List Str) ++ (["named_in", "Board", "_law_seed", "_law_choose", "_law_one_of", "_law_mixed", "_law_deed", "_law_menu", "_law_board", "_law_menu_text", "_law_text", "_law_events", "_law_begun", "_law_started", "_law_happened", "_law_wasted", "_law_behind", "_law_seen", "_law_told", "_law_home", "_law_one_by_one"] : List Str)
abbrev hhk : PySem.W.Hook := hookM 6 hfa hfn hts hex
def hob (s : PySem.W.SharedT) : AlM := obsMG 6 hfa hfn hts hex (HandSHeadRun.getT s)
theorem hob_eq (s : PySem.W.SharedT) : hob s = hhk.obs s.abs := obsMG_eq (HandSHeadRun.getT_eq s)
abbrev hq : Program := PySem.W.view RR.prog [57]
theorem hrun_false (w : World) : HandSHeadRun.RunEq RR hq hhk hob 20000 hnm (w.withFollow "special-get-raises" false) := by
  intro os
  kernel_rfl
theorem hrun_true (w : World) : HandSHeadRun.RunEq RR hq hhk hob 20000 hnm (w.withFollow "special-get-raises" true) := by
  intro os
  kernel_rfl
theorem hrun (w : World) : HandSHeadRun.RunEq RR hq hhk hob 20000 hnm w := PySem.W.byRow2 "special-get-raises" (P := fun w => HandSHeadRun.RunEq RR hq hhk hob 20000 hnm w) hrun_false hrun_true w
theorem hfacts {P : Program} {w : World} {K : Fr} {h : Heap} {mg : Str → Option Value} {f : Addr} (X : K.In h) (G : h.Ns mainGlobals mg) (hfa' : mg ("law" : Str) = some (.ref f)) (c : SaysM hfa hfn hts hex w K) :
    ∃ fd : FuncData, (∀ (s : Shared) (v : Value), BindsTo s fd ⟨[v], []⟩ [("_law_script", v)]) ∧ ∀ base : Heap, K.In base → base.Ns mainGlobals mg → FnOk P w K mg base CX0 9 f fd ["_law_script"] (spF ⟨clA K, K⟩ 1 ff_law) := by
  obtain ⟨fd, F⟩ := c.def_ 39 (d := fnD_39) rfl
  have e := hfa'.symm.trans (He.glo_ok X G (c.fact 42 (f := .glo "law") rfl))
  cases e
  have b := FunD.bindsA (ps := ["_law_script"]) F fun _ _ _ _ _ _ us hl => match us, hl with | [_], _ => rfl
  exact ⟨fd, fun s v => b s [v] rfl, fun base _ _ => whole (fx_of X G c) (He5.fun_of F)⟩
theorem hlaw {K : Fr} (H : Hp) (a : Addr) (ns : List Int) (hl : ns.length ≤ 63) (hS : SqL K H a (ns.map V.int)) : spF ⟨clA K, K⟩ 1 ff_law [.ref a] H (fun v _ => v = .bl true) fun _ _ _ => False := by
  obtain ⟨m, e⟩ := law_ok ns hl
  refine ⟨H, [], [.p (.lst (ns.map .int))], rfl, rfl, ⟨Grow.refl (Ex.refl _), ?_, List.nodup_nil, fun a ha => (by cases ha)⟩, _, _, e, fun v H' r => r.rep.bl_of⟩
  exact Sep.cons (fp := []) (.p (.lst hS (RepL.of_ints ns))) .nil
end Mh
open PySem PySem.W PySem.Calls PyProof.Rows
set_option maxHeartbeats 0 in
theorem PySem.Challenge.cw_menuhome_k21_whole_digits_at_once_holds : PySem.Challenge.rw_menuhome_k21_whole_digits_at_once.Holds := by
  w_on; o_law
  refine HandSHeadRun.head_any (r := OpenLaw.row PySem.Challenge.rw_menuhome_k21_whole_digits_at_once) (q := Mh.hq) (H := Mh.hhk) (ob := Mh.hob) (M := 20000) (loose := Mh.hnm) (d := HandSHeadRun.topDef (OpenLaw.row PySem.Challenge.rw_menuhome_k21_whole_digits_at_once).prog 57) (kwd := []) Mh.hob_eq
    (by kernel_rfl) (fun s => by kernel_rfl) Mh.hrun (by kernel_rfl) (by kernel_rfl) (by kernel_rfl) (by rfl) (by first | assumption | decide +kernel) (by decide +kernel) ⟨rfl, rfl, rfl, rfl, rfl, by decide +kernel⟩ ?hw ?hc
  case hw => w_witness2
  case hc =>
    refine L2.walk_ofE (l := PySem.Challenge.rw_menuhome_k21_whole_digits_at_once) (n := 63) (k := 9) (x := "_law_script") (CX := L2.CX0) rfl (by decide) (by kernel_rfl) ⟨rfl, by decide, by decide⟩ ?F (fun _ _ _ _ z => z)
    intro w mg fa h Y G hmg0
    obtain ⟨K, KX, c⟩ := Y
    have hmg : mg ("law" : PySem.Str) = some (.ref fa) := by
      have e : (HandSHeadRun.topDef (OpenLaw.row PySem.Challenge.rw_menuhome_k21_whole_digits_at_once).prog 57).name = ("law" : PySem.Str) := by kernel_rfl
      rw [← e]
      exact hmg0
    obtain ⟨fd, hb, hF⟩ := Mh.hfacts (P := (PySem.Challenge.rw_menuhome_k21_whole_digits_at_once).prog) (w := w) KX G hmg c
    exact ⟨K, fd, _, KX, hb, fun H a ns hl _ hS => Mh.hlaw H a ns hl hS, hF⟩
