import PyProof.Rows.All
import Wide.All
import OpenK.AllK
import Wide.FinOn
import PySem.Challenge.RW_trywright_k51_choices_refused
import HandS.ForMost
import HandS.ForExc
import HandS.Lambda
import HandS.ExcCtx
import HandS.TupAny
import HandS.Wide
import HandS.IsInst
import HandS.Deep
import HandS.Style
import HandS.Defaults
import HandS.EndBits
import HandS.HeadEnd
import HandS.HeadHook4
import HandS.HeadWalk
import HandS.Dict
import HandS.TupMul
import HandS.More
import HandS.CallSlots
import HandS.ExcInit
import HandS.ExcField
import HandS.Codes
import HandS.Iter
import KE.GoesComp
import KE.GoesRaise
import HandS.Comp
import HandS.TryOnly
import HandS.DeepEq
import KE.KMinKey
import HandS.SortKw
import HandS.Text
import HandS.SetFor
import PyProof.SeqRoads2
import PyProof.Rows.SetFrom
import PyProof.DictKinds
import HandS.Set
import PyProof.Rows.SortStr
import KE.SortKeyHeap
import HandS.HotCalls
import HandS.ExcIs
import KE.DataCmp
import KE.KExcIs
import HandS.Head0
import HandS.Head1
import HandS.Head2
set_option Elab.async false
set_option linter.all false
set_option maxRecDepth 100000
set_option maxHeartbeats 0
namespace BV
open PySem PySem.Spec PyProof.Rows L2
abbrev St := L2.St
/-- a value of the program, without addresses -/
inductive D where
  | non
  | bl (b : Bool)
  | int (i : Int)
  | str (x : Str)
  | scr (ns : List Int)
  | tup (ds : List D)
  | lst (ds : List D)
  | dic (ks : List Key) (ds : List D)
  | obj (C : Str) (fs : List Str) (ds : List D)
  | loc (n : Nat)
mutual
def D.eqb : D → D → Bool
  | .non, .non => true
  | .bl a, .bl b => a == b
  | .int a, .int b => decide (a = b)
  | .str a, .str b => decide (a = b)
  | .scr a, .scr b => decide (a = b)
  | .tup a, .tup b => D.eqbL a b
  | .lst a, .lst b => D.eqbL a b
  | .dic k a, .dic l b => decide (k = l) && D.eqbL a b
  | .obj C k a, .obj E l b => decide (C = E) && (decide (k = l) && D.eqbL a b)
  | .loc a, .loc b => decide (a = b)
  | _, _ => false
def D.eqbL : List D → List D → Bool
  | [], [] => true
  | a :: r, b :: s => D.eqb a b && D.eqbL r s
  | _, _ => false
end
mutual
theorem D.eqb_ok : ∀ a b : D, D.eqb a b = true → a = b
  | .non, b, h => by cases b <;> first | rfl | (simp [D.eqb] at h)
  | .bl a, b, h => by cases b <;> simp [D.eqb] at h; rw [h]
  | .int a, b, h => by cases b <;> simp [D.eqb] at h; rw [h]
  | .str a, b, h => by cases b <;> simp [D.eqb] at h; rw [h]
  | .scr a, b, h => by cases b <;> simp [D.eqb] at h; rw [h]
  | .tup a, b, h => by cases b <;> simp [D.eqb] at h; rw [D.eqbL_ok _ _ h]
  | .lst a, b, h => by cases b <;> simp [D.eqb] at h; rw [D.eqbL_ok _ _ h]
  | .dic k a, b, h => by cases b <;> simp [D.eqb] at h; rw [h.1, D.eqbL_ok _ _ h.2]
  | .obj C k a, b, h => by cases b <;> simp [D.eqb] at h; rw [h.1, h.2.1, D.eqbL_ok _ _ h.2.2]
  | .loc a, b, h => by cases b <;> simp [D.eqb] at h; rw [h]
theorem D.eqbL_ok : ∀ a b : List D, D.eqbL a b = true → a = b
  | [], b, h => by cases b <;> first | rfl | (simp [D.eqbL] at h)
  | a :: r, b, h => by
    cases b with
    | nil => simp [D.eqbL] at h
    | cons b s =>
      simp [D.eqbL] at h
      rw [D.eqb_ok _ _ h.1, D.eqbL_ok _ _ h.2]
end
mutual
theorem D.eqb_self : ∀ a : D, D.eqb a a = true
  | .non => rfl
  | .bl a => by simp [D.eqb]
  | .int a => by simp [D.eqb]
  | .str a => by simp [D.eqb]
  | .scr a => by simp [D.eqb]
  | .tup a => by simp [D.eqb, D.eqbL_self a]
  | .lst a => by simp [D.eqb, D.eqbL_self a]
  | .dic k a => by simp [D.eqb, D.eqbL_self a]
  | .obj C k a => by simp [D.eqb, D.eqbL_self a]
  | .loc a => by simp [D.eqb]
theorem D.eqbL_self : ∀ a : List D, D.eqbL a a = true
  | [] => rfl
  | a :: r => by simp [D.eqbL, D.eqb_self a, D.eqbL_self r]
end
instance : DecidableEq D := fun a b => match h : D.eqb a b with
  | true => .isTrue (D.eqb_ok a b h)
  | false => .isFalse fun e => by rw [e, D.eqb_self] at h; cases h
/-- an exception of one of the program's own classes: its name, its attributes -/
structure Exc where
  name : Str
  fs : List Str := []
  ds : List D := []
/-- what comes of an expression -/
inductive R (α : Type) where
  | ok (a : α)
  | exc (e : Exc)
  | stuck
@[simp] def R.bind {α β : Type} : R α → (α → R β) → R β
  | .ok a, f => f a
  | .exc e, _ => .exc e
  | .stuck, _ => .stuck
abbrev Rho := List (Option D)
/-- what comes of a statement -/
inductive RS where
  | nx (ρ : Rho)
  | bk (ρ : Rho)
  | ct (ρ : Rho)
  | rt (d : D)
  | exc (e : Exc)
  | stuck
/-! ### how values lie -/
section
variable (K : PySem.W.Frag) (mg : Str → Option Value)
mutual
def Rep (H : Hp) : D → V → Prop
  | .non, v => v = .non
  | .bl b, v => v = .bl b
  | .int i, v => v = .int i
  | .str x, v => v = .str x ∧ PyData.strOk x = true ∧ x.length ≤ sizeLine
  | .scr ns, v => ∃ a, v = .ref a ∧ SqL K H a (ns.map V.int) ∧ ns.length ≤ sizeLine
  | .tup ds, v => ∃ a vs, v = .ref a ∧ SqT K H a vs ∧ ds.length ≤ sizeLine ∧ RepL H ds vs
  | .lst ds, v => ∃ a vs, v = .ref a ∧ H a = some (.lst vs) ∧ ds.length ≤ sizeLine ∧ RepL H ds vs
  | .dic ks ds, v => ∃ a kvs, v = .ref a ∧ H a = some (.dK kvs) ∧ kvs.map (·.1) = ks ∧ RepL H ds (kvs.map (·.2))
  | .obj C fs ds, v => ∃ a Ca dx fvs, v = .ref a ∧ mg C = some (.ref Ca) ∧ H a = some (.ins Ca dx fvs) ∧ fvs.map (·.1) = fs ∧ RepL H ds (fvs.map (·.2))
  | .loc _, _ => False
def RepL (H : Hp) : List D → List V → Prop
  | [], vs => vs = []
  | d :: ds, vs => ∃ v r, vs = v :: r ∧ Rep H d v ∧ RepL H ds r
end
/-- what stands at an address, by value -/
def RepO (H : Hp) : D → HO → Prop
  | .lst ds, o => ∃ vs, o = .lst vs ∧ ds.length ≤ sizeLine ∧ RepL K mg H ds vs
  | .dic ks ds, o => ∃ kvs, o = .dK kvs ∧ kvs.map (·.1) = ks ∧ RepL K mg H ds (kvs.map (·.2))
  | .obj C fs ds, o => ∃ Ca dx fvs, mg C = some (.ref Ca) ∧ o = .ins Ca dx fvs ∧ fvs.map (·.1) = fs ∧ RepL K mg H ds (fvs.map (·.2))
  | _, _ => False
end
/-- Hf is a part of H, without tables -/
def Sub (Hf H : Hp) : Prop := ∀ b o, Hf b = some o → H b = some o ∧ ∀ ps, o ≠ .tbl ps
theorem Sub.trans {A B C : Hp} (a : Sub A B) (b : Sub B C) : Sub A C := fun x o h => ⟨(b x o (a x o h).1).1, (a x o h).2⟩
theorem Sub.self {A B : Hp} (a : Sub A B) : Sub A A := fun x o h => ⟨h, (a x o h).2⟩
theorem Sub.ext {A B C : Hp} (a : Sub A B) (b : LamX.ExtN B C) : Sub A C := fun x o h => ⟨b x o (a x o h).1 (a x o h).2, (a x o h).2⟩
theorem Sub.none {A B : Hp} (a : Sub A B) {p : Addr} (h : B p = Option.none) : A p = Option.none := by
  cases q : A p with
  | none => rfl
  | some o => rw [(a p o q).1] at h; cases h
/-- an object that is no table stands there -/
def Old (H : Hp) (b : Addr) : Prop := ∃ o, H b = some o ∧ ∀ ps, o ≠ .tbl ps
theorem Old.not {H : Hp} {b : Addr} (h : H b = Option.none) : ¬ Old H b := fun ⟨o, e, _⟩ => by rw [h] at e; cases e
theorem Old.ext {H H' : Hp} (x : LamX.ExtN H H') : ∀ b, Old H b → Old H' b := fun b ⟨o, e, n⟩ => ⟨o, x b o e n, n⟩
structure ExtF (T : List (Addr × Str)) (Hf H Hf' H' : Hp) : Prop where
  sub : Sub Hf Hf'
  inn : Sub Hf' H'
  ext : LamX.ExtN H H'
  tab : LamX.Tabs T H → LamX.Tabs T H'
  fr : ∀ b, Old H b → Hf b = none → Hf' b = none
  kp : ∀ b, Old H b → Old H' b
section
variable {T : List (Addr × Str)} {Hf H Hf1 H1 Hf2 H2 : Hp}
theorem ExtF.refl (s : Sub Hf H) : ExtF T Hf H Hf H := ⟨s.self, s, LamX.ExtN.refl H, fun h => h, fun _ _ h => h, fun _ h => h⟩
theorem ExtF.trans (a : ExtF T Hf H Hf1 H1) (b : ExtF T Hf1 H1 Hf2 H2) : ExtF T Hf H Hf2 H2 :=
  ⟨a.sub.trans b.sub, b.inn, a.ext.trans b.ext, fun h => b.tab (a.tab h), fun x h1 h2 => b.fr x (a.kp x h1) (a.fr x h1 h2), fun x h => b.kp x (a.kp x h)⟩
theorem same_new {H : Hp} {p : Addr} (h : H p = none) (o : HO) : ∀ b u, H b = some u → upd H p o b = some u := fun b u q => by rw [upd_ne (ne_of_none q h)]; exact q
/-- a new object, not known as frozen -/
theorem ExtF.new (s : Sub Hf H) {p : Addr} {o : HO} (h : H p = none) : ExtF T Hf H Hf (upd H p o) :=
  ⟨s.self, fun b u q => ⟨same_new h o b u (s b u q).1, (s b u q).2⟩, LamX.ExtN.of (same_new h o), fun t => t.ext (same_new h o), fun _ _ q => q, Old.ext (LamX.ExtN.of (same_new h o))⟩
/-- a new object, frozen -/
theorem ExtF.newF (s : Sub Hf H) {p : Addr} {o : HO} (h : H p = none) (n : ∀ ps, o ≠ .tbl ps) : ExtF T Hf H (upd Hf p o) (upd H p o) := by
  refine ⟨fun b u q => ⟨same_new (s.none h) o b u q, (s b u q).2⟩, fun b u q => ?_, LamX.ExtN.of (same_new h o), fun t => t.ext (same_new h o), fun b q1 q2 => ?_, (ExtF.new (T := T) s h).kp⟩
  · by_cases e : b = p
    · subst e
      rw [upd_same] at q
      cases q
      exact ⟨upd_same, n⟩
    · rw [upd_ne e] at q
      rw [upd_ne e]
      exact s b u q
  · rw [upd_ne (fun e => Old.not h (by rw [← e]; exact q1))]
    exact q2
/-- what is new is frozen -/
theorem ExtF.freeze (x : ExtF T Hf H Hf1 H1) {p : Addr} {o : HO} (h0 : ¬ Old H p) (h : H1 p = some o) (hf : Hf1 p = none) (n : ∀ ps, o ≠ .tbl ps) : ExtF T Hf H (upd Hf1 p o) H1 := by
  refine ⟨fun b u q => ⟨same_new hf o b u (x.sub b u q).1, (x.sub b u q).2⟩, fun b u q => ?_, x.ext, x.tab, fun b q1 q2 => ?_, x.kp⟩
  · by_cases e : b = p
    · subst e
      rw [upd_same] at q
      cases q
      exact ⟨h, n⟩
    · rw [upd_ne e] at q
      exact x.inn b u q
  · rw [upd_ne (fun e => h0 (by rw [← e]; exact q1))]
    exact x.fr b q1 q2
end
section
variable {K : PySem.W.Frag} {mg : Str → Option Value}
theorem Rd.sub {A B : Hp} (s : Sub A B) {a : Addr} {u : HO} (h : Rd A a u) : Rd B a u := by
  rcases h with h | ⟨o, h⟩
  · exact .inl (s _ _ h).1
  · exact .inr ⟨o, (s _ _ h).1⟩
theorem SqL.sub {A B : Hp} (s : Sub A B) {a : Addr} {xs : List V} (h : SqL K A a xs) : SqL K B a xs := by
  rcases h with h | h
  · exact .inl (Rd.sub s h)
  · exact .inr h
theorem SqT.sub {A B : Hp} (s : Sub A B) {a : Addr} {xs : List V} (h : SqT K A a xs) : SqT K B a xs := by
  rcases h with h | h
  · exact .inl (Rd.sub s h)
  · exact .inr h
mutual
theorem Rep.sub {A B : Hp} (s : Sub A B) : ∀ {d : D} {v : V}, Rep K mg A d v → Rep K mg B d v
  | .non, _, h => h
  | .bl _, _, h => h
  | .int _, _, h => h
  | .str _, _, h => h
  | .scr ns, v, h => by
    obtain ⟨a, e, h1, h2⟩ := h
    exact ⟨a, e, SqL.sub s h1, h2⟩
  | .tup ds, v, h => by
    obtain ⟨a, vs, e, h1, h0, h2⟩ := h
    exact ⟨a, vs, e, SqT.sub s h1, h0, RepL.sub s h2⟩
  | .lst ds, v, h => by
    obtain ⟨a, vs, e, h1, h0, h2⟩ := h
    exact ⟨a, vs, e, (s _ _ h1).1, h0, RepL.sub s h2⟩
  | .dic ks ds, v, h => by
    obtain ⟨a, kvs, e, h1, h2, h3⟩ := h
    exact ⟨a, kvs, e, (s _ _ h1).1, h2, RepL.sub s h3⟩
  | .obj C fs ds, v, h => by
    obtain ⟨a, Ca, dx, fvs, e, h1, h2, h3, h4⟩ := h
    exact ⟨a, Ca, dx, fvs, e, h1, (s _ _ h2).1, h3, RepL.sub s h4⟩
  | .loc _, _, h => h
theorem RepL.sub {A B : Hp} (s : Sub A B) : ∀ {ds : List D} {vs : List V}, RepL K mg A ds vs → RepL K mg B ds vs
  | [], _, h => h
  | d :: ds, vs, h => by
    obtain ⟨v, r, e, h1, h2⟩ := h
    exact ⟨v, r, e, Rep.sub s h1, RepL.sub s h2⟩
end
theorem RepO.sub {A B : Hp} (s : Sub A B) : ∀ {d : D} {o : HO}, RepO K mg A d o → RepO K mg B d o
  | .lst ds, o, h => by obtain ⟨vs, e, h0, h⟩ := h; exact ⟨vs, e, h0, RepL.sub s h⟩
  | .scr _, _, h => h.elim
  | .dic ks ds, o, h => by obtain ⟨kvs, e, h1, h⟩ := h; exact ⟨kvs, e, h1, RepL.sub s h⟩
  | .obj C fs ds, o, h => by obtain ⟨Ca, dx, fvs, e, h1, h2, h⟩ := h; exact ⟨Ca, dx, fvs, e, h1, h2, RepL.sub s h⟩
  | .non, _, h => h.elim
  | .bl _, _, h => h.elim
  | .int _, _, h => h.elim
  | .str _, _, h => h.elim
  | .tup _, _, h => h.elim
  | .loc _, _, h => h.elim
theorem RepO.ntbl {H : Hp} : ∀ {d : D} {o : HO}, RepO K mg H d o → ∀ ps, o ≠ .tbl ps
  | .lst ds, o, h => by obtain ⟨vs, rfl, h⟩ := h; intro ps z; cases z
  | .scr _, _, h => h.elim
  | .dic ks ds, o, h => by obtain ⟨kvs, rfl, h1, h⟩ := h; intro ps z; cases z
  | .obj C fs ds, o, h => by obtain ⟨Ca, dx, fvs, e, rfl, h2, h⟩ := h; intro ps z; cases z
  | .non, _, h => h.elim
  | .bl _, _, h => h.elim
  | .int _, _, h => h.elim
  | .str _, _, h => h.elim
  | .tup _, _, h => h.elim
  | .loc _, _, h => h.elim
/-- an object that is frozen is a value -/
theorem RepO.rep {H : Hp} {a : Addr} : ∀ {d : D} {o : HO}, RepO K mg H d o → H a = some o → Rep K mg H d (.ref a)
  | .lst ds, o, h, q => by obtain ⟨vs, rfl, h0, h⟩ := h; exact ⟨a, vs, rfl, q, h0, h⟩
  | .scr _, _, h, _ => h.elim
  | .dic ks ds, o, h, q => by obtain ⟨kvs, rfl, h1, h⟩ := h; exact ⟨a, kvs, rfl, q, h1, h⟩
  | .obj C fs ds, o, h, q => by obtain ⟨Ca, dx, fvs, e, rfl, h2, h⟩ := h; exact ⟨a, Ca, dx, fvs, rfl, e, q, h2, h⟩
  | .non, _, h, _ => h.elim
  | .bl _, _, h, _ => h.elim
  | .int _, _, h, _ => h.elim
  | .str _, _, h, _ => h.elim
  | .tup _, _, h, _ => h.elim
  | .loc _, _, h, _ => h.elim
theorem RepL.length {H : Hp} : ∀ {ds : List D} {vs : List V}, RepL K mg H ds vs → vs.length = ds.length
  | [], vs, h => by rw [show vs = [] from h]; rfl
  | d :: ds, _, h => by obtain ⟨v, r, rfl, _, h⟩ := h; simp [RepL.length h]
theorem RepL.get {H : Hp} : ∀ {ds : List D} {vs : List V} {i : Nat} {d : D}, RepL K mg H ds vs → ds[i]? = some d → ∃ v, vs[i]? = some v ∧ Rep K mg H d v
  | [], _, i, d, h, e => by simp at e
  | d :: ds, _, 0, d', h, e => by
    obtain ⟨v, r, rfl, h1, h⟩ := h
    simp at e
    subst e
    exact ⟨v, by simp, h1⟩
  | d :: ds, _, i + 1, d', h, e => by
    obtain ⟨v, r, rfl, h1, h⟩ := h
    simp at e
    obtain ⟨v', h2, h3⟩ := RepL.get h e
    exact ⟨v', by simpa using h2, h3⟩
theorem RepL.at {H : Hp} : ∀ {ds : List D} {vs : List V} {i : Nat} {v : V}, RepL K mg H ds vs → vs[i]? = some v → ∃ d, ds[i]? = some d ∧ Rep K mg H d v
  | [], vs, i, v, h, e => by rw [show vs = [] from h] at e; simp at e
  | d :: ds, _, 0, v', h, e => by
    obtain ⟨v, r, rfl, h1, h⟩ := h
    simp at e
    subst e
    exact ⟨d, by simp, h1⟩
  | d :: ds, _, i + 1, v', h, e => by
    obtain ⟨v, r, rfl, h1, h⟩ := h
    simp at e
    obtain ⟨d', h2, h3⟩ := RepL.at h e
    exact ⟨d', by simpa using h2, h3⟩
theorem RepL.append {H : Hp} : ∀ {ds es : List D} {vs us : List V}, RepL K mg H ds vs → RepL K mg H es us → RepL K mg H (ds ++ es) (vs ++ us)
  | [], _, vs, _, h, g => by rw [show vs = [] from h]; exact g
  | d :: ds, es, _, us, h, g => by
    obtain ⟨v, r, rfl, h1, h⟩ := h
    exact ⟨v, r ++ us, rfl, h1, RepL.append h g⟩
theorem RepL.one {H : Hp} {d : D} {v : V} (h : Rep K mg H d v) : RepL K mg H [d] [v] := ⟨v, [], rfl, h, rfl⟩
theorem RepL.take {H : Hp} : ∀ {ds : List D} {vs : List V} (n : Nat), RepL K mg H ds vs → RepL K mg H (ds.take n) (vs.take n)
  | _, _, 0, h => by simp [RepL]
  | [], vs, n + 1, h => by rw [show vs = [] from h]; simp [RepL]
  | d :: ds, _, n + 1, h => by
    obtain ⟨v, r, rfl, h1, h⟩ := h
    exact ⟨v, r.take n, rfl, h1, RepL.take n h⟩
theorem RepL.drop {H : Hp} : ∀ {ds : List D} {vs : List V} (n : Nat), RepL K mg H ds vs → RepL K mg H (ds.drop n) (vs.drop n)
  | _, _, 0, h => h
  | [], vs, n + 1, h => by rw [show vs = [] from h]; simp [RepL]
  | d :: ds, _, n + 1, h => by
    obtain ⟨v, r, rfl, h1, h⟩ := h
    exact RepL.drop n h
theorem RepL.set {H : Hp} {d : D} {v : V} (q : Rep K mg H d v) : ∀ {ds : List D} {vs : List V} (n : Nat), RepL K mg H ds vs → RepL K mg H (ds.set n d) (vs.set n v)
  | [], vs, n, h => by rw [show vs = [] from h]; simp [RepL]
  | e :: ds, _, 0, h => by
    obtain ⟨u, r, rfl, h1, h⟩ := h
    exact ⟨v, r, rfl, q, h⟩
  | e :: ds, _, n + 1, h => by
    obtain ⟨u, r, rfl, h1, h⟩ := h
    exact ⟨u, r.set n v, rfl, h1, RepL.set q n h⟩
end
/-! ### kinds: v a value; o an object of one's own, new; b read for a while -/
inductive Kd where
  | v | o | b
  deriving DecidableEq
section
variable (K : PySem.W.Frag) (mg : Str → Option Value)
def RK : Kd → Hp → Hp → Hp → D → V → Prop
  | .v, Hf, _, _, d, v => Rep K mg Hf d v
  | .o, Hf, H0, H, d, v => ∃ a o, v = .ref a ∧ Hf a = none ∧ ¬ Old H0 a ∧ H a = some o ∧ RepO K mg Hf d o
  | .b, Hf, _, H, d, v => Rep K mg Hf d v ∨ ∃ a o, v = .ref a ∧ H a = some o ∧ RepO K mg Hf d o
/-- an exception, as it lies -/
def RX (Hf H : Hp) (e : Exc) (cls : Value) (dd : Option Addr) : Prop :=
  ∃ C, mg e.name = some (.ref C) ∧ cls = .ref C ∧ ((e.fs = [] ∧ e.ds = [] ∧ dd = none) ∨ e.fs ≠ [] ∧ ∃ d fvs, dd = some d ∧ H d = some (.xd fvs) ∧ fvs.map (·.1) = e.fs ∧ RepL K mg Hf e.ds (fvs.map (·.2)))
/-- the slots -/
structure RelE (T : List (Addr × Str)) (Γ : List Bool) (ρ : Rho) (Hf : Hp) (σ : St) (H : Hp) : Prop where
  sub : Sub Hf H
  tab : LamX.Tabs T H
  len : ρ.length = σ.length
  val : ∀ (i : Nat) (d : D), ρ[i]? = some (some d) → Γ[i]? ≠ some true → ∃ v, σ[i]? = some (some v) ∧ Rep K mg Hf d v
  own : ∀ (i : Nat) (d : D), ρ[i]? = some (some d) → Γ[i]? = some true → ∃ a o, σ[i]? = some (some (.ref a)) ∧ Hf a = none ∧ H a = some o ∧ RepO K mg Hf d o
  apart : ∀ (i j : Nat) (a : Addr), i ≠ j → Γ[i]? = some true → Γ[j]? = some true → (∃ d : D, ρ[i]? = some (some d)) → (∃ d : D, ρ[j]? = some (some d)) → σ[i]? = some (some (.ref a)) → σ[j]? ≠ some (some (.ref a))
def PostG {α : Type} (T : List (Addr × Str)) (Hf H : Hp) (W : WX) (σ : St) (good : α → Hp → Hp → Prop) : R α → Prop
  | .ok a => ∀ Hf' H', ExtF T Hf H Hf' H' → good a Hf' H'
  | .exc e => ∀ cls dd Hf' H', ExtF T Hf H Hf' H' → RX K mg Hf' H' e cls dd → W cls dd σ H'
  | .stuck => False
abbrev PostE (T : List (Addr × Str)) (Hf H : Hp) (k : Kd) (W : WX) (σ : St) (Q : VK) : R D → Prop :=
  PostG K mg T Hf H W σ fun d Hf' H' => ∀ v, RK K mg k Hf' H H' d v → Q v H'
def tD (T : List (Addr × Str)) (Γ : List Bool) (W : WX) (k : Kd) (f : Rho → R D) : TE := fun σ H Q =>
  ∃ Hf ρ, RelE K mg T Γ ρ Hf σ H ∧ PostE K mg T Hf H k W σ Q (f ρ)
end
section
variable {K : PySem.W.Frag} {mg : Str → Option Value} {T : List (Addr × Str)} {Γ : List Bool} {ρ : Rho} {Hf Hf' H0 H H' : Hp} {σ : St} {W : WX} {Q : VK} {k : Kd}
theorem RelE.ext (r : RelE K mg T Γ ρ Hf σ H) (x : ExtF T Hf H Hf' H') : RelE K mg T Γ ρ Hf' σ H' where
  sub := x.inn
  tab := x.tab r.tab
  len := r.len
  val := fun i d e g => by
    obtain ⟨v, h1, h2⟩ := r.val i d e g
    exact ⟨v, h1, Rep.sub x.sub h2⟩
  own := fun i d e g => by
    obtain ⟨a, o, h1, h2, h3, h4⟩ := r.own i d e g
    exact ⟨a, o, h1, x.fr a ⟨o, h3, RepO.ntbl h4⟩ h2, x.ext a o h3 (RepO.ntbl h4), RepO.sub x.sub h4⟩
  apart := r.apart
theorem RK.b_of {d : D} {v : V} : ∀ {k : Kd}, RK K mg k Hf H0 H d v → RK K mg .b Hf H0 H d v
  | .v, h => .inl h
  | .o, ⟨a, o, e, _, _, h1, h2⟩ => .inr ⟨a, o, e, h1, h2⟩
  | .b, h => h
/-- what was read stays -/
theorem RK.ext {d : D} {v : V} (x : ExtF T Hf H Hf' H') (h : RK K mg .b Hf H0 H d v) : RK K mg .b Hf' H0 H' d v := by
  rcases h with h | ⟨a, o, e, h1, h2⟩
  · exact .inl (Rep.sub x.sub h)
  · exact .inr ⟨a, o, e, x.ext a o h1 (RepO.ntbl h2), RepO.sub x.sub h2⟩
theorem RK.lst {ds : List D} {v : V} (s : Sub Hf H) (h : RK K mg .b Hf H0 H (.lst ds) v) : ∃ a vs, v = .ref a ∧ H a = some (.lst vs) ∧ ds.length ≤ sizeLine ∧ RepL K mg Hf ds vs := by
  rcases h with h | ⟨a, o, e, h1, vs, e2, h0, h2⟩
  · obtain ⟨a, vs, e, h1, h0, h2⟩ := h
    exact ⟨a, vs, e, (s _ _ h1).1, h0, h2⟩
  · subst e2
    exact ⟨a, vs, e, h1, h0, h2⟩
theorem RK.scr {ns : List Int} {v : V} (s : Sub Hf H) (h : RK K mg .b Hf H0 H (.scr ns) v) : ∃ a, v = .ref a ∧ SqL K H a (ns.map V.int) ∧ ns.length ≤ sizeLine := by
  rcases h with h | ⟨a, o, e, h1, h2⟩
  · obtain ⟨a, e, h1, h2⟩ := h
    exact ⟨a, e, SqL.sub s h1, h2⟩
  · exact h2.elim
theorem RK.tup {ds : List D} {v : V} (s : Sub Hf H) (h : RK K mg .b Hf H0 H (.tup ds) v) : ∃ a vs, v = .ref a ∧ SqT K H a vs ∧ ds.length ≤ sizeLine ∧ RepL K mg Hf ds vs := by
  rcases h with h | ⟨a, o, e, h1, h2⟩
  · obtain ⟨a, vs, e, h1, h0, h2⟩ := h
    exact ⟨a, vs, e, SqT.sub s h1, h0, h2⟩
  · exact h2.elim
theorem RK.int {i : Int} {v : V} (h : RK K mg .b Hf H0 H (.int i) v) : v = .int i := h.elim id fun ⟨_, _, _, _, z⟩ => z.elim
theorem RK.str {i : Str} {v : V} (h : RK K mg .b Hf H0 H (.str i) v) : v = .str i ∧ PyData.strOk i = true ∧ i.length ≤ sizeLine := h.elim id fun ⟨_, _, _, _, z⟩ => z.elim
theorem RK.bl {i : Bool} {v : V} (h : RK K mg .b Hf H0 H (.bl i) v) : v = .bl i := h.elim id fun ⟨_, _, _, _, z⟩ => z.elim
theorem RK.non {v : V} (h : RK K mg .b Hf H0 H .non v) : v = .non := h.elim id fun ⟨_, _, _, _, z⟩ => z.elim
theorem RK.dic {ks : List Key} {ds : List D} {v : V} (s : Sub Hf H) (h : RK K mg .b Hf H0 H (.dic ks ds) v) : ∃ a kvs, v = .ref a ∧ H a = some (.dK kvs) ∧ kvs.map (·.1) = ks ∧ RepL K mg Hf ds (kvs.map (·.2)) := by
  rcases h with h | ⟨a, o, e, h1, kvs, e2, h2, h3⟩
  · obtain ⟨a, kvs, e, h1, h2⟩ := h
    exact ⟨a, kvs, e, (s _ _ h1).1, h2⟩
  · subst e2
    exact ⟨a, kvs, e, h1, h2, h3⟩
theorem RK.obj {C : Str} {fs : List Str} {ds : List D} {v : V} (s : Sub Hf H) (h : RK K mg .b Hf H0 H (.obj C fs ds) v) :
    ∃ a Ca dx fvs, v = .ref a ∧ mg C = some (.ref Ca) ∧ H a = some (.ins Ca dx fvs) ∧ fvs.map (·.1) = fs ∧ RepL K mg Hf ds (fvs.map (·.2)) := by
  rcases h with h | ⟨a, o, e, h1, Ca, dx, fvs, e2, e3, h2, h3⟩
  · obtain ⟨a, Ca, dx, fvs, e, e2, h1, h2⟩ := h
    exact ⟨a, Ca, dx, fvs, e, e2, (s _ _ h1).1, h2⟩
  · subst e3
    exact ⟨a, Ca, dx, fvs, e, e2, h1, h2, h3⟩
theorem RK.base {H1 : Hp} (h : ∀ b, Old H0 b → Old H1 b) {d : D} {v : V} : ∀ {k : Kd}, RK K mg k Hf H1 H d v → RK K mg k Hf H0 H d v
  | .v, q => q
  | .b, q => q
  | .o, ⟨a, o, e, h1, h0, h2, h3⟩ => ⟨a, o, e, h1, fun z => h0 (h a z), h2, h3⟩
section
variable {α β : Type}
theorem PostG.mono {g1 g2 : α → Hp → Hp → Prop} {r : R α} (h : PostG K mg T Hf H W σ g1 r) (i : ∀ a Hf' H', r = .ok a → ExtF T Hf H Hf' H' → g1 a Hf' H' → g2 a Hf' H') : PostG K mg T Hf H W σ g2 r := by
  cases r with
  | ok a => exact fun Hf' H' x => i a Hf' H' rfl x (h Hf' H' x)
  | exc e => exact h
  | stuck => exact h
/-- seen from further on -/
theorem PostG.from {Hf1 H1 : Hp} (x : ExtF T Hf H Hf1 H1) {g1 g2 : α → Hp → Hp → Prop} {r : R α} (h : PostG K mg T Hf H W σ g1 r) (i : ∀ a Hf' H', g1 a Hf' H' → g2 a Hf' H') : PostG K mg T Hf1 H1 W σ g2 r := by
  cases r with
  | ok a => exact fun Hf' H' y => i a Hf' H' (h Hf' H' (x.trans y))
  | exc e => exact fun cls dd Hf' H' y => h cls dd Hf' H' (x.trans y)
  | stuck => exact h
/-- one behind the other -/
theorem PostG.bind {g2 : β → Hp → Hp → Prop} {r : R α} {f : α → R β} (h : PostG K mg T Hf H W σ g2 (r.bind f)) :
    PostG K mg T Hf H W σ (fun a Hf' H' => r = .ok a ∧ ExtF T Hf H Hf' H' ∧ PostG K mg T Hf' H' W σ g2 (f a)) r := by
  cases r with
  | ok a => exact fun Hf' H' x => ⟨rfl, x, PostG.from (r := f a) x h fun _ _ _ z => z⟩
  | exc e => exact h
  | stuck => exact h
end
/-- a new object becomes a value -/
theorem PostE.ov {r : R D} (h : PostE K mg T Hf H .v W σ Q r) : PostE K mg T Hf H .o W σ Q r := by
  cases r with
  | ok d =>
    intro Hf' H' x v q
    obtain ⟨a, o, rfl, h1, h0, h2, h3⟩ := q
    have x2 := x.freeze h0 h2 h1 (RepO.ntbl h3)
    exact h _ H' x2 (.ref a) (RepO.rep (RepO.sub (fun b u q => ⟨same_new h1 o b u q, (x.inn b u q).2⟩) h3) upd_same)
  | exc e => exact h
  | stuck => exact h
theorem PostE.vb {r : R D} (h : PostE K mg T Hf H .b W σ Q r) : PostE K mg T Hf H .v W σ Q r :=
  PostG.mono h fun _ _ _ _ _ z v q => z v (RK.b_of (k := .v) q)
theorem PostE.ob {r : R D} (h : PostE K mg T Hf H .b W σ Q r) : PostE K mg T Hf H .o W σ Q r :=
  PostG.mono h fun _ _ _ _ _ z v q => z v (RK.b_of (k := .o) q)
/-- the same wish, from further on -/
theorem PostE.shift {Hf1 H1 : Hp} (x : ExtF T Hf H Hf1 H1) {r : R D} (h : PostE K mg T Hf H k W σ Q r) : PostE K mg T Hf1 H1 k W σ Q r :=
  PostG.from x h fun _ _ _ z v q => z v (RK.base x.kp q)
/-- two expressions, one behind the other -/
theorem PostE.bind {r : R D} {f : D → R D} {k1 : Kd} {Q1 : VK} (h : PostE K mg T Hf H k W σ Q (r.bind f))
    (step : ∀ d v Hf' H', r = .ok d → ExtF T Hf H Hf' H' → RK K mg k1 Hf' H H' d v → PostE K mg T Hf' H' k W σ Q (f d) → Q1 v H') : PostE K mg T Hf H k1 W σ Q1 r :=
  PostG.mono (PostG.bind h) fun d Hf' H' e x z v q => step d v Hf' H' e x q (PostG.mono z.2.2 fun _ _ _ _ _ y v q => y v (RK.base x.kp q))
end
end BV
namespace BV
open PySem PySem.Spec PyProof.Rows L2
/-! ### expressions -/
def PD (X : Cx) (T : List (Addr × Str)) (Γ : List Bool) (W : WX) (k : Kd) (e : Expr) (f : Rho → R D) : Prop := PE X e (tD X.K X.mg T Γ W k f)
theorem PE.imp {X : Cx} {e : Expr} {t t' : TE} (h : PE X e t) (i : ∀ σ H Q, t' σ H Q → t σ H Q) : PE X e t' := ⟨fun pins s σ H Q I q => h.run pins s σ H Q I (i σ H Q q)⟩
@[simp] def R.of {α : Type} : Option α → R α
  | some a => .ok a
  | none => .stuck
section
variable {X : Cx} {T : List (Addr × Str)} {Γ : List Bool} {W : WX} {k : Kd} {e a b : Expr} {f fa fb : Rho → R D} {pos : Pos}
theorem PD.ov (h : PD X T Γ W .o e f) : PD X T Γ W .v e f := PE.imp h fun _ _ _ ⟨Hf, ρ, r, p⟩ => ⟨Hf, ρ, r, PostE.ov p⟩
theorem PD.vb (h : PD X T Γ W .v e f) : PD X T Γ W .b e f := PE.imp h fun _ _ _ ⟨Hf, ρ, r, p⟩ => ⟨Hf, ρ, r, PostE.vb p⟩
theorem PD.ob (h : PD X T Γ W .o e f) : PD X T Γ W .b e f := PE.imp h fun _ _ _ ⟨Hf, ρ, r, p⟩ => ⟨Hf, ρ, r, PostE.ob p⟩
def varE (i : Nat) : Rho → R D := fun ρ => R.of (ρ[i]?.bind id)
theorem var_ok {K : PySem.W.Frag} {mg : Str → Option Value} {i : Nat} {Hf H : Hp} {σ : St} {Q : VK} {ρ : Rho} (p : PostE K mg T Hf H k W σ Q (varE i ρ)) : ∃ d, ρ[i]? = some (some d) ∧ PostE K mg T Hf H k W σ Q (.ok d) := by
  unfold varE at p
  cases e : ρ[i]? with
  | none => rw [e] at p; exact p.elim
  | some o =>
    rw [e] at p
    cases o with
    | none => exact p.elim
    | some d => exact ⟨d, rfl, p⟩
theorem pd_var (i : Nat) {x : Str} (hN : X.N[i]? = some x) (hv : Vis X.env.scope x) (g : Γ[i]? ≠ some true) (hd : (x == ("__debug__" : Str)) = false := by decide) (hcd : (x == ("__classdict__" : Str)) = false := by decide) : PD X T Γ W .v (.Name x pos) (varE i) :=
  PE.imp (pe_var hN hv hd hcd) fun σ H Q ⟨Hf, ρ, r, p⟩ => by
    obtain ⟨d, e, p⟩ := var_ok p
    obtain ⟨v, h1, h2⟩ := r.val i d e g
    exact ⟨v, h1, p Hf H (ExtF.refl r.sub) v h2⟩
theorem pd_varb (i : Nat) {x : Str} (hN : X.N[i]? = some x) (hv : Vis X.env.scope x) (hd : (x == ("__debug__" : Str)) = false := by decide) (hcd : (x == ("__classdict__" : Str)) = false := by decide) : PD X T Γ W .b (.Name x pos) (varE i) :=
  PE.imp (pe_var hN hv hd hcd) fun σ H Q ⟨Hf, ρ, r, p⟩ => by
    obtain ⟨d, e, p⟩ := var_ok p
    by_cases g : Γ[i]? = some true
    · obtain ⟨a, o, h1, h2, h3, h4⟩ := r.own i d e g
      exact ⟨.ref a, h1, p Hf H (ExtF.refl r.sub) _ (.inr ⟨a, o, rfl, h3, h4⟩)⟩
    · obtain ⟨v, h1, h2⟩ := r.val i d e g
      exact ⟨v, h1, p Hf H (ExtF.refl r.sub) v (.inl h2)⟩
def conE (d : D) : Rho → R D := fun _ => .ok d
theorem pd_con {v : V} {d : D} (h : PE X e (tC v)) (hr : ∀ Hf, Rep X.K X.mg Hf d v) : PD X T Γ W .v e (conE d) :=
  PE.imp h fun σ H Q ⟨Hf, ρ, r, p⟩ => p Hf H (ExtF.refl r.sub) v (hr Hf)
theorem pd_int {i : Int} {j} : PD X T Γ W .v (.Constant (.int i) j pos) (conE (.int i)) := pd_con pe_int fun _ => rfl
theorem pd_bl {i : Bool} {j} : PD X T Γ W .v (.Constant (.bool i) j pos) (conE (.bl i)) := pd_con pe_bl fun _ => rfl
theorem pd_non {j} : PD X T Γ W .v (.Constant .none j pos) (conE .non) := pd_con pe_non fun _ => rfl
theorem pd_str {x : Str} {j} (h : (PyData.strOk x && decide (x.length ≤ 1000)) = true) : PD X T Γ W .v (.Constant (.str x) j pos) (conE (.str x)) := pd_con pe_str fun _ => by
  rw [Bool.and_eq_true] at h
  exact ⟨rfl, h.1, Nat.le_of_lt (small1000 (of_decide_eq_true h.2))⟩
/-! ### operators by values -/
def OpD (X : Cx) (T : List (Addr × Str)) (g : D → D → Option D) (k : Kd) (r : R2) : Prop :=
  ∀ (Hf H : Hp) (x y : V) (a b d : D) (Q : VK), Sub Hf H → RK X.K X.mg .b Hf H H a x → RK X.K X.mg .b Hf H H b y → g a b = some d → (∀ v Hf' H', ExtF T Hf H Hf' H' → RK X.K X.mg k Hf' H H' d v → Q v H') → r x y H Q
def opE (g : D → D → Option D) (fa fb : Rho → R D) : Rho → R D := fun ρ => (fa ρ).bind fun a => (fb ρ).bind fun b => R.of (g a b)
theorem of_some {K : PySem.W.Frag} {mg : Str → Option Value} {Hf H : Hp} {σ : St} {α : Type} {good : α → Hp → Hp → Prop} {o : Option α} (p : PostG K mg T Hf H W σ good (R.of o)) : ∃ d, o = some d ∧ ∀ Hf' H', ExtF T Hf H Hf' H' → good d Hf' H' := by
  cases o with
  | none => exact p.elim
  | some d => exact ⟨d, rfl, p⟩
theorem pd_op {r : R2} {g : D → D → Option D} (h : PE X e (tOp r (tD X.K X.mg T Γ W .b fa) (tD X.K X.mg T Γ W .b fb))) (hg : OpD X T g k r) : PD X T Γ W k e (opE g fa fb) :=
  PE.imp h fun σ H Q ⟨Hf, ρ, rel, p⟩ => ⟨Hf, ρ, rel, PostE.bind p fun d v Hf1 H1 e1 x1 rk p1 => ⟨Hf1, ρ, rel.ext x1, PostE.bind p1 fun d2 v2 Hf2 H2 e2 x2 rk2 p2 => by
    obtain ⟨d3, e3, p3⟩ := of_some p2
    exact hg Hf2 H2 v v2 d d2 d3 Q x2.inn (RK.ext x2 rk) rk2 e3 fun v3 Hf3 H3 x3 rk3 => p3 Hf3 H3 x3 v3 rk3⟩⟩
theorem OpD.or1 {g : D → D → Option D} {r r' : R2} (h : OpD X T g k r) : OpD X T g k (fun x y H Q => r x y H Q ∨ r' x y H Q) := fun Hf H x y a b d Q s r1 r2 e q => .inl (h Hf H x y a b d Q s r1 r2 e q)
/-- an argument: one -/
def UnD (X : Cx) (T : List (Addr × Str)) (g : D → Option D) (k : Kd) (r : V → Hp → VK → Prop) : Prop :=
  ∀ (Hf H : Hp) (x : V) (a d : D) (Q : VK), Sub Hf H → RK X.K X.mg .b Hf H H a x → g a = some d → (∀ v Hf' H', ExtF T Hf H Hf' H' → RK X.K X.mg k Hf' H H' d v → Q v H') → r x H Q
def unE (g : D → Option D) (fa : Rho → R D) : Rho → R D := fun ρ => (fa ρ).bind fun a => R.of (g a)
theorem pd_un {t : TE} {r : V → Hp → VK → Prop} {g : D → Option D} (h : PE X e t) (ht : ∀ σ H Q, (tD X.K X.mg T Γ W .b fa σ H fun x H1 => r x H1 Q) → t σ H Q) (hg : UnD X T g k r) : PD X T Γ W k e (unE g fa) :=
  PE.imp h fun σ H Q ⟨Hf, ρ, rel, p⟩ => ht σ H Q ⟨Hf, ρ, rel, PostE.bind p fun d v Hf1 H1 e1 x1 rk p1 => by
    obtain ⟨d3, e3, p3⟩ := of_some p1
    exact hg Hf1 H1 v d d3 Q x1.inn rk e3 fun v3 Hf3 H3 x3 rk3 => p3 Hf3 H3 x3 v3 rk3⟩
/-! ### arguments -/
section
variable (K : PySem.W.Frag) (mg : Str → Option Value)
def RKL (k : Kd) (Hf H0 H : Hp) : List D → List V → Prop
  | [], vs => vs = []
  | d :: ds, vs => ∃ v r, vs = v :: r ∧ RK K mg k Hf H0 H d v ∧ RKL k Hf H0 H ds r
def tDA (T : List (Addr × Str)) (Γ : List Bool) (W : WX) (k : Kd) (f : Rho → R (List D)) : TA := fun σ H Q =>
  ∃ Hf ρ, RelE K mg T Γ ρ Hf σ H ∧ PostG K mg T Hf H W σ (fun ds Hf' H' => ∀ vs, RKL K mg k Hf' H H' ds vs → Q vs H') (f ρ)
end
theorem RKL.repL {K : PySem.W.Frag} {mg : Str → Option Value} {Hf H0 H : Hp} : ∀ {ds : List D} {vs : List V}, RKL K mg .v Hf H0 H ds vs → RepL K mg Hf ds vs
  | [], _, h => h
  | d :: ds, _, h => by
    obtain ⟨v, r, e, h1, h⟩ := h
    exact ⟨v, r, e, h1, RKL.repL h⟩
def PDA (X : Cx) (T : List (Addr × Str)) (Γ : List Bool) (W : WX) (k : Kd) (es : List Expr) (f : Rho → R (List D)) : Prop := PA X es (tDA X.K X.mg T Γ W k f)
theorem PA.imp {X : Cx} {es : List Expr} {t t' : TA} (h : PA X es t) (i : ∀ σ H Q, t' σ H Q → t σ H Q) : PA X es t' := ⟨fun pos pins s σ H Q I q => h.run pos pins s σ H Q I (i σ H Q q)⟩
def nilE : Rho → R (List D) := fun _ => .ok []
def consE (f : Rho → R D) (fs : Rho → R (List D)) : Rho → R (List D) := fun ρ => (f ρ).bind fun a => (fs ρ).bind fun b => .ok (a :: b)
theorem pda_nil : PDA X T Γ W k [] nilE := PA.imp pa_nil fun σ H Q ⟨Hf, ρ, rel, p⟩ => p Hf H (ExtF.refl rel.sub) [] rfl
theorem RK.extK {K : PySem.W.Frag} {mg : Str → Option Value} {Hf Hf' H H' H0 : Hp} {d : D} {v : V} (hk : k ≠ .o) (x : ExtF T Hf H Hf' H') (h : RK K mg k Hf H0 H d v) : RK K mg k Hf' H0 H' d v := by
  cases k with
  | v => exact Rep.sub x.sub h
  | b => exact RK.ext x h
  | o => exact absurd rfl hk
theorem RK.base' {K : PySem.W.Frag} {mg : Str → Option Value} {Hf H H1 H0 : Hp} {d : D} {v : V} (hk : k ≠ .o) (h : RK K mg k Hf H1 H d v) : RK K mg k Hf H0 H d v := by
  cases k with
  | v => exact h
  | b => exact h
  | o => exact absurd rfl hk
theorem RKL.base' {K : PySem.W.Frag} {mg : Str → Option Value} {Hf H H1 H0 : Hp} (hk : k ≠ .o) : ∀ {ds : List D} {vs : List V}, RKL K mg k Hf H1 H ds vs → RKL K mg k Hf H0 H ds vs
  | [], _, h => h
  | d :: ds, _, h => by
    obtain ⟨v, r, e, h1, h⟩ := h
    exact ⟨v, r, e, RK.base' hk h1, RKL.base' hk h⟩
theorem pda_cons {es : List Expr} {fs : Rho → R (List D)} (ha : PD X T Γ W k a fa) (hs : PDA X T Γ W k es fs) (hk : k ≠ .o := by decide) (hst : starEach (a :: es) X.env = (false, eval a X.env) :: starEach es X.env := by rfl) : PDA X T Γ W k (a :: es) (consE fa fs) :=
  PA.imp (pa_cons ha hs hst) fun σ H Q ⟨Hf, ρ, rel, p⟩ => ⟨Hf, ρ, rel, PostG.mono (PostG.bind p) fun d Hf1 H1 e1 x1 z v rk => ⟨Hf1, ρ, rel.ext x1, PostG.mono (PostG.bind z.2.2) fun ds Hf2 H2 e2 x2 z2 vs rks =>
    z2.2.2 Hf2 H2 (ExtF.refl x2.inn) (v :: vs) ⟨v, vs, rfl, RK.base' hk (RK.extK hk x2 rk), RKL.base' hk rks⟩⟩⟩
/-- a call of what is built in, by values -/
def FnB (X : Cx) (T : List (Addr × Str)) (g : List D → Option D) (k : Kd) (r : List V → Hp → VK → Prop) : Prop :=
  ∀ (Hf H : Hp) (vs : List V) (ds : List D) (d : D) (Q : VK), Sub Hf H → RKL X.K X.mg .b Hf H H ds vs → g ds = some d → (∀ v Hf' H', ExtF T Hf H Hf' H' → RK X.K X.mg k Hf' H H' d v → Q v H') → r vs H Q
def calE (g : List D → Option D) (fs : Rho → R (List D)) : Rho → R D := fun ρ => (fs ρ).bind fun ds => R.of (g ds)
theorem pd_cb {es : List Expr} {r : List V → Hp → VK → Prop} {g : List D → Option D} {fs : Rho → R (List D)} (h : PE X e (tCB r (tDA X.K X.mg T Γ W .b fs))) (hg : FnB X T g k r) : PD X T Γ W k e (calE g fs) :=
  PE.imp h fun σ H Q ⟨Hf, ρ, rel, p⟩ => ⟨Hf, ρ, rel, PostG.mono (PostG.bind p) fun ds Hf1 H1 e1 x1 z vs rks => by
    obtain ⟨d3, e3, p3⟩ := of_some z.2.2
    exact hg Hf1 H1 vs ds d3 Q x1.inn (RKL.base' (by decide) rks) e3 fun v3 Hf3 H3 x3 rk3 => p3 Hf3 H3 x3 v3 (RK.base x1.kp rk3)⟩
/-! ### displays -/
def tupE (fs : Rho → R (List D)) : Rho → R D := fun ρ => (fs ρ).bind fun ds => .ok (.tup ds)
def lstE (fs : Rho → R (List D)) : Rho → R D := fun ρ => (fs ρ).bind fun ds => .ok (.lst ds)
theorem RKL.length {K : PySem.W.Frag} {mg : Str → Option Value} {Hf H H0 : Hp} : ∀ {ds : List D} {vs : List V}, RKL K mg k Hf H0 H ds vs → vs.length = ds.length
  | [], vs, h => by rw [show vs = [] from h]; rfl
  | d :: ds, _, h => by
    obtain ⟨v, r, rfl, _, h⟩ := h
    simp [RKL.length h]
theorem pd_tup {es : List Expr} {fs : Rho → R (List D)} {x1} (h : PDA X T Γ W .v es fs) (hl : ∀ ρ ds, fs ρ = .ok ds → ds.length ≤ sizeLine) : PD X T Γ W .v (.Tuple es x1 pos) (tupE fs) :=
  PE.imp (pe_tup h) fun σ H Q ⟨Hf, ρ, rel, p⟩ => ⟨Hf, ρ, rel, PostG.mono (PostG.bind p) fun ds Hf1 H1 e1 x1 z vs rks => by
    have l := hl ρ ds e1
    refine ⟨by rw [RKL.length rks]; exact l, fun p hp => ?_⟩
    have x2 : ExtF T Hf1 H1 (upd Hf1 p (.tup vs)) (upd H1 p (.tup vs)) := ExtF.newF x1.inn hp (fun ps z => nomatch z)
    exact z.2.2 _ _ x2 (.ref p) ⟨p, vs, rfl, SqT.of upd_same, l, RepL.sub x2.sub rks.repL⟩⟩
theorem pd_lst {es : List Expr} {fs : Rho → R (List D)} (h : PDA X T Γ W .v es fs) (hl : ∀ ρ ds, fs ρ = .ok ds → ds.length ≤ sizeLine) : PD X T Γ W .o (.List es pos) (lstE fs) :=
  PE.imp (pe_lst h) fun σ H Q ⟨Hf, ρ, rel, p⟩ => ⟨Hf, ρ, rel, PostG.mono (PostG.bind p) fun ds Hf1 H1 e1 x1 z vs rks => by
    have l := hl ρ ds e1
    refine ⟨by rw [RKL.length rks]; exact l, fun p hp => ?_⟩
    have h0 : ¬ Old H p := fun z => Old.not hp (x1.kp p z)
    exact z.2.2 _ _ (ExtF.new (o := .lst vs) x1.inn hp) (.ref p) ⟨p, .lst vs, rfl, x1.inn.none hp, h0, upd_same, vs, rfl, l, rks.repL⟩⟩
theorem nil_len {n : Nat} : ∀ (ρ : Rho) ds, nilE ρ = .ok ds → ds.length ≤ n := fun ρ ds e => by cases e; exact Nat.zero_le _
theorem cons_len {n : Nat} {f : Rho → R D} {fs : Rho → R (List D)} (h : ∀ (ρ : Rho) ds, fs ρ = .ok ds → ds.length ≤ n) : ∀ (ρ : Rho) ds, consE f fs ρ = .ok ds → ds.length ≤ n + 1 := fun ρ ds e => by
  unfold consE at e
  cases q : f ρ with
  | ok d =>
    rw [q] at e
    cases q2 : fs ρ with
    | ok d2 =>
      simp [R.bind, q2] at e
      rw [← e]
      simpa using h ρ d2 q2
    | exc x => simp [R.bind, q2] at e
    | stuck => simp [R.bind, q2] at e
  | exc x => rw [q] at e; cases e
  | stuck => rw [q] at e; cases e
theorem len_ok {n m : Nat} {fs : Rho → R (List D)} (h : ∀ (ρ : Rho) ds, fs ρ = .ok ds → ds.length ≤ n) (l : n ≤ m) : ∀ (ρ : Rho) ds, fs ρ = .ok ds → ds.length ≤ m := fun ρ ds e => Nat.le_trans (h ρ ds e) l
/-! ### tests -/
def PDT (X : Cx) (T : List (Addr × Str)) (Γ : List Bool) (W : WX) (e : Expr) (f : Rho → R Bool) : Prop :=
  PT X e (fun σ H Q => ∃ Hf ρ, RelE X.K X.mg T Γ ρ Hf σ H ∧ PostG X.K X.mg T Hf H W σ (fun b _ H' => Q b H') (f ρ))
def PDW (X : Cx) (T : List (Addr × Str)) (Γ : List Bool) (W : WX) (e : Expr) (f : Rho → R Bool) : Prop :=
  PW X e (fun σ H Q => ∃ Hf ρ, RelE X.K X.mg T Γ ρ Hf σ H ∧ PostG X.K X.mg T Hf H W σ (fun b _ H' => Q b H') (f ρ))
theorem PT.imp {e : Expr} {t t' : TT} (h : PT X e t) (i : ∀ σ H Q, t' σ H Q → t σ H Q) : PT X e t' := ⟨fun pins s σ H Q I q => h.run pins s σ H Q I (i σ H Q q)⟩
theorem PW.imp {e : Expr} {t t' : TT} (h : PW X e t) (i : ∀ σ H Q, t' σ H Q → t σ H Q) : PW X e t' := ⟨fun wh pins s σ H Q I q => h.run wh pins s σ H Q I (i σ H Q q)⟩
@[simp] def D.asB : D → R Bool
  | .bl b => .ok b
  | _ => .stuck
def tstE (f : Rho → R D) : Rho → R Bool := fun ρ => (f ρ).bind D.asB
theorem asB_ok {K : PySem.W.Frag} {mg : Str → Option Value} {Hf H : Hp} {σ : St} {good : Bool → Hp → Hp → Prop} {d : D} (p : PostG K mg T Hf H W σ good d.asB) : ∃ c, d = .bl c ∧ ∀ Hf' H', ExtF T Hf H Hf' H' → good c Hf' H' := by
  cases d with
  | bl c => exact ⟨c, rfl, p⟩
  | _ => exact p.elim
theorem pdt_val (h : PD X T Γ W .b e f) (he : ∀ whole, isTrue e X.env whole = (do let v ← whole; standAt e.pos; holding [v] (truthy v)) := by intro _; rfl) : PDT X T Γ W e (tstE f) :=
  PT.imp (pt_val h he) fun σ H Q ⟨Hf, ρ, rel, p⟩ => ⟨Hf, ρ, rel, PostG.mono (PostG.bind p) fun d Hf1 H1 e1 x1 z v rk => by
    obtain ⟨c, rfl, q⟩ := asB_ok z.2.2
    exact ⟨c, RK.bl rk, q Hf1 H1 (ExtF.refl x1.inn)⟩⟩
/-- a comparison as a test -/
theorem pdt_cmp {op : CmpOp} {r : R2} {g : D → D → Option D} (ho : OpR X (compareOp op) r) (hg : OpD X T g .b r) (ha : PD X T Γ W .b a fa) (hb : PD X T Γ W .b b fb) (hm : behindInMarks op b = false) : PDT X T Γ W (.Compare a [op] [b] pos) (tstE (opE g fa fb)) :=
  PT.imp (pt_cmpR ho ha hb hm) fun σ H Q ⟨Hf, ρ, rel, p⟩ => by
    refine ⟨Hf, ρ, rel, ?_⟩
    have p : PostG X.K X.mg T Hf H W σ (fun b _ H' => Q b H') (((fa ρ).bind fun a => (fb ρ).bind fun b => R.of (g a b)).bind D.asB) := p
    have e : (((fa ρ).bind fun a => (fb ρ).bind fun b => R.of (g a b)).bind D.asB) = ((fa ρ).bind fun a => (fb ρ).bind fun b => (R.of (g a b)).bind D.asB) := by
      cases fa ρ with
      | ok d => cases fb ρ <;> rfl
      | exc _ => rfl
      | stuck => rfl
    rw [e] at p
    refine PostG.mono (PostG.bind p) fun d Hf1 H1 e1 x1 z v rk => ⟨Hf1, ρ, rel.ext x1, PostG.mono (PostG.bind z.2.2) fun d2 Hf2 H2 e2 x2 z2 v2 rk2 => ?_⟩
    have p3 := z2.2.2
    cases q : g d d2 with
    | none => rw [q] at p3; exact p3.elim
    | some d3 =>
      rw [q] at p3
      obtain ⟨c, rfl, q2⟩ := asB_ok (show PostG X.K X.mg T Hf2 H2 W σ (fun b _ H' => Q b H') d3.asB from p3)
      exact hg Hf2 H2 v v2 d d2 _ _ x2.inn (RK.base' (by decide) (RK.ext x2 rk)) (RK.base' (by decide) rk2) q fun v3 Hf3 H3 x3 rk3 => ⟨c, RK.bl rk3, q2 Hf3 H3 x3⟩
def andT (f g : Rho → R Bool) : Rho → R Bool := fun ρ => (f ρ).bind fun c => if c = true then g ρ else .ok false
def orT (f g : Rho → R Bool) : Rho → R Bool := fun ρ => (f ρ).bind fun c => if c = true then .ok true else g ρ
def notT (f : Rho → R Bool) : Rho → R Bool := fun ρ => (f ρ).bind fun c => .ok (!c)
variable {ft gt : Rho → R Bool} {rest : List Expr}
theorem pdt_w (h : PDW X T Γ W e ft) : PDT X T Γ W e ft := PW.pt h
theorem pdw_and1 (h : PDT X T Γ W a ft) : PDW X T Γ W (.BoolOp .And [a] pos) ft := pw_and1 h
theorem pdw_or1 (h : PDT X T Γ W a ft) : PDW X T Γ W (.BoolOp .Or [a] pos) ft := pw_or1 h
theorem pdw_and (ha : PDT X T Γ W a ft) (hb : PDW X T Γ W (.BoolOp .And (b :: rest) pos) gt) : PDW X T Γ W (.BoolOp .And (a :: b :: rest) pos) (andT ft gt) :=
  PW.imp (pw_and ha hb) fun σ H Q ⟨Hf, ρ, rel, p⟩ => ⟨Hf, ρ, rel, PostG.mono (PostG.bind p) fun c Hf1 H1 e1 x1 z => by
    have z := z.2.2
    cases c with
    | true => exact iteT ⟨Hf1, ρ, rel.ext x1, z⟩
    | false => exact iteF (z Hf1 H1 (ExtF.refl x1.inn))⟩
theorem pdw_or (ha : PDT X T Γ W a ft) (hb : PDW X T Γ W (.BoolOp .Or (b :: rest) pos) gt) : PDW X T Γ W (.BoolOp .Or (a :: b :: rest) pos) (orT ft gt) :=
  PW.imp (pw_or ha hb) fun σ H Q ⟨Hf, ρ, rel, p⟩ => ⟨Hf, ρ, rel, PostG.mono (PostG.bind p) fun c Hf1 H1 e1 x1 z => by
    have z := z.2.2
    cases c with
    | false => exact iteF ⟨Hf1, ρ, rel.ext x1, z⟩
    | true => exact iteT (z Hf1 H1 (ExtF.refl x1.inn))⟩
theorem pdt_not (ha : PDT X T Γ W a ft) : PDT X T Γ W (.UnaryOp .Not a pos) (notT ft) :=
  PT.imp (pt_not ha) fun σ H Q ⟨Hf, ρ, rel, p⟩ => ⟨Hf, ρ, rel, PostG.mono (PostG.bind p) fun c Hf1 H1 e1 x1 z => z.2.2 Hf1 H1 (ExtF.refl x1.inn)⟩
/-! ### truths as values -/
def andE (f g : Rho → R D) : Rho → R D := fun ρ => (f ρ).bind fun d => d.asB.bind fun c => if c = true then g ρ else .ok (.bl false)
def orE (f g : Rho → R D) : Rho → R D := fun ρ => (f ρ).bind fun d => d.asB.bind fun c => if c = true then .ok (.bl true) else g ρ
def notE (f : Rho → R D) : Rho → R D := fun ρ => (f ρ).bind fun d => d.asB.bind fun c => .ok (.bl (!c))
theorem asB_bind {K : PySem.W.Frag} {mg : Str → Option Value} {Hf H : Hp} {σ : St} {α : Type} {good : α → Hp → Hp → Prop} {d : D} {g : Bool → R α} (p : PostG K mg T Hf H W σ good (d.asB.bind g)) : ∃ c, d = .bl c ∧ PostG K mg T Hf H W σ good (g c) := by
  cases d with
  | bl c => exact ⟨c, rfl, p⟩
  | _ => exact p.elim
theorem pd_one {op} (h : PD X T Γ W k a fa) : PD X T Γ W k (.BoolOp op [a] pos) fa := pe_one h
theorem pd_and (ha : PD X T Γ W .b a fa) (hb : PD X T Γ W .b (.BoolOp .And (b :: rest) pos) fb) : PD X T Γ W .b (.BoolOp .And (a :: b :: rest) pos) (andE fa fb) :=
  PE.imp (pe_and ha hb) fun σ H Q ⟨Hf, ρ, rel, p⟩ => ⟨Hf, ρ, rel, PostE.bind p fun d v Hf1 H1 e1 x1 rk p1 => by
    obtain ⟨c, rfl, p2⟩ := asB_bind p1
    refine ⟨c, RK.bl rk, ?_⟩
    cases c with
    | true => exact iteT ⟨Hf1, ρ, rel.ext x1, p2⟩
    | false => exact iteF (p2 Hf1 H1 (ExtF.refl x1.inn) _ (.inl rfl))⟩
theorem pd_or (ha : PD X T Γ W .b a fa) (hb : PD X T Γ W .b (.BoolOp .Or (b :: rest) pos) fb) : PD X T Γ W .b (.BoolOp .Or (a :: b :: rest) pos) (orE fa fb) :=
  PE.imp (pe_or ha hb) fun σ H Q ⟨Hf, ρ, rel, p⟩ => ⟨Hf, ρ, rel, PostE.bind p fun d v Hf1 H1 e1 x1 rk p1 => by
    obtain ⟨c, rfl, p2⟩ := asB_bind p1
    refine ⟨c, RK.bl rk, ?_⟩
    cases c with
    | false => exact iteF ⟨Hf1, ρ, rel.ext x1, p2⟩
    | true => exact iteT (p2 Hf1 H1 (ExtF.refl x1.inn) _ (.inl rfl))⟩
theorem pd_not (ha : PD X T Γ W .b a fa) : PD X T Γ W .b (.UnaryOp .Not a pos) (notE fa) :=
  PE.imp (pe_not ha) fun σ H Q ⟨Hf, ρ, rel, p⟩ => ⟨Hf, ρ, rel, PostE.bind p fun d v Hf1 H1 e1 x1 rk p1 => by
    obtain ⟨c, rfl, p2⟩ := asB_bind p1
    exact ⟨c, RK.bl rk, p2 Hf1 H1 (ExtF.refl x1.inn) _ (.inl rfl)⟩⟩
def ifE (c : Rho → R Bool) (f g : Rho → R D) : Rho → R D := fun ρ => (c ρ).bind fun b => if b = true then f ρ else g ρ
theorem pd_ifExp {c : Expr} (hc : PDT X T Γ W c ft) (ha : PD X T Γ W k a fa) (hb : PD X T Γ W k b fb) : PD X T Γ W k (.IfExp c a b pos) (ifE ft fa fb) :=
  PE.imp (pe_ifExp hc ha hb) fun σ H Q ⟨Hf, ρ, rel, p⟩ => ⟨Hf, ρ, rel, PostG.mono (PostG.bind p) fun c Hf1 H1 e1 x1 z => by
    have z := z.2.2
    cases c with
    | true => exact iteT ⟨Hf1, ρ, rel.ext x1, PostG.mono z fun _ _ _ _ _ y v q => y v (RK.base x1.kp q)⟩
    | false => exact iteF ⟨Hf1, ρ, rel.ext x1, PostG.mono z fun _ _ _ _ _ y v q => y v (RK.base x1.kp q)⟩⟩
/-- a scalar that is read is a value -/
def D.sca : D → Option D
  | .non => some .non
  | .bl b => some (.bl b)
  | .int i => some (.int i)
  | .str x => some (.str x)
  | _ => none
theorem PD.bv (h : PD X T Γ W .b e f) : PD X T Γ W .v e (unE D.sca f) :=
  pd_un (r := fun x H Q => Q x H) h (fun _ _ _ q => q) fun Hf H x a d Q s r e q => by
    cases a <;> simp only [D.sca, Option.some.injEq, reduceCtorEq] at e
    all_goals subst e
    · exact q x Hf H (ExtF.refl s) (RK.non r)
    · exact q x Hf H (ExtF.refl s) (RK.bl r)
    · exact q x Hf H (ExtF.refl s) (RK.int r)
    · exact q x Hf H (ExtF.refl s) (RK.str r)
/-! ### calls of the program's own defs -/
def spD (K : PySem.W.Frag) (mg : Str → Option Value) (T : List (Addr × Str)) (n : Nat) (k : Kd) (F : List D → R D) : Sp := fun vs H Q E =>
  vs.length = n ∧ ∃ Hf ds, Sub Hf H ∧ LamX.Tabs T H ∧ RepL K mg Hf ds vs ∧ PostE K mg T Hf H k (fun c d _ H' => E c d H') [] Q (F ds)
abbrev FnD (P : Program) (w : World) (K : PySem.W.Frag) (mg : Str → Option Value) (base : Heap) (T : List (Addr × Str)) (lv : Nat) (f : Addr) (fd : FuncData) (ps : List Str) (k : Kd) (F : List D → R D) : Prop :=
  FnOk P w K mg base (L2N.CX P w) lv f fd ps (spD K mg T ps.length k F)
def appE (F : List D → R D) (fs : Rho → R (List D)) : Rho → R D := fun ρ => (fs ρ).bind F
theorem PostG.sig {K : PySem.W.Frag} {mg : Str → Option Value} {Hf H : Hp} {α : Type} {good : α → Hp → Hp → Prop} {r : R α} {W' : WX} {σ σ' : St} (h : PostG K mg T Hf H W σ good r) (hw : ∀ c d H, W c d σ H → W' c d σ' H) : PostG K mg T Hf H W' σ' good r := by
  cases r with
  | ok a => exact h
  | exc e => exact fun c d Hf' H' x q => hw c d H' (h c d Hf' H' x q)
  | stuck => exact h
theorem app_post {K : PySem.W.Frag} {mg : Str → Option Value} {Hf H : Hp} {σ : St} {Q : VK} {ρ : Rho} {n : Nat} {F : List D → R D} {fs : Rho → R (List D)} (hl : ∀ ds, fs ρ = .ok ds → ds.length = n) (rel : RelE K mg T Γ ρ Hf σ H) (p : PostE K mg T Hf H k W σ Q (appE F fs ρ)) :
    PostG K mg T Hf H W σ (fun ds Hf' H' => ∀ vs, RKL K mg .v Hf' H H' ds vs → spD K mg T n k F vs H' Q (fun c d H2 => W c d σ H2)) (fs ρ) :=
  PostG.mono (PostG.bind p) fun ds Hf1 H1 e1 x1 z vs rks => ⟨(RKL.length rks).trans (hl ds e1), Hf1, ds, x1.inn, x1.tab rel.tab, rks.repL, PostG.sig (PostG.mono z.2.2 fun _ _ _ _ _ y v q => y v (RK.base x1.kp q)) fun _ _ _ h => h⟩
theorem pd_call {x : Str} {p : Pos} {es : List Expr} {lv : Nat} {fa : Addr} {fd : FuncData} {ps : List Str} {F : List D → R D} {fs : Rho → R (List D)} (G : FnD X.prog X.w X.K X.mg X.base T lv fa fd ps k F) (hr : Room lv X.A) (hg : Gl X x) (hm : X.mg x = some (.ref fa))
    (hk : PySem.W.keepIn X.K (.ref fa) = true) (hb : Binds X.K fd ps []) (tk : L2N.Takes X W) (ha : PDA X T Γ W .v (a :: es) fs) (hl : ∀ ρ ds, fs ρ = .ok ds → ds.length = ps.length) (hdb : (x == ("__debug__" : Str)) = false := by decide)
    (he : starEach (a :: es) X.env = (false, eval a X.env) :: starEach es X.env := by rfl) (hpl : (backTo pos (starEach es X.env)).any (·.1) = false := by rfl) : PD X T Γ W k (.Call (.Name x p) (a :: es) [] pos) (appE F fs) :=
  PE.imp (pe_callS G hr hg hm hk hb (fun σ => L2N.passAt tk σ) ha hdb he hpl) fun σ H Q ⟨Hf, ρ, rel, p⟩ => ⟨Hf, ρ, rel, app_post (hl ρ) rel p⟩
theorem passN {X : Cx} : Passes (L2N.CX X.prog X.w) X (fun _ _ _ => False) := fun _ _ _ _ _ _ _ h => by
  obtain ⟨_, _, _, _, _, _, _, _, _, _, _, _, z⟩ := h
  exact z.elim
theorem pd_call0 {x : Str} {p : Pos} {lv : Nat} {fa : Addr} {fd : FuncData} {F : List D → R D} (G : FnD X.prog X.w X.K X.mg X.base T lv fa fd [] k F) (hr : Room lv X.A) (hg : Gl X x) (hm : X.mg x = some (.ref fa))
    (hk : PySem.W.keepIn X.K (.ref fa) = true) (hb : Binds X.K fd [] []) (hF : ∀ e, F [] ≠ .exc e) (hdb : (x == ("__debug__" : Str)) = false := by decide) : PD X T Γ W k (.Call (.Name x p) [] [] pos) (appE F nilE) :=
  PE.imp (pe_call0 G hr hg hm hk hb .nil passN hdb) fun σ H Q ⟨Hf, ρ, rel, p⟩ => by
    refine ⟨rfl, Hf, [], rel.sub, rel.tab, rfl, ?_⟩
    have p : PostE X.K X.mg T Hf H k W σ Q (F []) := p
    cases e : F [] with
    | ok d => rw [e] at p; exact p
    | exc x => exact absurd e (hF x)
    | stuck => rw [e] at p; exact p
theorem nil_n : ∀ (ρ : Rho) ds, nilE ρ = .ok ds → ds.length = 0 := fun ρ ds e => by cases e; rfl
theorem cons_n {n : Nat} {f : Rho → R D} {fs : Rho → R (List D)} (h : ∀ (ρ : Rho) ds, fs ρ = .ok ds → ds.length = n) : ∀ (ρ : Rho) ds, consE f fs ρ = .ok ds → ds.length = n + 1 := fun ρ ds e => by
  unfold consE at e
  cases q : f ρ with
  | ok d =>
    rw [q] at e
    cases q2 : fs ρ with
    | ok d2 =>
      simp [R.bind, q2] at e
      rw [← e]
      simpa using h ρ d2 q2
    | exc x => simp [R.bind, q2] at e
    | stuck => simp [R.bind, q2] at e
  | exc x => rw [q] at e; cases e
  | stuck => rw [q] at e; cases e
end
end BV
namespace BV
open PySem PySem.Spec PyProof.Rows L2
/-! ### what is walked -/
def IterD (K : PySem.W.Frag) (mg : Str → Option Value) (T : List (Addr × Str)) (J : It) (Hf1 : Hp) (ds : List D) : Prop :=
  ∀ (j : Nat) (Hf H : Hp), Sub Hf1 Hf → Sub Hf H → (∀ d, ds[j]? = some d → J.go j H ∧ ∀ x H', J.yld j H x H' → ∃ Hf', ExtF T Hf H Hf' H' ∧ Rep K mg Hf' d x) ∧ (ds.length ≤ j → J.stop j H)
def PDI (X : Cx) (T : List (Addr × Str)) (Γ : List Bool) (W : WX) (tg iter : Expr) (f : Rho → R (List D)) : Prop :=
  PI X tg iter (fun σ H R => ∃ Hf ρ, RelE X.K X.mg T Γ ρ Hf σ H ∧ PostG X.K X.mg T Hf H W σ (fun ds Hf' H' => ∀ J, IterD X.K X.mg T J Hf' ds → ds.length ≤ sizeLine → R J H') (f ρ))
theorem PI.imp {X : Cx} {tg e : Expr} {t t' : TI} (h : PI X tg e t) (i : ∀ σ H R, t' σ H R → t σ H R) : PI X tg e t' := ⟨fun pins s σ H R I q => h.run pins s σ H R I (i σ H R q)⟩
def signs (x : Str) : List D := x.cps.toList.map fun c => .str ⟨#[c]⟩
/-- the items of what is walked -/
def D.iter : D → R (List D)
  | .lst ds => .ok ds
  | .tup ds => .ok ds
  | .str x => .ok (signs x)
  | .scr ns => .ok (ns.map .int)
  | _ => .stuck
section
variable {K : PySem.W.Frag} {mg : Str → Option Value} {T : List (Addr × Str)} {Hf H : Hp}
theorem iterD_list {a : Addr} {vs : List V} {ds : List D} (h : Hf a = some (.lst vs)) (r : RepL K mg Hf ds vs) : IterD K mg T (Itl K a) Hf ds := fun j Hf' H' s1 s2 => by
  have hl : H' a = some (.lst vs) := (s2 _ _ (s1 _ _ h).1).1
  have lq : SqL K H' a vs := SqL.of hl
  refine ⟨fun d e => ?_, fun l => ⟨vs, lq, by rw [r.length]; exact l⟩⟩
  obtain ⟨v, e1, e2⟩ := r.get e
  refine ⟨⟨vs, v, lq, e1⟩, fun x H2 ⟨eH, q⟩ => ?_⟩
  subst eH
  have q2 := q vs lq
  rw [e1] at q2
  cases q2
  exact ⟨Hf', ExtF.refl s2, Rep.sub s1 e2⟩
theorem iterD_tup {a : Addr} {vs : List V} {ds : List D} (h : SqT K Hf a vs) (r : RepL K mg Hf ds vs) : IterD K mg T (Itt K a) Hf ds := fun j Hf' H' s1 s2 => by
  have lq : SqT K H' a vs := SqT.sub s2 (SqT.sub s1 h)
  refine ⟨fun d e => ?_, fun l => ⟨vs, lq, by rw [r.length]; exact l⟩⟩
  obtain ⟨v, e1, e2⟩ := r.get e
  refine ⟨⟨vs, v, lq, e1⟩, fun x H2 ⟨eH, q⟩ => ?_⟩
  subst eH
  have q2 := q vs lq
  rw [e1] at q2
  cases q2
  exact ⟨Hf', ExtF.refl s2, Rep.sub s1 e2⟩
theorem iterD_scr {a : Addr} {ns : List Int} (h : SqL K Hf a (ns.map V.int)) : IterD K mg T (Itl K a) Hf (ns.map D.int) := fun j Hf' H' s1 s2 => by
  have lq : SqL K H' a (ns.map V.int) := SqL.sub s2 (SqL.sub s1 h)
  refine ⟨fun d e => ?_, fun l => ⟨_, lq, by rw [List.length_map] at l ⊢; exact l⟩⟩
  rw [List.getElem?_map] at e
  cases q : ns[j]? with
  | none => rw [q] at e; cases e
  | some n =>
    rw [q] at e
    cases e
    have e1 : (ns.map V.int)[j]? = some (.int n) := by rw [List.getElem?_map, q]; rfl
    refine ⟨⟨_, _, lq, e1⟩, fun x H2 ⟨eH, q⟩ => ?_⟩
    subst eH
    have q2 := q _ lq
    rw [e1] at q2
    cases q2
    exact ⟨Hf', ExtF.refl s2, rfl⟩
theorem strOk_sign {x : Str} (h : PyData.strOk x = true) {j c : Nat} (e : x.cps[j]? = some c) : PyData.strOk ⟨#[c]⟩ = true := by
  unfold PyData.strOk at h ⊢
  have h2 := Array.all_eq_true.mp h
  obtain ⟨hj, e⟩ := Array.getElem?_eq_some_iff.mp e
  have h3 := h2 j hj
  rw [e] at h3
  simpa using h3
theorem iterD_str {x : Str} (h : PyData.strOk x = true) : IterD K mg T (Its x) Hf (signs x) := fun j Hf' H' s1 s2 => by
  refine ⟨fun d e => ?_, fun l => by show x.cps.size ≤ j; simpa [signs] using l⟩
  unfold signs at e
  rw [List.getElem?_map] at e
  cases q : x.cps.toList[j]? with
  | none => rw [q] at e; cases e
  | some c =>
    rw [q] at e
    cases e
    have q' : x.cps[j]? = some c := by simpa using q
    obtain ⟨hj, _⟩ := Array.getElem?_eq_some_iff.mp q'
    refine ⟨hj, fun v H2 ⟨eH, c', e1, e2⟩ => ?_⟩
    subst eH e2
    rw [q'] at e1
    cases e1
    exact ⟨Hf', ExtF.refl s2, rfl, strOk_sign h q', by show 1 ≤ sizeLine; decide⟩
def upto (n : Nat) : List D := (List.range n).map fun i => .int (i : Nat)
theorem iterD_range {n : Nat} : IterD K mg T (Itr 0 n) Hf (upto n) := fun j Hf' H' s1 s2 => by
  refine ⟨fun d e => ?_, fun l => by show n ≤ j; simpa [upto] using l⟩
  unfold upto at e
  rw [List.getElem?_map] at e
  by_cases hj : j < n
  · rw [List.getElem?_range hj] at e
    cases e
    refine ⟨hj, fun v H2 ⟨eH, e2⟩ => ?_⟩
    subst eH e2
    exact ⟨Hf', ExtF.refl s2, by show V.int (0 + (j : Int)) = V.int j; rw [Int.zero_add]⟩
  · rw [List.getElem?_eq_none (by simpa using hj)] at e
    cases e
end
section
variable {X : Cx} {T : List (Addr × Str)} {Γ : List Bool} {W : WX} {k : Kd} {e a b : Expr} {f fa fb : Rho → R D} {pos : Pos} {tg : Expr}
def itE (f : Rho → R D) : Rho → R (List D) := fun ρ => (f ρ).bind D.iter
theorem pdi_any (h : PD X T Γ W .v e f) : PDI X T Γ W tg e (itE f) := by
  refine ⟨fun pins s σ H R I ⟨Hf, ρ, rel, p⟩ => ?_⟩
  have p := PostG.bind p
  cases q : f ρ with
  | exc x =>
    rw [q] at p
    exact (pi_list h).run pins s σ H R I ⟨Hf, ρ, rel, by rw [q]; exact p⟩
  | stuck => rw [q] at p; exact p.elim
  | ok d =>
    rw [q] at p
    cases d with
    | lst ds =>
      refine (pi_list h).run pins s σ H R I ⟨Hf, ρ, rel, ?_⟩
      rw [q]
      intro Hf1 H1 x1 v rk
      obtain ⟨_, _, z⟩ := p Hf1 H1 x1
      obtain ⟨a, vs, e1, h1, h2, h3⟩ := rk
      exact ⟨a, e1, ⟨vs, SqL.of (x1.inn _ _ h1).1⟩, z Hf1 H1 (ExtF.refl x1.inn) _ (iterD_list h1 h3) h2⟩
    | tup ds =>
      refine (pi_tup h).run pins s σ H R I ⟨Hf, ρ, rel, ?_⟩
      rw [q]
      intro Hf1 H1 x1 v rk
      obtain ⟨_, _, z⟩ := p Hf1 H1 x1
      obtain ⟨a, vs, e1, h1, h2, h3⟩ := rk
      exact ⟨a, e1, ⟨vs, SqT.sub x1.inn h1⟩, z Hf1 H1 (ExtF.refl x1.inn) _ (iterD_tup h1 h3) h2⟩
    | scr ns =>
      refine (pi_list h).run pins s σ H (fun J H' => R J H') I ⟨Hf, ρ, rel, ?_⟩
      rw [q]
      intro Hf1 H1 x1 v rk
      obtain ⟨_, _, z⟩ := p Hf1 H1 x1
      obtain ⟨a, e1, h1, h2⟩ := rk
      exact ⟨a, e1, ⟨_, SqL.sub x1.inn h1⟩, z Hf1 H1 (ExtF.refl x1.inn) _ (iterD_scr h1) (by rw [List.length_map]; exact h2)⟩
    | str x =>
      refine (pi_str h).run pins s σ H R I ⟨Hf, ρ, rel, ?_⟩
      rw [q]
      intro Hf1 H1 x1 v rk
      obtain ⟨_, _, z⟩ := p Hf1 H1 x1
      obtain ⟨e1, h1, h2⟩ := rk
      exact ⟨x, e1, z Hf1 H1 (ExtF.refl x1.inn) _ (iterD_str h1) (by simpa [signs] using (show x.cps.size ≤ sizeLine from h2))⟩
    | non => exact ((p Hf H (ExtF.refl rel.sub)).2.2).elim
    | bl _ => exact ((p Hf H (ExtF.refl rel.sub)).2.2).elim
    | int _ => exact ((p Hf H (ExtF.refl rel.sub)).2.2).elim
    | dic _ _ => exact ((p Hf H (ExtF.refl rel.sub)).2.2).elim
    | obj _ _ _ => exact ((p Hf H (ExtF.refl rel.sub)).2.2).elim
    | loc _ => exact ((p Hf H (ExtF.refl rel.sub)).2.2).elim
def rngD : List D → R (List D)
  | [.int n] => if n ≤ 16777216 ∧ -16777216 ≤ n then .ok (upto n.toNat) else .stuck
  | _ => .stuck
def rngE (fs : Rho → R (List D)) : Rho → R (List D) := fun ρ => (fs ρ).bind rngD
theorem pdi_range {p : Pos} {fs : Rho → R (List D)} (hg : Gl X "range") (hm : X.mg "range" = none) (ha : PDA X T Γ W .b [a] fs) (hs : starEach [a] X.env = [(false, eval a X.env)] := by rfl) : PDI X T Γ W tg (.Call (.Name "range" p) [a] [] pos) (rngE fs) :=
  PI.imp (pi_range1 hg hm ha hs) fun σ H R ⟨Hf, ρ, rel, p⟩ => ⟨Hf, ρ, rel, PostG.mono (PostG.bind p) fun ds Hf1 H1 e1 x1 z vs rks => by
    have z : PostG X.K X.mg T Hf1 H1 W σ (fun ds Hf' H' => ∀ J, IterD X.K X.mg T J Hf' ds → ds.length ≤ sizeLine → R J H') (rngD ds) := z.2.2
    obtain ⟨n, rfl, hn, z⟩ : ∃ n, ds = [.int n] ∧ (n ≤ 16777216 ∧ -16777216 ≤ n) ∧ PostG X.K X.mg T Hf1 H1 W σ (fun ds Hf' H' => ∀ J, IterD X.K X.mg T J Hf' ds → ds.length ≤ sizeLine → R J H') (.ok (upto n.toNat)) := by
      unfold rngD at z
      split at z
      · rename_i n _
        split at z
        · rename_i hn
          exact ⟨n, rfl, hn, z⟩
        · exact (show False from z).elim
      · exact (show False from z).elim
    obtain ⟨v, r, e2, h1, h2⟩ := rks
    have e3 : r = [] := h2
    have e4 := RK.int h1
    subst e2 e3 e4
    refine ⟨n, rfl, by omega, by omega, z Hf1 H1 (ExtF.refl x1.inn) _ iterD_range ?_⟩
    simp only [upto, List.length_map, List.length_range]
    rw [sizeLine_eq]
    omega⟩
/-! ### targets -/
def setsR : List Nat → List D → Rho → Option Rho
  | [], [], ρ => some ρ
  | i :: is, d :: ds, ρ => setsR is ds (ρ.set i (some d))
  | _, _, _ => none
def setsΓ : List Nat → List Bool → List Bool
  | [], Γ => Γ
  | i :: is, Γ => setsΓ is (Γ.set i false)
inductive Tg where
  | one (i : Nat)
  | many (is : List Nat)
def Tg.set : Tg → D → Rho → R Rho
  | .one i, d, ρ => .ok (ρ.set i (some d))
  | .many is, .tup ds, ρ => R.of (setsR is ds ρ)
  | _, _, _ => .stuck
def Tg.slots : Tg → List Nat
  | .one i => [i]
  | .many is => is
def Tg.gam (t : Tg) (G : List Bool) : List Bool := setsΓ t.slots G
def gNames : List Nat → TGs
  | [] => gNil
  | i :: is => gCons (gName i) (gNames is)
def Tg.g (K : PySem.W.Frag) : Tg → TG
  | .one i => gName i
  | .many is => gTup K is.length (gNames is)
section
variable {K : PySem.W.Frag} {mg : Str → Option Value} {ρ ρ' : Rho} {Hf H H0 : Hp} {σ : St}
/-- own objects are younger than H0 -/
def Fr (Γ : List Bool) (ρ : Rho) (σ : St) (H0 : Hp) : Prop := ∀ (i : Nat) (a : Addr), Γ[i]? = some true → (∃ d : D, ρ[i]? = some (some d)) → σ[i]? = some (some (.ref a)) → ¬ Old H0 a
theorem get_set {α : Type} {l : List α} {i j : Nat} {x : α} : (l.set i x)[j]? = if i = j then (if i < l.length then some x else none) else l[j]? := by
  by_cases h : i = j
  · subst h
    rw [if_pos rfl]
    by_cases h2 : i < l.length
    · rw [if_pos h2, List.getElem?_set_self h2]
    · rw [if_neg h2, List.getElem?_eq_none (by simpa using h2)]
  · rw [if_neg h, List.getElem?_set_ne h]
theorem RelE.setv (r : RelE K mg T Γ ρ Hf σ H) (i : Nat) {d : D} {v : V} (h : Rep K mg Hf d v) : RelE K mg T (Γ.set i false) (ρ.set i (some d)) Hf (σ.set i (some v)) H := by
  have gΓ : ∀ j, (Γ.set i false)[j]? = some true → i ≠ j ∧ Γ[j]? = some true := fun j q => by
    rw [get_set] at q
    by_cases h : i = j
    · rw [if_pos h] at q
      split at q <;> cases q
    · rw [if_neg h] at q
      exact ⟨h, q⟩
  refine ⟨r.sub, r.tab, by simp [r.len], fun j d' e g => ?_, fun j d' e g => ?_, fun j l a n g1 g2 o1 o2 => ?_⟩
  · rw [get_set] at e ⊢
    by_cases q : i = j
    · rw [if_pos q] at e ⊢
      by_cases l : i < ρ.length
      · rw [if_pos l] at e
        rw [if_pos (by rw [← r.len]; exact l)]
        cases e
        exact ⟨v, rfl, h⟩
      · rw [if_neg l] at e
        cases e
    · rw [if_neg q] at e ⊢
      refine r.val j d' e fun z => g ?_
      rw [get_set, if_neg q]
      exact z
  · obtain ⟨q, g⟩ := gΓ j g
    rw [get_set, if_neg q] at e
    rw [get_set, if_neg q]
    exact r.own j d' e g
  · obtain ⟨q1, g1⟩ := gΓ j g1
    obtain ⟨q2, g2⟩ := gΓ l g2
    rw [get_set, if_neg q1] at o1
    rw [get_set, if_neg q2] at o2
    rw [get_set, if_neg q1, get_set, if_neg q2]
    exact r.apart j l a n g1 g2 o1 o2
theorem Fr.setv (r : Fr Γ ρ σ H0) (i : Nat) {d : D} {v : V} : Fr (Γ.set i false) (ρ.set i (some d)) (σ.set i (some v)) H0 := fun j a g o e => by
  rw [get_set] at g
  by_cases q : i = j
  · rw [if_pos q] at g
    split at g <;> cases g
  · rw [if_neg q] at g
    rw [get_set, if_neg q] at e o
    exact r j a g o e
theorem RelE.seto (r : RelE K mg T Γ ρ Hf σ H) (i : Nat) (hi : i < Γ.length) {d : D} {a : Addr} {o : HO} (h1 : Hf a = none) (h2 : H a = some o) (h3 : RepO K mg Hf d o) (hn : ∀ j : Nat, Γ[j]? = some true → (∃ d : D, ρ[j]? = some (some d)) → σ[j]? ≠ some (some (.ref a))) :
    RelE K mg T (Γ.set i true) (ρ.set i (some d)) Hf (σ.set i (some (.ref a))) H := by
  refine ⟨r.sub, r.tab, by simp [r.len], fun j d' e g => ?_, fun j d' e g => ?_, fun j l b n g1 g2 o1 o2 => ?_⟩
  · rw [get_set] at e g ⊢
    by_cases q : i = j
    · rw [if_pos q] at e g
      by_cases l : i < ρ.length
      · rw [if_pos l] at e
        cases e
        rw [if_pos hi] at g
        exact absurd rfl g
      · rw [if_neg l] at e
        cases e
    · rw [if_neg q] at e g ⊢
      exact r.val j d' e g
  · rw [get_set] at e g ⊢
    by_cases q : i = j
    · rw [if_pos q] at e g ⊢
      by_cases l : i < ρ.length
      · rw [if_pos l] at e
        rw [if_pos (by rw [← r.len]; exact l)]
        cases e
        exact ⟨a, o, rfl, h1, h2, h3⟩
      · rw [if_neg l] at e
        cases e
    · rw [if_neg q] at e g ⊢
      exact r.own j d' e g
  · rw [get_set] at g1 g2 o1 o2
    rw [get_set, get_set]
    by_cases q1 : i = j
    · by_cases q2 : i = l
      · exact absurd (q1.symm.trans q2) n
      · rw [if_pos q1, if_neg q2]
        rw [if_neg q2] at g2 o2
        intro e1 e2
        split at e1
        · cases e1
          exact hn l g2 o2 e2
        · cases e1
    · rw [if_neg q1] at g1 o1 ⊢
      by_cases q2 : i = l
      · rw [if_pos q2]
        intro e1 e2
        split at e2
        · cases e2
          exact hn j g1 o1 e1
        · cases e2
      · rw [if_neg q2] at g2 o2 ⊢
        exact r.apart j l b n g1 g2 o1 o2
theorem Fr.seto (r : Fr Γ ρ σ H0) (i : Nat) {d : D} {a : Addr} (h : ¬ Old H0 a) : Fr (Γ.set i true) (ρ.set i (some d)) (σ.set i (some (.ref a))) H0 := fun j b g o e => by
  rw [get_set] at g e o
  by_cases q : i = j
  · rw [if_pos q] at e
    split at e
    · cases e
      exact h
    · cases e
  · rw [if_neg q] at g o e
    exact r j b g o e
theorem wipe_get {σ : St} : ∀ {vs : List Nat} {j : Nat}, (wipe σ vs)[j]? = if j ∈ vs then (if j < σ.length then some none else none) else σ[j]?
  | [], j => by simp [wipe]
  | v :: vs, j => by
    unfold wipe
    rw [get_set, wipe_length, wipe_get]
    by_cases h : v = j
    · subst h
      simp
    · rw [if_neg h]
      by_cases h2 : j ∈ vs
      · rw [if_pos h2, if_pos (List.mem_cons_of_mem _ h2)]
      · rw [if_neg h2, if_neg (by simp only [List.mem_cons, not_or]; exact ⟨fun z => h z.symm, h2⟩)]
theorem wipe_set {σ : St} {i : Nat} {x : Option V} {vs : List Nat} (h : i ∈ vs) : wipe (σ.set i x) vs = wipe σ vs := by
  apply List.ext_getElem?
  intro j
  rw [wipe_get, wipe_get, List.length_set]
  by_cases q : j ∈ vs
  · rw [if_pos q, if_pos q]
  · rw [if_neg q, if_neg q, get_set, if_neg (fun z => q (by rw [← z]; exact h))]
theorem wipe_wipe {σ : St} {vs : List Nat} : wipe (wipe σ vs) vs = wipe σ vs := by
  apply List.ext_getElem?
  intro j
  by_cases q : j ∈ vs
  · simp only [wipe_get, if_pos q, wipe_length]
  · simp only [wipe_get, if_neg q]
theorem gNames_ok {H0 : Hp} : ∀ (is : List Nat) {Γ : List Bool} {ds : List D} {vs : List V} {ρ ρ' : Rho} {σ : St} {Q : St → Hp → Prop}, RelE K mg T Γ ρ Hf σ H → Fr Γ ρ σ H0 → RepL K mg Hf ds vs → setsR is ds ρ = some ρ' →
    (∀ σ', (∀ ws : List Nat, (∀ i ∈ is, i ∈ ws) → wipe σ' ws = wipe σ ws) → RelE K mg T (setsΓ is Γ) ρ' Hf σ' H → Fr (setsΓ is Γ) ρ' σ' H0 → Q σ' H) → gNames is vs σ H Q
  | [], Γ, ds, vs, ρ, ρ', σ, Q, r, fr, h, e, q => by
    cases ds with
    | nil =>
      cases e
      exact ⟨h, q σ (fun _ _ => rfl) r fr⟩
    | cons _ _ => cases e
  | i :: is, Γ, ds, vs, ρ, ρ', σ, Q, r, fr, h, e, q => by
    cases ds with
    | nil => cases e
    | cons d ds =>
      obtain ⟨v, rr, rfl, h1, h2⟩ := h
      exact ⟨v, rr, rfl, gNames_ok is (r.setv i h1) (fr.setv i) h2 e fun σ' w => q σ' fun ws hw => (w ws fun j hj => hw j (List.mem_cons_of_mem _ hj)).trans (wipe_set (hw i List.mem_cons_self))⟩
theorem setsR_len : ∀ (is : List Nat) {ds : List D} {ρ ρ' : Rho}, setsR is ds ρ = some ρ' → ds.length = is.length
  | [], [], _, _, _ => rfl
  | [], _ :: _, _, _, e => by cases e
  | _ :: _, [], _, _, e => by cases e
  | i :: is, d :: ds, ρ, ρ', e => by
    simp only [List.length_cons]
    rw [setsR_len is (show setsR is ds (ρ.set i (some d)) = some ρ' from e)]
theorem Tg.ok (t : Tg) {H0 : Hp} {Γ : List Bool} {d : D} {v : V} {ρ ρ' : Rho} {σ : St} {Q : St → Hp → Prop} (r : RelE K mg T Γ ρ Hf σ H) (fr : Fr Γ ρ σ H0) (h : Rep K mg Hf d v) (e : t.set d ρ = .ok ρ')
    (q : ∀ σ', (∀ ws : List Nat, (∀ i ∈ t.slots, i ∈ ws) → wipe σ' ws = wipe σ ws) → RelE K mg T (t.gam Γ) ρ' Hf σ' H → Fr (t.gam Γ) ρ' σ' H0 → Q σ' H) : t.g K v σ H Q := by
  cases t with
  | one i =>
    have e : ρ.set i (some d) = ρ' := by
      have e : (R.ok (ρ.set i (some d)) : R Rho) = .ok ρ' := e
      cases e
      rfl
    subst e
    exact q _ (fun ws hw => wipe_set (hw i (List.mem_singleton.mpr rfl))) (r.setv i h) (fr.setv i)
  | many is =>
    cases d with
    | tup ds =>
      obtain ⟨a, vs, rfl, h1, h0, h2⟩ := h
      have e : setsR is ds ρ = some ρ' := by
        have e : (R.of (setsR is ds ρ) : R Rho) = .ok ρ' := e
        cases q : setsR is ds ρ with
        | none => rw [q] at e; cases e
        | some x => rw [q] at e; cases e; rfl
      exact ⟨a, vs, rfl, SqT.sub r.sub h1, by rw [h2.length]; exact setsR_len is e, gNames_ok is r fr h2 e q⟩
    | _ => cases e
def wipeR (ρ : Rho) : List Nat → Rho
  | [] => ρ
  | v :: vs => (wipeR ρ vs).set v none
theorem wipeR_get {ρ : Rho} : ∀ {vs : List Nat} {j : Nat} {d : D}, (wipeR ρ vs)[j]? = some (some d) → j ∉ vs ∧ ρ[j]? = some (some d)
  | [], j, d, h => ⟨by simp, h⟩
  | v :: vs, j, d, h => by
    unfold wipeR at h
    rw [get_set] at h
    by_cases q : v = j
    · rw [if_pos q] at h
      split at h <;> cases h
    · rw [if_neg q] at h
      obtain ⟨h1, h2⟩ := wipeR_get h
      exact ⟨by simp only [List.mem_cons, not_or]; exact ⟨fun z => q z.symm, h1⟩, h2⟩
theorem wipeR_len {ρ : Rho} : ∀ vs : List Nat, (wipeR ρ vs).length = ρ.length
  | [] => rfl
  | v :: vs => by unfold wipeR; rw [List.length_set, wipeR_len vs]
theorem RelE.wiped {Γ : List Bool} {ρ : Rho} {σ : St} (r : RelE K mg T Γ ρ Hf σ H) (vs : List Nat) : RelE K mg T Γ (wipeR ρ vs) Hf (wipe σ vs) H where
  sub := r.sub
  tab := r.tab
  len := by rw [wipeR_len, wipe_length, r.len]
  val := fun i d e g => by
    obtain ⟨h1, h2⟩ := wipeR_get e
    rw [wipe_get, if_neg h1]
    exact r.val i d h2 g
  own := fun i d e g => by
    obtain ⟨h1, h2⟩ := wipeR_get e
    rw [wipe_get, if_neg h1]
    exact r.own i d h2 g
  apart := fun i j a n g1 g2 ⟨d1, o1⟩ ⟨d2, o2⟩ => by
    obtain ⟨h1, h2⟩ := wipeR_get o1
    obtain ⟨h3, h4⟩ := wipeR_get o2
    rw [wipe_get, if_neg h1, wipe_get, if_neg h3]
    exact r.apart i j a n g1 g2 ⟨d1, h2⟩ ⟨d2, h4⟩
end
/-- a target and how it is set -/
def PDG (X : Cx) (target : Expr) (t : Tg) : Prop := PG X target (t.g X.K)
theorem pdg_one {i : Nat} {x : Str} (hN : X.N.Nodup) (hi : X.N[i]? = some x) (hx : Loc X.env.scope x) (hf : X.fn x = true ∨ X.env.scope.names.lookup x = some .local) : PDG X (.Name x pos) (.one i) := pg_name hN hi hx hf
theorem pdg_many {es : List Expr} {kk : Nat} {is : List Nat} (hc : X.calm = true) (h : PGs X es (gNames is)) (hn : (assignEach es X.env).length = is.length) (hst : (assignEach es X.env).findIdx? (·.1) = none) : PDG X (.Tuple es kk pos) (.many is) := pg_tup hc h hn hst
end
end BV
namespace BV
open PySem PySem.Spec PyProof.Rows L2
/-! ### comprehensions -/
/-- an exception is not looked for here -/
def R.calm {α : Type} : R α → R α
  | .ok a => .ok a
  | _ => .stuck
def compL (t : Tg) (c : Rho → R Bool) (f : Rho → R D) (ρ : Rho) : List D → R (List D)
  | [] => .ok []
  | d :: ds => (t.set d ρ).calm.bind fun ρ' => (c ρ').calm.bind fun b => if b = true then (f ρ').calm.bind fun y => (compL t c f ρ ds).bind fun ys => .ok (y :: ys) else compL t c f ρ ds
def compE (g : Rho → R (List D)) (vs : List Nat) (t : Tg) (c : Rho → R Bool) (f : Rho → R D) : Rho → R D := fun ρ => (g ρ).bind fun ds => (compL t c f (wipeR ρ vs) ds).bind fun ys => .ok (.lst ys)
abbrev W0 : WX := fun _ _ _ _ => False
def tDT (K : PySem.W.Frag) (mg : Str → Option Value) (T : List (Addr × Str)) (Γ : List Bool) (W : WX) (c : Rho → R Bool) : TT := fun σ H Q =>
  ∃ Hf ρ, RelE K mg T Γ ρ Hf σ H ∧ PostG K mg T Hf H W σ (fun b _ H' => Q b H') (c ρ)
def PDTs (X : Cx) (T : List (Addr × Str)) (Γ : List Bool) (W : WX) (es : List Expr) (c : Rho → R Bool) : Prop := PTs X es (tDT X.K X.mg T Γ W c)
def yesE : Rho → R Bool := fun _ => .ok true
theorem PTs.imp {X : Cx} {es : List Expr} {t t' : TT} (h : PTs X es t) (i : ∀ σ H Q, t' σ H Q → t σ H Q) : PTs X es t' := ⟨fun pins s σ H Q I q => h.run pins s σ H Q I (i σ H Q q)⟩
theorem calm_bind {α β : Type} {r : R α} {f : α → R β} {y : β} (h : r.calm.bind f = .ok y) : ∃ a, r = .ok a ∧ f a = .ok y := by
  cases r with
  | ok a => exact ⟨a, rfl, h⟩
  | exc e => cases h
  | stuck => cases h
theorem bind_ok {α β : Type} {r : R α} {f : α → R β} {y : β} (h : r.bind f = .ok y) : ∃ a, r = .ok a ∧ f a = .ok y := by
  cases r with
  | ok a => exact ⟨a, rfl, h⟩
  | exc e => cases h
  | stuck => cases h
theorem compL_len {t : Tg} {c : Rho → R Bool} {f : Rho → R D} {ρ : Rho} : ∀ {ds ys : List D}, compL t c f ρ ds = .ok ys → ys.length ≤ ds.length
  | [], ys, h => by cases h; exact Nat.le_refl _
  | d :: ds, ys, h => by
    unfold compL at h
    obtain ⟨ρ', _, h⟩ := calm_bind h
    obtain ⟨b, _, h⟩ := calm_bind h
    split at h
    · obtain ⟨y, _, h⟩ := calm_bind h
      obtain ⟨zs, h2, h⟩ := bind_ok h
      cases h
      have := compL_len h2
      simp
      omega
    · have := compL_len h
      simp
      omega
theorem compL_ne {t : Tg} {c : Rho → R Bool} {f : Rho → R D} {ρ : Rho} {e : Exc} : ∀ {ds : List D}, compL t c f ρ ds ≠ .exc e
  | [], h => by cases h
  | d :: ds, h => by
    unfold compL at h
    cases q : t.set d ρ with
    | ok ρ' =>
      rw [q] at h
      simp only [R.calm, R.bind] at h
      cases q2 : c ρ' with
      | ok b =>
        rw [q2] at h
        simp only [R.calm, R.bind] at h
        split at h
        · cases q3 : f ρ' with
          | ok y =>
            rw [q3] at h
            simp only [R.calm, R.bind] at h
            cases q4 : compL t c f ρ ds with
            | ok ys => rw [q4] at h; cases h
            | exc e => exact compL_ne q4
            | stuck => rw [q4] at h; cases h
          | exc _ => rw [q3] at h; cases h
          | stuck => rw [q3] at h; cases h
        · exact compL_ne h
      | exc _ => rw [q2] at h; cases h
      | stuck => rw [q2] at h; cases h
    | exc _ => rw [q] at h; cases h
    | stuck => rw [q] at h; cases h
section
variable {X : Cx} {T : List (Addr × Str)} {Γ : List Bool} {W : WX} {k : Kd} {e a b : Expr} {f fa fb : Rho → R D} {pos : Pos} {tg : Expr}
theorem pdts_nil : PDTs X T Γ W [] yesE := PTs.imp pts_nil fun σ H Q ⟨Hf, ρ, rel, p⟩ => p Hf H (ExtF.refl rel.sub)
theorem pdts_one {c : Rho → R Bool} (h : PDT X T Γ W e c) : PDTs X T Γ W [e] c := pts_one h
theorem PostG.okW {K : PySem.W.Frag} {mg : Str → Option Value} {Hf H : Hp} {σ : St} {α : Type} {good' : α → Hp → Hp → Prop} {a : α} (h : ∀ Hf' H', ExtF T Hf H Hf' H' → good' a Hf' H') {r : R α} (e : r = .ok a) : PostG K mg T Hf H W σ good' r := by
  subst e
  exact h
theorem lc_imp {g : Rho → R (List D)} {t : Tg} {c : Rho → R Bool} {own : List (Str × Nat)} {σ : St} {H : Hp} {Q : VK} (hsl : (t.slots.all fun i => (own.map (·.2)).contains i) = true) (hq : tD X.K X.mg T Γ W .o (compE g (own.map (·.2)) t c f) σ H Q) :
    tLc (fun σ H R => ∃ Hf ρ, RelE X.K X.mg T Γ ρ Hf σ H ∧ PostG X.K X.mg T Hf H W σ (fun ds Hf' H' => ∀ J, IterD X.K X.mg T J Hf' ds → ds.length ≤ sizeLine → R J H') (g ρ)) (t.g X.K) (tDT X.K X.mg T (t.gam Γ) W0 c) (tD X.K X.mg T (t.gam Γ) W0 .v f) (own.map (·.2)) σ H Q := by
  obtain ⟨Hf, ρ, rel, p⟩ := hq
  refine ⟨Hf, ρ, rel, PostG.mono (PostG.bind p) fun ds Hf1 H1 e1 x1 z J hJ hz D hD => ?_⟩
  have z := z.2.2
  obtain ⟨ys, hys, zq⟩ : ∃ ys, compL t c f (wipeR ρ (own.map (·.2))) ds = .ok ys ∧ ∀ Hf' H', ExtF T Hf1 H1 Hf' H' → ∀ v, RK X.K X.mg .o Hf' H H' (.lst ys) v → Q v H' := by
    cases q : compL t c f (wipeR ρ (own.map (·.2))) ds with
    | ok ys => rw [q] at z; exact ⟨ys, rfl, z⟩
    | exc e => exact absurd q compL_ne
    | stuck => rw [q] at z; exact z.elim
  have h0 : ¬ Old H D := fun z => Old.not hD (x1.kp D z)
  have sub : ∀ i ∈ t.slots, i ∈ own.map (·.2) := fun i hi => by
    have := List.all_eq_true.mp hsl i hi
    simpa using this
  let Pv : Nat → Hp → Prop := fun i H' => ∃ Hf' acc done rest, RelE X.K X.mg T Γ (wipeR ρ (own.map (·.2))) Hf' (wipe σ (own.map (·.2))) H' ∧ ExtF T Hf1 H1 Hf' H' ∧ Hf' D = none ∧ H' D = some (.lst acc) ∧ RepL X.K X.mg Hf' done acc ∧ done.length ≤ i ∧
    compL t c f (wipeR ρ (own.map (·.2))) (ds.drop i) = .ok rest ∧ ys = done ++ rest
  have P0 : Pv 0 (upd H1 D (.lst [])) := by
    have xn : ExtF T Hf1 H1 Hf1 (upd H1 D (.lst [])) := ExtF.new x1.inn hD
    exact ⟨Hf1, [], [], ys, ((rel.ext x1).ext xn).wiped _, xn, x1.inn.none hD, upd_same, rfl, Nat.le_refl _, hys, rfl⟩
  refine ⟨fun i m H' => m = ds.length - i ∧ i ≤ ds.length ∧ Pv i H', ⟨ds.length, by simp, Nat.zero_le _, P0⟩, ?_⟩
  rintro i m H' ⟨rfl, hi, Hf', acc, done, rest, r1, x2, hfD, hD', hacc, hdl, hrest, hys'⟩
  by_cases hlt : i < ds.length
  · refine .inr ?_
    obtain ⟨d, hd⟩ : ∃ d, ds[i]? = some d := ⟨ds[i], List.getElem?_eq_getElem hlt⟩
    obtain ⟨hgo, hy⟩ := (hJ i Hf' H' x2.sub x2.inn).1 d hd
    refine ⟨hgo, Pv (i + 1), fun H'' p' => ⟨ds.length - (i + 1), by omega, rfl, hlt, p'⟩, fun x H2 yl => ?_⟩
    obtain ⟨Hf2, x3, hx⟩ := hy x H2 yl
    have hdrop : ds.drop i = d :: ds.drop (i + 1) := by
      rw [List.drop_eq_getElem_cons hlt]
      have : ds[i] = d := by
        rw [List.getElem?_eq_getElem hlt] at hd
        exact Option.some.inj hd
      rw [this]
    rw [hdrop] at hrest
    unfold compL at hrest
    obtain ⟨ρ', e2, hrest⟩ := calm_bind hrest
    obtain ⟨bb, e3, hrest⟩ := calm_bind hrest
    have keepD : ∀ {Hfa Ha}, ExtF T Hf' H' Hfa Ha → Ha D = some (.lst acc) ∧ Hfa D = none := fun {Hfa Ha} xx => ⟨xx.ext D _ hD' (fun ps z => by cases z), xx.fr D ⟨_, hD', fun ps z => by cases z⟩ hfD⟩
    refine t.ok (H0 := fun _ => none) (r1.ext x3) (fun _ _ _ _ _ => Old.not rfl) hx e2 fun σ2 hw r2 _ => ⟨?_, ?_⟩
    · rw [hw _ sub, wipe_wipe]
    · refine ⟨Hf2, ρ', r2, PostG.okW (fun Hf3 H3 x4 => ?_) e3⟩
      split at hrest
      · rename_i hb
        obtain ⟨y, e4, hrest⟩ := calm_bind hrest
        obtain ⟨more, e5, hrest⟩ := bind_ok hrest
        cases hrest
        rw [hb]
        refine iteT ⟨Hf3, ρ', r2.ext x4, PostG.okW (fun Hf4 H4 x5 yv ry => ?_) e4⟩
        have xx := x3.trans (x4.trans x5)
        obtain ⟨k1, k2⟩ := keepD xx
        have xall := x2.trans xx
        have hlen : acc.length < sizeLine := by
          rw [hacc.length]
          omega
        refine ⟨acc, k1, hlen, ?_⟩
        -- the new list is written: all that is older stands
        have xw : ExtF T Hf1 H1 Hf4 (upd H4 D (.lst (acc ++ [yv]))) := by
          have nD : ∀ b, Old H1 b → b ≠ D := fun b q z => Old.not hD (by rw [← z]; exact q)
          refine ⟨xall.sub, fun b u q => ⟨?_, (xall.inn b u q).2⟩, fun b u q n => ?_, fun tb => ?_, xall.fr, fun b q => ?_⟩
          · rw [upd_ne (fun z => by rw [z, k2] at q; cases q)]
            exact (xall.inn b u q).1
          · rw [upd_ne (nD b ⟨u, q, n⟩)]
            exact xall.ext b u q n
          · have tb4 := xall.tab tb
            intro pp hp
            obtain ⟨ps, a1, a2, a3⟩ := tb4 pp hp
            refine ⟨ps, ?_, a2, fun pos' cv hcv => ?_⟩
            · rw [upd_ne (fun z => by rw [z, k1] at a1; cases a1)]
              exact a1
            · obtain ⟨c0, e1, e2⟩ := a3 pos' cv hcv
              refine ⟨c0, e1, ?_⟩
              rw [upd_ne (fun z => by rw [z, k1] at e2; exact absurd e2 (by unfold LamX.CodeO; intro z; cases z))]
              exact e2
          · obtain ⟨o2, k3, k4⟩ := xall.kp b q
            exact ⟨o2, by rw [upd_ne (nD b q)]; exact k3, k4⟩
        refine ⟨Hf4, acc ++ [yv], done ++ [y], more, ?_, xw, k2, upd_same, RepL.append (RepL.sub xx.sub hacc) (RepL.one ry), by simp; omega, e5, by rw [hys']; simp⟩
        exact ((rel.ext x1).ext xw).wiped _
      · rename_i hb
        rw [Bool.not_eq_true] at hb
        rw [hb]
        refine iteF ?_
        have xx := x3.trans x4
        obtain ⟨k1, k2⟩ := keepD xx
        exact ⟨Hf3, acc, done, rest, r1.ext xx, x2.trans xx, k2, k1, RepL.sub xx.sub hacc, by omega, hrest, hys'⟩
  · have e : i = ds.length := by omega
    subst e
    refine .inl ⟨(hJ ds.length Hf' H' x2.sub x2.inn).2 (Nat.le_refl _), ?_⟩
    rw [List.drop_length] at hrest
    cases hrest
    rw [List.append_nil] at hys'
    subst hys'
    exact zq Hf' H' x2 (.ref D) ⟨D, .lst acc, rfl, hfD, h0, hD', acc, rfl, by have := compL_len hys; omega, hacc⟩
theorem pd_comp {elt tg iter : Expr} {ifs : List Expr} {scope : Scope} {own : List (Str × Nat)} {g : Rho → R (List D)} {t : Tg} {c : Rho → R Bool} (hc : X.calm = true) (hN : X.N.Nodup) (hi : PDI X T Γ W tg iter g) (ok : BlkOk X.N X.env.scope scope own)
    (hg : ∀ (s : Shared) (H : Hp) (C : Addr) (cl : List (Str × Addr)) (fp : List Addr), PDG (X.blk s H scope (compEnvC scope cl C X.env) fp) tg t)
    (ht : ∀ (s : Shared) (H : Hp) (C : Addr) (cl : List (Str × Addr)) (fp : List Addr), PDTs (X.blk s H scope (compEnvC scope cl C X.env) fp) T (t.gam Γ) W0 ifs c)
    (he : ∀ (s : Shared) (H : Hp) (C : Addr) (cl : List (Str × Addr)) (fp : List Addr), PD (X.blk s H scope (compEnvC scope cl C X.env) fp) T (t.gam Γ) W0 .v elt f)
    (hsl : (t.slots.all fun i => (own.map (·.2)).contains i) = true) (hs : ∀ x, foldedSetIterable iter X.env x = pure x := by intro _; rfl) :
    PD X T Γ W .o (.ListComp elt [⟨tg, iter, ifs, 0⟩] scope pos) (compE g (own.map (·.2)) t c f) := by
  exact PE.imp (pe_lc (g := t.g X.K) (tt := tDT X.K X.mg T (t.gam Γ) W0 c) (te := tD X.K X.mg T (t.gam Γ) W0 .v f) hc hN hi ok (fun s H C cl fp => hg s H C cl fp) (fun s H C cl fp => ht s H C cl fp) (fun s H C cl fp => he s H C cl fp) hs) fun σ H Q h => lc_imp hsl h
end
end BV
namespace BV
open PySem PySem.Spec PyProof.Rows L2
/-! ### statements -/
section
variable (K : PySem.W.Frag) (mg : Str → Option Value)
/-- the slots, seen from the def's entry (Hf0, H0) -/
structure RelS (T : List (Addr × Str)) (Hf0 H0 : Hp) (Γ : List Bool) (ρ : Rho) (Hf : Hp) (σ : St) (H : Hp) : Prop where
  e : RelE K mg T Γ ρ Hf σ H
  x : ExtF T Hf0 H0 Hf H
  fr : Fr Γ ρ σ H0
/-- what stays through a def's body: the tables, the entry, the kind of what is returned, the wish about exceptions -/
structure Fx where
  T : List (Addr × Str)
  kr : Kd
  W : WX
def PostS (B : Fx) (Hf0 H0 : Hp) (Γ' Γl : List Bool) (De : Ends) : RS → Prop
  | .nx ρ' => ∀ Hf' σ' H', RelS K mg B.T Hf0 H0 Γ' ρ' Hf' σ' H' → De.nx σ' H'
  | .bk ρ' => ∀ Hf' σ' H', RelS K mg B.T Hf0 H0 Γl ρ' Hf' σ' H' → De.bk σ' H'
  | .ct ρ' => ∀ Hf' σ' H', RelS K mg B.T Hf0 H0 Γl ρ' Hf' σ' H' → De.ct σ' H'
  | .rt d => ∀ v Hf' H', ExtF B.T Hf0 H0 Hf' H' → RK K mg B.kr Hf' H0 H' d v → De.rt v H'
  | .exc e => ∀ cls dd σ' Hf' H', ExtF B.T Hf0 H0 Hf' H' → RX K mg Hf' H' e cls dd → B.W cls dd σ' H'
  | .stuck => False
def tSD (B : Fx) (Hf0 H0 : Hp) (Γ Γ' Γl : List Bool) (F : Rho → RS) : TS := fun De σ H => ∃ Hf ρ, RelS K mg B.T Hf0 H0 Γ ρ Hf σ H ∧ PostS K mg B Hf0 H0 Γ' Γl De (F ρ)
end
@[simp] def RS.bind {α : Type} : R α → (α → RS) → RS
  | .ok a, f => f a
  | .exc e, _ => .exc e
  | .stuck, _ => .stuck
def PDS (X : Cx) (B : Fx) (Γ Γ' Γl : List Bool) (st : Stmt) (F : Rho → RS) : Prop := ∀ Hf0 H0, PS X st (tSD X.K X.mg B Hf0 H0 Γ Γ' Γl F)
def PDSs (X : Cx) (B : Fx) (Γ Γ' Γl : List Bool) (st : List Stmt) (F : Rho → RS) : Prop := ∀ Hf0 H0, PSs X st (tSD X.K X.mg B Hf0 H0 Γ Γ' Γl F)
theorem PS.imp {X : Cx} {st : Stmt} {t t' : TS} (h : PS X st t) (i : ∀ D σ H, t' D σ H → t D σ H) : PS X st t' := ⟨fun pins s σ H D I q => h.run pins s σ H D I (i D σ H q)⟩
theorem PSs.imp {X : Cx} {st : List Stmt} {t t' : TS} (h : PSs X st t) (i : ∀ D σ H, t' D σ H → t D σ H) : PSs X st t' := ⟨fun pins s σ H D I q => h.run pins s σ H D I (i D σ H q)⟩
section
variable {K : PySem.W.Frag} {mg : Str → Option Value} {B : Fx} {Γ Γ' Γ1 Γl : List Bool} {ρ ρ' : Rho} {Hf Hf' H H' Hf0 H0 : Hp} {σ σ' : St} {De : Ends}
theorem RelS.ext {T : List (Addr × Str)} (r : RelS K mg T Hf0 H0 Γ ρ Hf σ H) (x : ExtF T Hf H Hf' H') : RelS K mg T Hf0 H0 Γ ρ Hf' σ H' := ⟨r.e.ext x, r.x.trans x, r.fr⟩
/-- seen from later on, and back -/
theorem ExtF.back {T : List (Addr × Str)} {Hf1 H1 : Hp} (x : ExtF T Hf0 H0 Hf1 H1) (y : ExtF T Hf1 H0 Hf H) : ExtF T Hf0 H0 Hf H := ⟨x.sub.trans y.sub, y.inn, y.ext, y.tab, fun b q1 q2 => y.fr b q1 (x.fr b q1 q2), y.kp⟩
theorem RelS.re {T : List (Addr × Str)} (r : RelS K mg T Hf0 H0 Γ ρ Hf σ H) : RelS K mg T Hf H0 Γ ρ Hf σ H := ⟨r.e, ⟨r.e.sub.self, r.x.inn, r.x.ext, r.x.tab, fun _ _ q => q, r.x.kp⟩, r.fr⟩
theorem RelS.back {T : List (Addr × Str)} {Hf1 H1 : Hp} (r : RelS K mg T Hf1 H0 Γ ρ Hf σ H) (x : ExtF T Hf0 H0 Hf1 H1) : RelS K mg T Hf0 H0 Γ ρ Hf σ H := ⟨r.e, ExtF.back x r.x, r.fr⟩
/-- an expression ahead of the rest of a statement -/
theorem PostS.bind {α : Type} {r : R α} {g : α → RS} (x0 : ExtF B.T Hf0 H0 Hf H) (h : PostS K mg B Hf0 H0 Γ' Γl De (RS.bind r g)) :
    PostG K mg B.T Hf H B.W σ (fun a Hf' H' => r = .ok a ∧ ExtF B.T Hf H Hf' H' ∧ PostS K mg B Hf0 H0 Γ' Γl De (g a)) r := by
  cases r with
  | ok a => exact fun Hf' H' x => ⟨rfl, x, h⟩
  | exc e => exact fun cls dd Hf' H' x q => h cls dd σ Hf' H' (x0.trans x) q
  | stuck => exact h
/-- an own object is written -/
theorem RelS.write {T : List (Addr × Str)} (r : RelS K mg T Hf0 H0 Γ ρ Hf σ H) {i : Nat} {d d' : D} {a : Addr} {o : HO} (hi : Γ[i]? = some true) (hd : ρ[i]? = some (some d)) (ha : σ[i]? = some (some (.ref a))) (ho : RepO K mg Hf d' o) :
    RelS K mg T Hf0 H0 Γ (ρ.set i (some d')) Hf σ (upd H a o) := by
  obtain ⟨a', o', h1, h2, h3, h4⟩ := r.e.own i d hd hi
  rw [ha] at h1
  cases h1
  have h0 : ¬ Old H0 a := r.fr i a hi ⟨d, hd⟩ ha
  have nt : ∀ {b ps}, H b = some (.tbl ps) → b ≠ a := fun {b ps} q z => by rw [z, h3] at q; exact RepO.ntbl h4 ps (Option.some.inj q)
  have sub' : Sub Hf (upd H a o) := fun b u q => ⟨by rw [upd_ne (fun z => by rw [z, h2] at q; cases q)]; exact (r.e.sub b u q).1, (r.e.sub b u q).2⟩
  have tabs : LamX.Tabs T H → LamX.Tabs T (upd H a o) := fun tb pp hp => by
    obtain ⟨ps, a1, a2, a3⟩ := tb pp hp
    refine ⟨ps, by rw [upd_ne (nt a1)]; exact a1, a2, fun pos' cv hcv => ?_⟩
    obtain ⟨c0, e1, e2⟩ := a3 pos' cv hcv
    refine ⟨c0, e1, ?_⟩
    rw [upd_ne (fun z => by
      rw [z, h3] at e2
      have e3 := Option.some.inj e2
      subst e3
      cases d <;> simp only [RepO] at h4
      all_goals (obtain ⟨_, h4⟩ := h4; first | (obtain ⟨z, _⟩ := h4; unfold LamX.CodeO at z; cases z; done) | (obtain ⟨_, _, _, z, _⟩ := h4; unfold LamX.CodeO at z; cases z)))]
    exact e2
  have hlen : ∀ {j : Nat}, (ρ.set i (some d'))[j]? = if i = j then some (some d') else ρ[j]? := fun {j} => by
    rw [get_set]
    by_cases q : i = j
    · rw [if_pos q, if_pos q, if_pos (List.getElem?_eq_some_iff.mp hd).1]
    · rw [if_neg q, if_neg q]
  refine ⟨⟨sub', tabs r.e.tab, by simp [r.e.len], fun j dj e g => ?_, fun j dj e g => ?_, fun j l b n g1 g2 o1 o2 => ?_⟩, ?_, fun j b g od e => ?_⟩
  · rw [hlen] at e
    by_cases q : i = j
    · rw [q] at hi
      exact absurd hi g
    · rw [if_neg q] at e
      exact r.e.val j dj e g
  · rw [hlen] at e
    by_cases q : i = j
    · rw [if_pos q] at e
      cases e
      subst q
      exact ⟨a, o, ha, h2, upd_same, ho⟩
    · rw [if_neg q] at e
      obtain ⟨b, ob, e1, e2, e3, e4⟩ := r.e.own j dj e g
      refine ⟨b, ob, e1, e2, ?_, e4⟩
      rw [upd_ne (fun z => r.e.apart i j a q hi g ⟨d, hd⟩ ⟨dj, e⟩ ha (by rw [← z]; exact e1))]
      exact e3
  · rw [hlen] at o1 o2
    refine r.e.apart j l b n g1 g2 ?_ ?_
    · by_cases q : i = j
      · subst q
        exact ⟨d, hd⟩
      · rw [if_neg q] at o1
        exact o1
    · by_cases q : i = l
      · subst q
        exact ⟨d, hd⟩
      · rw [if_neg q] at o2
        exact o2
  · have n0 : ∀ b, Old H0 b → b ≠ a := fun b q z => h0 (by rw [← z]; exact q)
    refine ⟨r.x.sub, sub', fun b u q n => ?_, fun tb => tabs (r.x.tab tb), r.x.fr, fun b q => ?_⟩
    · rw [upd_ne (n0 b ⟨u, q, n⟩)]
      exact r.x.ext b u q n
    · obtain ⟨o2, k3, k4⟩ := r.x.kp b q
      exact ⟨o2, by rw [upd_ne (n0 b q)]; exact k3, k4⟩
  · rw [hlen] at od
    refine r.fr j b g ?_ e
    by_cases q : i = j
    · subst q
      exact ⟨d, hd⟩
    · rw [if_neg q] at od
      exact od
/-- an own object becomes a value -/
theorem RelS.frz {T : List (Addr × Str)} (r : RelS K mg T Hf0 H0 Γ ρ Hf σ H) (i : Nat) : ∃ Hf', RelS K mg T Hf0 H0 (Γ.set i false) ρ Hf' σ H ∧ Sub Hf Hf' := by
  have gΓ : ∀ j : Nat, (Γ.set i false)[j]? = some true → i ≠ j ∧ Γ[j]? = some true := fun j q => by
    rw [get_set] at q
    by_cases h : i = j
    · rw [if_pos h] at q
      split at q <;> cases q
    · rw [if_neg h] at q
      exact ⟨h, q⟩
  by_cases g : Γ[i]? = some true ∧ ∃ d : D, ρ[i]? = some (some d)
  · obtain ⟨g, d, hd⟩ := g
    obtain ⟨a, o, e1, e2, e3, e4⟩ := r.e.own i d hd g
    have nt := RepO.ntbl e4
    have h0 := r.fr i a g ⟨d, hd⟩ e1
    have s1 : Sub Hf (upd Hf a o) := fun b u q => ⟨same_new e2 o b u q, (r.e.sub b u q).2⟩
    refine ⟨upd Hf a o, ⟨⟨(r.x.freeze h0 e3 e2 nt).inn, r.e.tab, r.e.len, fun j dj e gj => ?_, fun j dj e gj => ?_, fun j l b n g1 g2 o1 o2 => ?_⟩, r.x.freeze h0 e3 e2 nt, fun j b gj o e => ?_⟩, s1⟩
    · by_cases q : i = j
      · subst q
        rw [hd] at e
        cases e
        exact ⟨.ref a, e1, RepO.rep (RepO.sub s1 e4) upd_same⟩
      · obtain ⟨v, h1, h2⟩ := r.e.val j dj e (fun z => gj (by rw [get_set, if_neg q]; exact z))
        exact ⟨v, h1, Rep.sub s1 h2⟩
    · obtain ⟨q, gj⟩ := gΓ j gj
      obtain ⟨b, ob, f1, f2, f3, f4⟩ := r.e.own j dj e gj
      refine ⟨b, ob, f1, ?_, f3, RepO.sub s1 f4⟩
      rw [upd_ne (fun z => r.e.apart i j a q g gj ⟨d, hd⟩ ⟨dj, e⟩ e1 (by rw [← z]; exact f1))]
      exact f2
    · exact r.e.apart j l b n (gΓ j g1).2 (gΓ l g2).2 o1 o2
    · exact r.fr j b (gΓ j gj).2 o e
  · refine ⟨Hf, ⟨⟨r.e.sub, r.e.tab, r.e.len, fun j dj e gj => ?_, fun j dj e gj => r.e.own j dj e (gΓ j gj).2, fun j l b n g1 g2 => r.e.apart j l b n (gΓ j g1).2 (gΓ l g2).2⟩, r.x, fun j b gj => r.fr j b (gΓ j gj).2⟩, r.e.sub.self⟩
    by_cases q : i = j
    · subst q
      exact r.e.val i dj e fun z => g ⟨z, dj, e⟩
    · exact r.e.val j dj e (fun z => gj (by rw [get_set, if_neg q]; exact z))
end
section
variable {X : Cx} {B : Fx} {Γ Γ' Γ1 Γl : List Bool} {st : Stmt} {rest : List Stmt} {e a b : Expr} {f : Rho → R D} {F G : Rho → RS} {pos : Pos} {k : Kd}
def nxS : Rho → RS := .nx
def seqS (F G : Rho → RS) : Rho → RS := fun ρ => match F ρ with
  | .nx ρ' => G ρ'
  | r => r
theorem pdss_nil : PDSs X B Γ Γ Γl [] nxS := fun Hf0 H0 => PSs.imp pss_nil fun De σ H ⟨Hf, ρ, r, p⟩ => p Hf σ H r
theorem pdss_cons (h1 : PDS X B Γ Γ1 Γl st F) (h2 : PDSs X B Γ1 Γ' Γl rest G) : PDSs X B Γ Γ' Γl (st :: rest) (seqS F G) :=
  fun Hf0 H0 => PSs.imp (pss_cons (h1 Hf0 H0) (h2 Hf0 H0)) fun De σ H ⟨Hf, ρ, r, p⟩ => ⟨Hf, ρ, r, by
    unfold seqS at p
    cases q : F ρ with
    | nx ρ' => rw [q] at p; exact fun Hf' σ' H' r' => ⟨Hf', ρ', r', p⟩
    | bk ρ' => rw [q] at p; exact p
    | ct ρ' => rw [q] at p; exact p
    | rt d => rw [q] at p; exact p
    | exc e => rw [q] at p; exact p
    | stuck => rw [q] at p; exact p⟩
theorem pdss_one (h1 : PDS X B Γ Γ' Γl st F) : PDSs X B Γ Γ' Γl [st] F := fun Hf0 H0 => pss_one (h1 Hf0 H0)
theorem pdss_frz (i : Nat) (h : PDSs X B (Γ.set i false) Γ' Γl rest F) : PDSs X B Γ Γ' Γl rest F := fun Hf0 H0 => PSs.imp (h Hf0 H0) fun De σ H ⟨Hf, ρ, r, p⟩ => by
  obtain ⟨Hf', r', _⟩ := r.frz i
  exact ⟨Hf', ρ, r', p⟩
/-- at a block's end own objects become values -/
theorem PDSs.frzEnd {st : List Stmt} (i : Nat) (h : PDSs X B Γ Γ1 Γl st F) : PDSs X B Γ (Γ1.set i false) Γl st F := fun Hf0 H0 => PSs.imp (h Hf0 H0) fun De σ H ⟨Hf, ρ, r, p⟩ => ⟨Hf, ρ, r, by
    cases q : F ρ with
    | nx ρ' =>
      rw [q] at p
      intro Hf' σ' H' r'
      obtain ⟨Hf2, r2, _⟩ := r'.frz i
      exact p Hf2 σ' H' r2
    | bk ρ' => rw [q] at p; exact p
    | ct ρ' => rw [q] at p; exact p
    | rt d => rw [q] at p; exact p
    | exc e => rw [q] at p; exact p
    | stuck => rw [q] at p; exact p⟩
theorem pds_pass : PDS X B Γ Γ Γl (.Pass pos) nxS := fun Hf0 H0 => PS.imp ps_pass fun De σ H ⟨Hf, ρ, r, p⟩ => p Hf σ H r
theorem pds_break : PDS X B Γl Γ' Γl (.Break pos) .bk := fun Hf0 H0 => PS.imp ps_break fun De σ H ⟨Hf, ρ, r, p⟩ => p Hf σ H r
theorem pds_continue : PDS X B Γl Γ' Γl (.Continue pos) .ct := fun Hf0 H0 => PS.imp ps_continue fun De σ H ⟨Hf, ρ, r, p⟩ => p Hf σ H r
def setS (i : Nat) (f : Rho → R D) : Rho → RS := fun ρ => RS.bind (f ρ) fun d => .nx (ρ.set i (some d))
theorem pds_set {i : Nat} {x : Str} {pos' : Pos} (hN : X.N.Nodup) (hi : X.N[i]? = some x) (hx : Loc X.env.scope x) (he : PD X B.T Γ B.W .v e f) (hf : X.fn x = true ∨ X.env.scope.names.lookup x = some .local) (hs : swapsWith e (some (.Name x pos')) pos.line X.env = pure false := by rfl) :
    PDS X B Γ (Γ.set i false) Γl (.Assign [.Name x pos'] e pos) (setS i f) :=
  fun Hf0 H0 => PS.imp (ps_set hN hi hx he hs hf) fun De σ H ⟨Hf, ρ, r, p⟩ => ⟨Hf, ρ, r.e, PostG.mono (PostS.bind r.x p) fun d Hf1 H1 e1 x1 z v rk => by
    have r1 := r.ext x1
    exact z.2.2 Hf1 _ H1 ⟨r1.e.setv i rk, r1.x, r1.fr.setv i⟩⟩
theorem pds_setO {i : Nat} {x : Str} {pos' : Pos} (hN : X.N.Nodup) (hi : X.N[i]? = some x) (hx : Loc X.env.scope x) (he : PD X B.T Γ B.W .o e f) (hf : X.fn x = true ∨ X.env.scope.names.lookup x = some .local) (hl : i < Γ.length) (hs : swapsWith e (some (.Name x pos')) pos.line X.env = pure false := by rfl) :
    PDS X B Γ (Γ.set i true) Γl (.Assign [.Name x pos'] e pos) (setS i f) :=
  fun Hf0 H0 => PS.imp (ps_set hN hi hx he hs hf) fun De σ H ⟨Hf, ρ, r, p⟩ => ⟨Hf, ρ, r.e, PostG.mono (PostS.bind r.x p) fun d Hf1 H1 e1 x1 z v rk => by
    have r1 := r.ext x1
    obtain ⟨ad, o, rfl, h1, h0, h2, h3⟩ := rk
    have hn : ∀ j : Nat, Γ[j]? = some true → (∃ d : D, ρ[j]? = some (some d)) → σ[j]? ≠ some (some (.ref ad)) := fun j g ⟨dj, hd⟩ z => by
      obtain ⟨b, ob, f1, _, f3, f4⟩ := r.e.own j dj hd g
      rw [z] at f1
      cases f1
      exact h0 ⟨ob, f3, RepO.ntbl f4⟩
    have h00 : ¬ Old H0 ad := fun q => h0 (r.x.kp ad q)
    exact z.2.2 Hf1 _ H1 ⟨r1.e.seto i hl h1 h2 h3 hn, r1.x, r1.fr.seto i h00⟩⟩
theorem pds_setC {i : Nat} {y : Str} {py : Pos} {elt tg iter : Expr} {ifs : List Expr} {scope : Scope} {own : List (Str × Nat)} {pos spos : Pos} {g : Rho → R (List D)} {t : Tg} {c : Rho → R Bool} (hc : X.calm = true) (hN : X.N.Nodup) (hy : X.N[i]? = some y) (hyl : X.env.scope.names.lookup y = some .local)
    (hsw : swapsWith (.ListComp elt [⟨tg, iter, ifs, 0⟩] scope pos) (some (.Name y py)) spos.line X.env = pure true) (hi : PDI X B.T Γ B.W tg iter g) (ok : BlkOk X.N X.env.scope scope own)
    (hg : ∀ (s : Shared) (H : Hp) (C : Addr) (cl : List (Str × Addr)) (fp : List Addr), PDG (X.blk s H scope (compEnvC scope cl C X.env) fp) tg t)
    (ht : ∀ (s : Shared) (H : Hp) (C : Addr) (cl : List (Str × Addr)) (fp : List Addr), PDTs (X.blk s H scope (compEnvC scope cl C X.env) fp) B.T (t.gam Γ) W0 ifs c)
    (he : ∀ (s : Shared) (H : Hp) (C : Addr) (cl : List (Str × Addr)) (fp : List Addr), PD (X.blk s H scope (compEnvC scope cl C X.env) fp) B.T (t.gam Γ) W0 .v elt f)
    (hsl : (t.slots.all fun i => (own.map (·.2)).contains i) = true) (hl : i < Γ.length) (hs : ∀ x, foldedSetIterable iter X.env x = pure x := by intro _; rfl) :
    PDS X B Γ (Γ.set i true) Γl (.Assign [.Name y py] (.ListComp elt [⟨tg, iter, ifs, 0⟩] scope pos) spos) (setS i (compE g (own.map (·.2)) t c f)) :=
  fun Hf0 H0 => PS.imp (ps_setLc (g := t.g X.K) (tt := tDT X.K X.mg B.T (t.gam Γ) W0 c) (te := tD X.K X.mg B.T (t.gam Γ) W0 .v f) hc hN hy hyl hsw hi ok (fun s H C cl fp => hg s H C cl fp) (fun s H C cl fp => ht s H C cl fp) (fun s H C cl fp => he s H C cl fp) hs) fun De σ H ⟨Hf, ρ, r, p⟩ => lc_imp hsl ⟨Hf, ρ, r.e, PostG.mono (PostS.bind r.x p) fun d Hf1 H1 e1 x1 z v rk => by
    have r1 := r.ext x1
    obtain ⟨ad, o, rfl, h1, h0, h2, h3⟩ := rk
    have hn : ∀ j : Nat, Γ[j]? = some true → (∃ d : D, ρ[j]? = some (some d)) → σ[j]? ≠ some (some (.ref ad)) := fun j g ⟨dj, hd⟩ z => by
      obtain ⟨b, ob, f1, _, f3, f4⟩ := r.e.own j dj hd g
      rw [z] at f1
      cases f1
      exact h0 ⟨ob, f3, RepO.ntbl f4⟩
    have h00 : ¬ Old H0 ad := fun q => h0 (r.x.kp ad q)
    exact z.2.2 Hf1 _ H1 ⟨r1.e.seto i hl h1 h2 h3 hn, r1.x, r1.fr.seto i h00⟩⟩
def drpS (f : Rho → R D) : Rho → RS := fun ρ => RS.bind (f ρ) fun _ => .nx ρ
theorem pds_expr (he : PD X B.T Γ B.W .b e f) (hs : swapsWith e none pos.line X.env = pure false := by rfl) : PDS X B Γ Γ Γl (.Expr e pos) (drpS f) :=
  fun Hf0 H0 => PS.imp (ps_expr he hs) fun De σ H ⟨Hf, ρ, r, p⟩ => ⟨Hf, ρ, r.e, PostG.mono (PostS.bind r.x p) fun d Hf1 H1 e1 x1 z v rk => z.2.2 Hf1 σ H1 (r.ext x1)⟩
def retS (f : Rho → R D) : Rho → RS := fun ρ => RS.bind (f ρ) .rt
theorem pds_ret (he : PD X B.T Γ B.W B.kr e f) : PDS X B Γ Γ' Γl (.Return (some e) pos) (retS f) :=
  fun Hf0 H0 => PS.imp (ps_ret he) fun De σ H ⟨Hf, ρ, r, p⟩ => ⟨Hf, ρ, r.e, PostG.mono (PostS.bind r.x p) fun d Hf1 H1 e1 x1 z v rk => z.2.2 v Hf1 H1 (r.x.trans x1) (RK.base r.x.kp rk)⟩
def retN : Rho → RS := fun _ => .rt .non
theorem pds_retN (hk : B.kr = .v) : PDS X B Γ Γ' Γl (.Return none pos) retN := fun Hf0 H0 => PS.imp ps_retN fun De σ H ⟨Hf, ρ, r, p⟩ => p .non Hf H r.x (by rw [hk]; rfl)
def ifS (c : Rho → R Bool) (F G : Rho → RS) : Rho → RS := fun ρ => RS.bind (c ρ) fun b => if b = true then F ρ else G ρ
theorem pds_if {c : Expr} {sa sb : List Stmt} {ct : Rho → R Bool} (hc : PDT X B.T Γ B.W c ct) (ha : PDSs X B Γ Γ' Γl sa F) (hb : PDSs X B Γ Γ' Γl sb G) : PDS X B Γ Γ' Γl (.If c sa sb pos) (ifS ct F G) :=
  fun Hf0 H0 => PS.imp (ps_if hc (ha Hf0 H0) (hb Hf0 H0)) fun De σ H ⟨Hf, ρ, r, p⟩ => ⟨Hf, ρ, r.e, PostG.mono (PostS.bind r.x p) fun c Hf1 H1 e1 x1 z => by
    have z := z.2.2
    cases c with
    | true => exact iteT ⟨Hf1, ρ, r.ext x1, z⟩
    | false => exact iteF ⟨Hf1, ρ, r.ext x1, z⟩⟩
/-! ### loops -/
def forL (t : Tg) (F : Rho → RS) : List D → Rho → RS
  | [], ρ => .nx ρ
  | d :: ds, ρ => RS.bind (t.set d ρ).calm fun ρ' => match F ρ' with
    | .nx ρ2 => forL t F ds ρ2
    | .ct ρ2 => forL t F ds ρ2
    | .bk ρ2 => .nx ρ2
    | r => r
def forS (g : Rho → R (List D)) (t : Tg) (F : Rho → RS) : Rho → RS := fun ρ => RS.bind (g ρ) fun ds => forL t F ds ρ
theorem pds_for {tg iter : Expr} {body : List Stmt} {t : Tg} {g : Rho → R (List D)} (hp : PassesOwn (model X.prog X.w) X.A X.env X.xe) (hc : X.calm = true) (hi : PDI X B.T Γ B.W tg iter g) (hg : PDG X tg t) (hb : PDSs X B Γ Γ Γ body F) (hΓ : t.gam Γ = Γ)
    (hs : ∀ x, foldedSetIterable iter X.env x = pure x := by intro _; rfl) : PDS X B Γ Γ Γl (.For tg iter body [] pos) (forS g t F) := by
  intro Hf0 H0
  refine PS.imp (ps_for (tb := fun De σ H => ∃ Hf0 H0, tSD X.K X.mg B Hf0 H0 Γ Γ Γ F De σ H) hp hc hi hg ⟨fun pins s σ H De I ⟨Hf0, H0, q⟩ => (hb Hf0 H0).run pins s σ H De I q⟩ hs) fun De σ H ⟨Hf, ρ, r, p⟩ => ⟨Hf, ρ, r.e, PostG.mono (PostS.bind r.x p) fun ds Hf1 H1 e1 x1 z J hJ hz => ?_⟩
  have z := z.2.2
  let Wj : Nat → St → Hp → Prop := fun i σ' H' => ∃ Hf' ρ', RelS X.K X.mg B.T Hf0 H0 Γ ρ' Hf' σ' H' ∧ Sub Hf1 Hf' ∧ PostS X.K X.mg B Hf0 H0 Γ Γl De (forL t F (ds.drop i) ρ')
  refine ⟨fun i m σ' H' => m = ds.length - i ∧ i ≤ ds.length ∧ Wj i σ' H', ⟨ds.length, by simp, Nat.zero_le _, Hf1, ρ, r.ext x1, x1.inn.self, z⟩, ?_⟩
  rintro i m σ' H' ⟨rfl, hi, Hf', ρ', r1, s1, p1⟩
  by_cases hlt : i < ds.length
  · refine .inr ?_
    obtain ⟨d, hd⟩ : ∃ d, ds[i]? = some d := ⟨ds[i], List.getElem?_eq_getElem hlt⟩
    obtain ⟨hgo, hy⟩ := (hJ i Hf' H' s1 r1.e.sub).1 d hd
    have hdrop : ds.drop i = d :: ds.drop (i + 1) := by
      rw [List.drop_eq_getElem_cons hlt]
      have : ds[i] = d := by
        rw [List.getElem?_eq_getElem hlt] at hd
        exact Option.some.inj hd
      rw [this]
    rw [hdrop] at p1
    unfold forL at p1
    refine ⟨hgo, Wj (i + 1), fun σ2 H2 p' => ⟨ds.length - (i + 1), by omega, rfl, hlt, p'⟩, fun x H2 yl => ?_⟩
    obtain ⟨Hf2, x3, hx⟩ := hy x H2 yl
    cases e2 : t.set d ρ' with
    | exc _ => rw [e2] at p1; exact p1.elim
    | stuck => rw [e2] at p1; exact p1.elim
    | ok ρ2 =>
      rw [e2] at p1
      simp only [R.calm, RS.bind] at p1
      have r2 := r1.ext x3
      refine t.ok (H0 := H0) r2.e r2.fr hx e2 fun σ3 _ r3 fr3 => ?_
      rw [hΓ] at r3 fr3
      refine ⟨Hf2, H0, Hf2, ρ2, (RelS.mk r3 r2.x fr3).re, ?_⟩
      cases q : F ρ2 with
      | nx ρ3 => rw [q] at p1; exact fun Hf4 σ4 H4 r4 => ⟨Hf4, ρ3, r4.back r2.x, s1.trans (x3.sub.trans r4.x.sub), p1⟩
      | ct ρ3 => rw [q] at p1; exact fun Hf4 σ4 H4 r4 => ⟨Hf4, ρ3, r4.back r2.x, s1.trans (x3.sub.trans r4.x.sub), p1⟩
      | bk ρ3 => rw [q] at p1; exact fun Hf4 σ4 H4 r4 => p1 Hf4 σ4 H4 (r4.back r2.x)
      | rt d => rw [q] at p1; exact fun v Hf4 H4 x4 rk => p1 v Hf4 H4 (ExtF.back r2.x x4) rk
      | exc e => rw [q] at p1; exact fun cls dd σ4 Hf4 H4 x4 rx => p1 cls dd σ4 Hf4 H4 (ExtF.back r2.x x4) rx
      | stuck => rw [q] at p1; exact p1
  · have e : i = ds.length := by omega
    subst e
    refine .inl ⟨(hJ ds.length Hf' H' s1 r1.e.sub).2 (Nat.le_refl _), ?_⟩
    rw [List.drop_length] at p1
    exact p1 Hf' σ' H' r1
end
end BV
namespace BV
open PySem PySem.Spec PyProof.Rows L2
section
variable {X : Cx} {B : Fx} {Γ Γ' Γ1 Γl : List Bool} {st : Stmt} {rest : List Stmt} {e a b : Expr} {f : Rho → R D} {F G : Rho → RS} {pos : Pos} {k : Kd}
/-! ### while -/
def whlL (c : Rho → R Bool) (F : Rho → RS) : Nat → Rho → RS
  | 0, _ => .stuck
  | n + 1, ρ => RS.bind (c ρ) fun b => if b = true then (match F ρ with
    | .nx ρ2 => whlL c F n ρ2
    | .ct ρ2 => whlL c F n ρ2
    | .bk ρ2 => .nx ρ2
    | r => r) else .nx ρ
/-- fuel: more than the turns -/
def whlS (fuel : Nat) (c : Rho → R Bool) (F : Rho → RS) : Rho → RS := whlL c F fuel
theorem pds_while (fuel : Nat) {c : Expr} {body : List Stmt} {ct : Rho → R Bool} (hp : PassesOwn (model X.prog X.w) X.A X.env X.xe) (hc : PDT X B.T Γ B.W c ct) (hb : PDSs X B Γ Γ Γ body F) : PDS X B Γ Γ Γl (.While c body [] pos) (whlS fuel ct F) := by
  intro Hf0 H0
  refine PS.imp (ps_while (tb := fun De σ H => ∃ Hf0 H0, tSD X.K X.mg B Hf0 H0 Γ Γ Γ F De σ H) hp hc ⟨fun pins s σ H De I ⟨Hf0, H0, q⟩ => (hb Hf0 H0).run pins s σ H De I q⟩) fun De σ H ⟨Hf, ρ, r, p⟩ => ?_
  refine ⟨fun m σ' H' => ∃ Hf' ρ', RelS X.K X.mg B.T Hf0 H0 Γ ρ' Hf' σ' H' ∧ PostS X.K X.mg B Hf0 H0 Γ Γl De (whlL ct F m ρ'), ⟨fuel, Hf, ρ, r, p⟩, ?_⟩
  rintro m σ' H' ⟨Hf', ρ', r1, p1⟩
  cases m with
  | zero => exact p1.elim
  | succ m =>
    unfold whlL at p1
    refine ⟨Hf', ρ', r1.e, PostG.mono (PostS.bind r1.x p1) fun b Hf1 H1 e1 x1 z => ?_⟩
    have z := z.2.2
    have r2 := r1.ext x1
    cases b with
    | false => exact iteF (z Hf1 σ' H1 r2)
    | true =>
      refine iteT ⟨fun σ4 H4 => ∃ Hf4 ρ4, RelS X.K X.mg B.T Hf0 H0 Γ ρ4 Hf4 σ4 H4 ∧ PostS X.K X.mg B Hf0 H0 Γ Γl De (whlL ct F m ρ4), fun σ4 H4 q => ⟨m, Nat.lt_succ_self m, q⟩, Hf0, H0, Hf1, ρ', r2, ?_⟩
      simp only [if_pos] at z
      cases q : F ρ' with
      | nx ρ3 => rw [q] at z; exact fun Hf4 σ4 H4 r4 => ⟨Hf4, ρ3, r4, z⟩
      | ct ρ3 => rw [q] at z; exact fun Hf4 σ4 H4 r4 => ⟨Hf4, ρ3, r4, z⟩
      | bk ρ3 => rw [q] at z; exact z
      | rt d => rw [q] at z; exact z
      | exc e => rw [q] at z; exact z
      | stuck => rw [q] at z; exact z
/-! ### changes of one's own lists -/
def ownL (i : Nat) (ρ : Rho) : R (List D) := match ρ[i]? with
  | some (some (.lst ds)) => .ok ds
  | _ => .stuck
theorem ownL_ok {K : PySem.W.Frag} {mg : Str → Option Value} {De : Ends} {Hf0 H0 : Hp} {i : Nat} {ρ : Rho} {g : List D → RS} (p : PostS K mg B Hf0 H0 Γ' Γl De (RS.bind (ownL i ρ) g)) :
    ∃ ds, ρ[i]? = some (some (.lst ds)) ∧ PostS K mg B Hf0 H0 Γ' Γl De (g ds) := by
  unfold ownL at p
  split at p
  · rename_i ds h
    exact ⟨ds, h, p⟩
  · exact p.elim
theorem own_lst {K : PySem.W.Frag} {mg : Str → Option Value} {T : List (Addr × Str)} {Hf0 H0 Hf H : Hp} {σ : St} {i : Nat} {ρ : Rho} {ds : List D} (r : RelS K mg T Hf0 H0 Γ ρ Hf σ H) (g : Γ[i]? = some true) (hd : ρ[i]? = some (some (.lst ds))) :
    ∃ a vs, σ[i]? = some (some (.ref a)) ∧ H a = some (.lst vs) ∧ ds.length ≤ sizeLine ∧ RepL K mg Hf ds vs := by
  obtain ⟨a, o, e1, e2, e3, vs, rfl, h1, h2⟩ := r.e.own i _ hd g
  exact ⟨a, vs, e1, e3, h1, h2⟩
theorem if_post {K : PySem.W.Frag} {mg : Str → Option Value} {De : Ends} {Hf0 H0 : Hp} {c : Prop} [Decidable c] {r : RS} (p : PostS K mg B Hf0 H0 Γ' Γl De (if c then r else .stuck)) : c ∧ PostS K mg B Hf0 H0 Γ' Γl De r := by
  by_cases h : c
  · rw [if_pos h] at p
    exact ⟨h, p⟩
  · rw [if_neg h] at p
    exact p.elim
def appS (i : Nat) (f : Rho → R D) : Rho → RS := fun ρ => RS.bind (ownL i ρ) fun ds => RS.bind (f ρ) fun d => if ds.length < sizeLine then .nx (ρ.set i (some (.lst (ds ++ [d])))) else .stuck
theorem pds_append {i : Nat} (h : PE X e (tBM X.K "list" rAppend (tVar i) (tCons (tD X.K X.mg B.T Γ B.W .v f) tNil))) (g : Γ[i]? = some true) (hs : swapsWith e none pos.line X.env = pure false := by rfl) :
    PDS X B Γ Γ Γl (.Expr e pos) (appS i f) := fun Hf0 H0 =>
  PS.imp (ps_expr h hs) fun De σ H ⟨Hf, ρ, r, p⟩ => by
    obtain ⟨ds, hd, p⟩ := ownL_ok p
    obtain ⟨a, vs, e1, e2, e3, e4⟩ := own_lst r g hd
    refine ⟨_, e1, .inl ⟨rfl, vs, SqL.of e2⟩, Hf, ρ, r.e, PostG.mono (PostS.bind r.x p) fun d Hf1 H1 q1 x1 z v rk => ?_⟩
    obtain ⟨hl, z⟩ := if_post z.2.2
    have r1 := r.ext x1
    have e5 : H1 a = some (.lst vs) := x1.ext a _ e2 (fun ps z => by cases z)
    refine ⟨a, vs, v, rfl, rfl, e5, by rw [e4.length]; exact hl, ?_⟩
    refine z Hf1 σ _ (r1.write g hd e1 ⟨_, rfl, by simp; omega, RepL.append (RepL.sub x1.sub e4) (RepL.one rk)⟩)
def extS (i : Nat) (f : Rho → R D) : Rho → RS := fun ρ => RS.bind (ownL i ρ) fun ds => RS.bind (f ρ) fun d => match d with
  | .lst es => if ds.length + es.length ≤ sizeLine then .nx (ρ.set i (some (.lst (ds ++ es)))) else .stuck
  | _ => .stuck
theorem pds_extend {i : Nat} (h : PE X e (tBM X.K "list" rExtend (tVar i) (tCons (tD X.K X.mg B.T Γ B.W .b f) tNil))) (g : Γ[i]? = some true) (hs : swapsWith e none pos.line X.env = pure false := by rfl) :
    PDS X B Γ Γ Γl (.Expr e pos) (extS i f) := fun Hf0 H0 =>
  PS.imp (ps_expr h hs) fun De σ H ⟨Hf, ρ, r, p⟩ => by
    obtain ⟨ds, hd, p⟩ := ownL_ok p
    obtain ⟨a, vs, e1, e2, e3, e4⟩ := own_lst r g hd
    refine ⟨_, e1, .inl ⟨rfl, vs, SqL.of e2⟩, Hf, ρ, r.e, PostG.mono (PostS.bind r.x p) fun d Hf1 H1 q1 x1 z v rk => ?_⟩
    have z := z.2.2
    cases d with
    | lst es =>
      obtain ⟨hl, z⟩ := if_post z
      have r1 := r.ext x1
      have e5 : H1 a = some (.lst vs) := x1.ext a _ e2 (fun ps z => by cases z)
      obtain ⟨b, zs, rfl, f1, f2, f3⟩ := RK.lst x1.inn rk
      refine ⟨a, b, vs, zs, rfl, rfl, e5, f1, by rw [e4.length, f3.length]; exact hl, ?_⟩
      exact z Hf1 σ _ (r1.write g hd e1 ⟨_, rfl, by simp; omega, RepL.append (RepL.sub x1.sub e4) f3⟩)
    | _ => exact z.elim
/-- j = x.pop(), x in slot i -/
def popS (i j : Nat) : Rho → RS := fun ρ => RS.bind (ownL i ρ) fun ds => match ds[ds.length - 1]? with
  | some d => .nx ((ρ.set i (some (.lst ds.dropLast))).set j (some d))
  | none => .stuck
theorem RepL.dropLast {K : PySem.W.Frag} {mg : Str → Option Value} {H : Hp} {ds : List D} {vs : List V} (h : RepL K mg H ds vs) : RepL K mg H ds.dropLast vs.dropLast := by
  rw [List.dropLast_eq_take, List.dropLast_eq_take, h.length]
  exact RepL.take _ h
theorem pds_pop {i j : Nat} {y : Str} {pos' : Pos} (h : PE X e (tBM0 X.K "list" rPop (tVar i))) (g : Γ[i]? = some true) (hN : X.N.Nodup) (hj : X.N[j]? = some y) (hx : Loc X.env.scope y) (hf : X.fn y = true ∨ X.env.scope.names.lookup y = some .local) (hs : swapsWith e (some (.Name y pos')) pos.line X.env = pure false := by rfl) :
    PDS X B Γ (Γ.set j false) Γl (.Assign [.Name y pos'] e pos) (popS i j) := fun Hf0 H0 =>
  PS.imp (ps_set hN hj hx h hs hf) fun De σ H ⟨Hf, ρ, r, p⟩ => by
    obtain ⟨ds, hd, p⟩ := ownL_ok p
    obtain ⟨a, vs, e1, e2, e3, e4⟩ := own_lst r g hd
    cases q : ds[ds.length - 1]? with
    | none => rw [q] at p; exact p.elim
    | some d =>
      rw [q] at p
      obtain ⟨v, h1, h2⟩ := e4.get q
      refine ⟨_, e1, .inl ⟨rfl, vs, SqL.of e2⟩, a, vs, v, rfl, rfl, e2, by rw [e4.length]; exact h1, ?_⟩
      have r1 := r.write g hd e1 (d' := .lst ds.dropLast) (o := .lst vs.dropLast) ⟨_, rfl, by simp; omega, e4.dropLast⟩
      exact p Hf _ _ ⟨r1.e.setv j h2, r1.x, r1.fr.setv j⟩
/-- x[i] = e, x a list of one's own -/
def putS (i : Nat) (f fi : Rho → R D) : Rho → RS := fun ρ => RS.bind (f ρ) fun d => RS.bind (ownL i ρ) fun ds => RS.bind (fi ρ) fun ix => match ix with
  | .int n => match ixN ds.length n with
    | some j => .nx (ρ.set i (some (.lst (ds.set j d))))
    | none => .stuck
  | _ => .stuck
/-! ### a def from its body -/
def runF (n : Nat) (F : Rho → RS) : List D → R D := fun ds => match F (ds.map some ++ List.replicate (n - ds.length) none) with
  | .nx _ => .ok .non
  | .rt d => .ok d
  | .exc e => .exc e
  | _ => .stuck
theorem RepL.start {K : PySem.W.Frag} {mg : Str → Option Value} {H : Hp} {ds : List D} {vs : List V} (h : RepL K mg H ds vs) (n : Nat) (i : Nat) (d : D) (e : (ds.map some ++ List.replicate (n - ds.length) none)[i]? = some (some d)) :
    ∃ v, (vs.map some ++ List.replicate (n - vs.length) none)[i]? = some (some v) ∧ Rep K mg H d v := by
  by_cases hi : i < ds.length
  · rw [List.getElem?_append_left (by simpa using hi), List.getElem?_map] at e
    cases q : ds[i]? with
    | none => rw [q] at e; cases e
    | some d' =>
      rw [q] at e
      cases e
      obtain ⟨v, h1, h2⟩ := h.get q
      refine ⟨v, ?_, h2⟩
      rw [List.getElem?_append_left (by simpa [h.length] using hi), List.getElem?_map, h1]
      rfl
  · rw [List.getElem?_append_right (by simpa using hi)] at e
    rw [List.getElem?_replicate] at e
    split at e <;> cases e
def noΓ (n : Nat) : List Bool := List.replicate n false
theorem fnD_of {P : Program} {w : World} {K : PySem.W.Frag} {mg : Str → Option Value} {base : Heap} {T : List (Addr × Str)} {lv : Nat} {x qual : Str} {params : Arguments} {body : List Stmt} {scope : Scope} {fa : Addr} {fd : FuncData} {N ps : List Str} {k : Kd} (C : Value → Prop)
    (hF : ∃ (oc : Value) (od : Option Addr) (dV kV doc pm : Value) (an : Option Addr) (cdv ct : Value) (osl : Array (Option Value)), fd = PySem.W.fnOf x qual params body scope dV kV doc pm an cdv ct ∧ K.lookup fa = some ⟨oc, od, .func fd, osl⟩ ∧ PySem.W.codeIn K cdv qual = true ∧ C cdv)
    (S : FnScope N ps scope) (hk : k = .v ∨ ∀ ρ ρ', F ρ ≠ .nx ρ')
    (hbody : ∀ (cdv : Value) (A : Around) (outer : List Env) (s : Shared) (H : Hp) (E : XK), C cdv → Room lv (A.deeper (envOfC qual scope s.heap.objs.size fa cdv)) →
      PDSs (cxOf (L2N.CX P w) P w K mg base N qual scope fa cdv A outer s H E) ⟨T, k, fun c d _ H' => E c d H'⟩ (noΓ N.length) (noΓ N.length) (noΓ N.length) body F) :
    FnD P w K mg base T (lv + 1) fa fd ps k (runF N.length F) := by
  obtain ⟨oc, od, dV, kV, doc, pm, an, cdv, ct, osl, rfl, lk, hcd, hC⟩ := hF
  refine fn_of lk hcd S (fun vs H Q E h => h.1) fun A outer s H vs Q E hr hsp => ?_
  obtain ⟨hl, Hf, ds, hs, ht, hrep, hp⟩ := hsp
  refine ⟨_, hbody cdv A outer s H E hC hr Hf H, Hf, ds.map some ++ List.replicate (N.length - ds.length) none, ⟨⟨hs, ht, ?_, fun i d e _ => ?_, fun i d e g => ?_, fun i j a n g => ?_⟩, ExtF.refl hs, fun i a g => ?_⟩, ?_⟩
  · simp [L2.start, hrep.length]
  · exact hrep.start N.length i d e
  · unfold noΓ at g
    rw [List.getElem?_replicate] at g
    split at g <;> cases g
  · unfold noΓ at g
    rw [List.getElem?_replicate] at g
    split at g <;> cases g
  · unfold noΓ at g
    rw [List.getElem?_replicate] at g
    split at g <;> cases g
  · unfold runF at hp
    cases q : F (ds.map some ++ List.replicate (N.length - ds.length) none) with
    | nx ρ' =>
      rw [q] at hp
      intro Hf' σ' H' r'
      rcases hk with hk | hk
      · subst hk
        exact hp Hf' H' r'.x .non rfl
      · exact absurd q (hk _ _)
    | rt d => rw [q] at hp; exact fun v Hf' H' x rk => hp Hf' H' x v rk
    | exc e => rw [q] at hp; exact fun cls dd σ' Hf' H' x rx => hp cls dd Hf' H' x rx
    | bk _ => rw [q] at hp; exact hp.elim
    | ct _ => rw [q] at hp; exact hp.elim
    | stuck => rw [q] at hp; exact hp.elim
end
end BV
namespace BV
open PySem PySem.Spec PyProof.Rows L2
/-! ### operators -/
def addD : D → D → Option D
  | .int i, .int j => some (.int (i + j))
  | .str x, .str y => if x.length + y.length ≤ sizeLine then some (.str (x ++ y)) else none
  | .tup a, .tup b => if a.length + b.length ≤ sizeLine then some (.tup (a ++ b)) else none
  | _, _ => none
def catD : D → D → Option D
  | .lst a, .lst b => if a.length + b.length ≤ sizeLine then some (.lst (a ++ b)) else none
  | _, _ => none
def subD : D → D → Option D
  | .int i, .int j => some (.int (i - j))
  | _, _ => none
def mulD : D → D → Option D
  | .int i, .int j => if i.natAbs.log2 + j.natAbs.log2 < 1000000 then some (.int (i * j)) else none
  | _, _ => none
/-- of an int of any size and one below 2 ^ 64 -/
def mulRD : D → D → Option D
  | .int i, .int j => if -(2 ^ 64) < j ∧ j < 2 ^ 64 then some (.int (i * j)) else none
  | _, _ => none
def divD : D → D → Option D
  | .int i, .int j => if 0 < j ∧ j.natAbs.log2 < 9000 then some (.int (i / j)) else none
  | _, _ => none
def modD : D → D → Option D
  | .int i, .int j => if 0 < j then some (.int (i % j)) else none
  | _, _ => none
def powD : D → D → Option D
  | .int i, .int j => if 0 ≤ j ∧ j ≤ 1000000 ∧ i.natAbs < 2 ^ 64 then some (.int (i ^ j.toNat)) else none
  | _, _ => none
def ltD : D → D → Option D
  | .int i, .int j => some (.bl (decide (i < j)))
  | .str i, .str j => some (.bl (decide (i.cps.toList < j.cps.toList)))
  | _, _ => none
def leD : D → D → Option D
  | .int i, .int j => some (.bl (decide (i ≤ j)))
  | .str i, .str j => some (.bl (!decide (j.cps.toList < i.cps.toList)))
  | _, _ => none
def gtD : D → D → Option D
  | .int i, .int j => some (.bl (decide (j < i)))
  | _, _ => none
def geD : D → D → Option D
  | .int i, .int j => some (.bl (decide (j ≤ i)))
  | _, _ => none
theorem strOk_app {x y : Str} (hx : PyData.strOk x = true) (hy : PyData.strOk y = true) : PyData.strOk (x ++ y) = true := by
  have e : (x ++ y).cps = x.cps ++ y.cps := rfl
  unfold PyData.strOk at hx hy ⊢
  rw [e, Array.all_append, hx, hy]
  rfl
theorem str_app_len {x y : Str} : (x ++ y).length = x.length + y.length := by
  show (x.cps ++ y.cps).size = x.cps.size + y.cps.size
  exact Array.size_append
section
variable {X : Cx} {T : List (Addr × Str)} {Γ : List Bool} {W : WX} {k : Kd} {e a b : Expr} {f fa fb : Rho → R D} {pos : Pos}
theorem sca {K : PySem.W.Frag} {mg : Str → Option Value} {Hf H H0 : Hp} {i : Int} {k : Kd} (hk : k ≠ .o) : RK K mg k Hf H0 H (.int i) (.int i) := by
  cases k with
  | v => rfl
  | b => exact .inl rfl
  | o => exact absurd rfl hk
/-- an answer that is an int, a truth -/
theorem od_int {g : Int → Int → Option D} {r : R2} {h : D → D → Option D} (hh : ∀ a b d, h a b = some d → ∃ i j z, a = .int i ∧ b = .int j ∧ d = z ∧ g i j = some z ∧ (∃ n, z = .int n) )
    (hr : ∀ i j n H (Q : VK), g i j = some (.int n) → Q (.int n) H → r (.int i) (.int j) H Q) : OpD X T h .v r := fun Hf H x y a b d Q s r1 r2 e q => by
  obtain ⟨i, j, z, rfl, rfl, rfl, e2, n, rfl⟩ := hh a b d e
  have e3 := RK.int r1
  have e4 := RK.int r2
  subst e3 e4
  exact hr i j n H Q e2 (q _ Hf H (ExtF.refl s) rfl)
abbrev rAddU (K : PySem.W.Frag) : R2 := fun x y H Q => rI0 (fun i j => .int (i + j)) x y H Q ∨ ((∃ i j, x = .str i ∧ y = .str j ∧ i.length + j.length ≤ sizeLine ∧ Q (.str (i ++ j)) H) ∨ rCatA K x y H Q)
theorem op_addU : OpR X (binaryOp .Add) (rAddU X.K) := op_add.or (op_add_str.or op_catA)
theorem od_add : OpD X T addD .v (rAddU X.K) := fun Hf H x y a b d Q s r1 r2 e q => by
  unfold addD at e
  split at e
  · cases e
    rename_i i j
    exact .inl ⟨i, j, RK.int r1, RK.int r2, q _ Hf H (ExtF.refl s) rfl⟩
  · rename_i u w
    split at e
    · cases e
      rename_i hl
      obtain ⟨rfl, o1, l1⟩ := RK.str r1
      obtain ⟨rfl, o2, l2⟩ := RK.str r2
      exact .inr (.inl ⟨u, w, rfl, rfl, hl, q _ Hf H (ExtF.refl s) ⟨rfl, strOk_app o1 o2, by rw [str_app_len]; exact hl⟩⟩)
    · cases e
  · rename_i us ws
    split at e
    · cases e
      rename_i hl
      obtain ⟨p1, vs, rfl, h1, l1, g1⟩ := RK.tup s r1
      obtain ⟨p2, zs, rfl, h2, l2, g2⟩ := RK.tup s r2
      refine .inr (.inr ⟨p1, p2, vs, zs, rfl, rfl, h1, h2, by rw [g1.length, g2.length]; exact hl, fun z => ?_, fun z1 z2 => ?_, fun z1 z2 p hp => ?_⟩)
      · have : us = [] := List.length_eq_zero_iff.mp (by rw [← g1.length, z]; rfl)
        subst this
        exact q _ Hf H (ExtF.refl s) (by
          rcases r2 with r2 | ⟨_, _, _, _, z⟩
          · exact r2
          · exact z.elim)
      · have : ws = [] := List.length_eq_zero_iff.mp (by rw [← g2.length, z2]; rfl)
        subst this
        rw [List.append_nil] at q
        exact q _ Hf H (ExtF.refl s) (by
          rcases r1 with r1 | ⟨_, _, _, _, z⟩
          · exact r1
          · exact z.elim)
      · have x2 : ExtF T Hf H (upd Hf p (.tup (vs ++ zs))) (upd H p (.tup (vs ++ zs))) := ExtF.newF s hp (fun ps z => nomatch z)
        exact q _ _ _ x2 ⟨p, vs ++ zs, rfl, SqT.of upd_same, by simpa using hl, RepL.append (RepL.sub x2.sub g1) (RepL.sub x2.sub g2)⟩
    · cases e
  · cases e
theorem od_cat : OpD X T catD .o rCat := fun Hf H x y a b d Q s r1 r2 e q => by
  unfold catD at e
  split at e
  · rename_i us ws
    split at e
    · cases e
      rename_i hl
      obtain ⟨p1, vs, rfl, h1, l1, g1⟩ := RK.lst s r1
      obtain ⟨p2, zs, rfl, h2, l2, g2⟩ := RK.lst s r2
      exact ⟨p1, p2, vs, zs, rfl, rfl, h1, h2, by rw [g1.length, g2.length]; exact hl, fun p hp => q _ Hf _ (ExtF.new s hp) ⟨p, _, rfl, s.none hp, Old.not hp, upd_same, _, rfl, by simpa using hl, RepL.append g1 g2⟩⟩
    · cases e
  · cases e
theorem int2 {α : Type} {K : PySem.W.Frag} {mg : Str → Option Value} {Hf H H0 : Hp} {x y : V} {i j : Int} (r1 : RK K mg .b Hf H0 H (.int i) x) (r2 : RK K mg .b Hf H0 H (.int j) y) : x = .int i ∧ y = .int j := ⟨RK.int r1, RK.int r2⟩
theorem od_sub : OpD X T subD .v (rI0 fun i j => .int (i - j)) := fun Hf H x y a b d Q s r1 r2 e q => by
  unfold subD at e
  split at e
  · cases e
    exact ⟨_, _, RK.int r1, RK.int r2, q _ Hf H (ExtF.refl s) rfl⟩
  · cases e
theorem od_mul : OpD X T mulD .v (rI CMulW fun i j => .int (i * j)) := fun Hf H x y a b d Q s r1 r2 e q => by
  unfold mulD at e
  split at e
  · split at e
    · cases e
      rename_i h
      exact ⟨_, _, RK.int r1, RK.int r2, h, q _ Hf H (ExtF.refl s) rfl⟩
    · cases e
  · cases e
theorem od_mulR : OpD X T mulRD .v (rI CMul fun i j => .int (i * j)) := fun Hf H x y a b d Q s r1 r2 e q => by
  unfold mulRD at e
  split at e
  · split at e
    · cases e
      rename_i h
      exact ⟨_, _, RK.int r1, RK.int r2, .inr h, q _ Hf H (ExtF.refl s) rfl⟩
    · cases e
  · cases e
theorem od_div : OpD X T divD .v (rI CDivW fun i j => .int (i / j)) := fun Hf H x y a b d Q s r1 r2 e q => by
  unfold divD at e
  split at e
  · split at e
    · cases e
      rename_i h
      exact ⟨_, _, RK.int r1, RK.int r2, h, q _ Hf H (ExtF.refl s) rfl⟩
    · cases e
  · cases e
theorem od_mod : OpD X T modD .v (rI (fun _ j => 0 < j) fun i j => .int (i % j)) := fun Hf H x y a b d Q s r1 r2 e q => by
  unfold modD at e
  split at e
  · split at e
    · cases e
      rename_i h
      exact ⟨_, _, RK.int r1, RK.int r2, h, q _ Hf H (ExtF.refl s) rfl⟩
    · cases e
  · cases e
theorem od_pow : OpD X T powD .v (rI CPow fun i j => .int (i ^ j.toNat)) := fun Hf H x y a b d Q s r1 r2 e q => by
  unfold powD at e
  split at e
  · split at e
    · cases e
      rename_i h
      exact ⟨_, _, RK.int r1, RK.int r2, h, q _ Hf H (ExtF.refl s) rfl⟩
    · cases e
  · cases e
abbrev rLtU : R2 := fun x y H Q => rI0 (fun i j => .bl (decide (i < j))) x y H Q ∨ ∃ i j, x = .str i ∧ y = .str j ∧ Q (.bl (decide (i.cps.toList < j.cps.toList))) H
theorem op_ltU : OpR X (compareOp .Lt) rLtU := op_lt.or op_lt_str
theorem od_lt : OpD X T ltD .v rLtU := fun Hf H x y a b d Q s r1 r2 e q => by
  unfold ltD at e
  split at e
  · cases e
    exact .inl ⟨_, _, RK.int r1, RK.int r2, q _ Hf H (ExtF.refl s) rfl⟩
  · cases e
    exact .inr ⟨_, _, (RK.str r1).1, (RK.str r2).1, q _ Hf H (ExtF.refl s) rfl⟩
  · cases e
abbrev rLeU : R2 := fun x y H Q => rI0 (fun i j => .bl (decide (i ≤ j))) x y H Q ∨ ∃ i j, x = .str i ∧ y = .str j ∧ Q (.bl (!decide (j.cps.toList < i.cps.toList))) H
theorem op_leU : OpR X (compareOp .LtE) rLeU := op_le.or op_le_str
theorem od_le : OpD X T leD .v rLeU := fun Hf H x y a b d Q s r1 r2 e q => by
  unfold leD at e
  split at e
  · cases e
    exact .inl ⟨_, _, RK.int r1, RK.int r2, q _ Hf H (ExtF.refl s) rfl⟩
  · cases e
    exact .inr ⟨_, _, (RK.str r1).1, (RK.str r2).1, q _ Hf H (ExtF.refl s) rfl⟩
  · cases e
theorem od_gt : OpD X T gtD .v (rI0 fun i j => .bl (decide (j < i))) := fun Hf H x y a b d Q s r1 r2 e q => by
  unfold gtD at e
  split at e
  · cases e
    exact ⟨_, _, RK.int r1, RK.int r2, q _ Hf H (ExtF.refl s) rfl⟩
  · cases e
theorem od_ge : OpD X T geD .v (rI0 fun i j => .bl (decide (j ≤ i))) := fun Hf H x y a b d Q s r1 r2 e q => by
  unfold geD at e
  split at e
  · cases e
    exact ⟨_, _, RK.int r1, RK.int r2, q _ Hf H (ExtF.refl s) rfl⟩
  · cases e
/-! ### data as a whole -/
mutual
def toPy : D → PyData
  | .non => .none
  | .bl b => .bool b
  | .int i => .int i
  | .str x => .str x
  | .scr ns => .list (ns.map .int)
  | .tup ds => .tuple (toPyL ds)
  | .lst ds => .list (toPyL ds)
  | .dic _ _ => .dict []
  | .obj _ _ _ => .dict []
  | .loc _ => .none
def toPyL : List D → List PyData
  | [] => []
  | d :: ds => toPy d :: toPyL ds
end
mutual
def plain : D → Bool
  | .tup ds => plainL ds
  | .lst ds => plainL ds
  | .dic _ _ => false
  | .obj _ _ _ => false
  | .loc _ => false
  | _ => true
def plainL : List D → Bool
  | [] => true
  | d :: ds => plain d && plainL ds
end
mutual
def dep : D → Nat
  | .tup ds => depL ds + 1
  | .lst ds => depL ds + 1
  | .scr _ => 1
  | _ => 0
def depL : List D → Nat
  | [] => 0
  | d :: ds => max (dep d) (depL ds)
end
theorem dpAll_ints {K : PySem.W.Frag} {H : Hp} : ∀ ns : List Int, DpAll K H (ns.map V.int) (ns.map PyData.int)
  | [] => .nil
  | n :: ns => .cons (.int n) (dpAll_ints ns)
mutual
theorem dp_of {K : PySem.W.Frag} {mg : Str → Option Value} {Hf H : Hp} (s : Sub Hf H) : ∀ {d : D} {v : V}, Rep K mg Hf d v → plain d = true → Dp K H v (toPy d)
  | .non, v, h, _ => by rw [show v = V.non from h]; exact .non
  | .bl b, v, h, _ => by rw [show v = V.bl b from h]; exact .bl b
  | .int i, v, h, _ => by rw [show v = V.int i from h]; exact .int i
  | .str x, v, h, _ => by rw [(show v = V.str x ∧ _ from h).1]; exact .str x
  | .scr ns, v, h, _ => by
    obtain ⟨a, rfl, h, _⟩ := h
    exact .lst (SqL.sub s h) (dpAll_ints ns)
  | .tup ds, v, h, p => by
    obtain ⟨a, vs, rfl, h1, _, h2⟩ := h
    exact .tup (SqT.sub s h1) (dpL_of s h2 p)
  | .lst ds, v, h, p => by
    obtain ⟨a, vs, rfl, h1, _, h2⟩ := h
    exact .lst (SqL.of (s _ _ h1).1) (dpL_of s h2 p)
  | .dic _ _, _, _, p => by cases p
  | .obj _ _ _, _, _, p => by cases p
theorem dpL_of {K : PySem.W.Frag} {mg : Str → Option Value} {Hf H : Hp} (s : Sub Hf H) : ∀ {ds : List D} {vs : List V}, RepL K mg Hf ds vs → plainL ds = true → DpAll K H vs (toPyL ds)
  | [], vs, h, _ => by rw [show vs = [] from h]; exact .nil
  | d :: ds, vs, h, p => by
    obtain ⟨v, r, rfl, h1, h2⟩ := h
    have p : (plain d && plainL ds) = true := p
    rw [Bool.and_eq_true] at p
    exact .cons (dp_of s h1 p.1) (dpL_of s h2 p.2)
end
theorem lay_ints : ∀ ns : List Int, PyData.canLayAll0 (ns.map PyData.int) = true
  | [] => rfl
  | n :: ns => by
    have := lay_ints ns
    simp [PyData.canLayAll0, PyData.canLay0, this]
mutual
theorem lay_of {K : PySem.W.Frag} {mg : Str → Option Value} {Hf : Hp} : ∀ {d : D} {v : V}, Rep K mg Hf d v → plain d = true → (toPy d).canLay0 = true
  | .non, v, h, _ => rfl
  | .bl b, v, h, _ => rfl
  | .int i, v, h, _ => rfl
  | .str x, v, h, _ => by
    show PyData.canLay0 (.str x) = true
    simpa [PyData.canLay0] using (show v = V.str x ∧ PyData.strOk x = true ∧ _ from h).2.1
  | .scr ns, v, h, _ => by
    show PyData.canLay0 (.list (ns.map .int)) = true
    simpa [PyData.canLay0] using lay_ints ns
  | .tup ds, v, h, p => by
    obtain ⟨a, vs, rfl, h1, _, h2⟩ := h
    show PyData.canLay0 (.tuple (toPyL ds)) = true
    simpa [PyData.canLay0] using layL_of h2 p
  | .lst ds, v, h, p => by
    obtain ⟨a, vs, rfl, h1, _, h2⟩ := h
    show PyData.canLay0 (.list (toPyL ds)) = true
    simpa [PyData.canLay0] using layL_of h2 p
  | .dic _ _, _, _, p => by cases p
  | .obj _ _ _, _, _, p => by cases p
theorem layL_of {K : PySem.W.Frag} {mg : Str → Option Value} {Hf : Hp} : ∀ {ds : List D} {vs : List V}, RepL K mg Hf ds vs → plainL ds = true → PyData.canLayAll0 (toPyL ds) = true
  | [], vs, h, _ => rfl
  | d :: ds, vs, h, p => by
    obtain ⟨v, r, rfl, h1, h2⟩ := h
    have p : (plain d && plainL ds) = true := p
    rw [Bool.and_eq_true] at p
    simp [toPyL, PyData.canLayAll0, lay_of h1 p.1, layL_of h2 p.2]
end
theorem dep_ints : ∀ ns : List Int, PyData.depthAll (ns.map PyData.int) = 0
  | [] => rfl
  | n :: ns => by simp [PyData.depthAll, PyData.depth, dep_ints ns]
mutual
theorem dep_py : ∀ d : D, plain d = true → (toPy d).depth = dep d
  | .non, _ => rfl
  | .bl b, _ => rfl
  | .int i, _ => rfl
  | .str x, _ => rfl
  | .scr ns, _ => by
    show PyData.depth (.list (ns.map .int)) = 1
    simp [PyData.depth, dep_ints]
  | .tup ds, p => by
    show PyData.depth (.tuple (toPyL ds)) = depL ds + 1
    simp [PyData.depth, depL_py ds p]
  | .lst ds, p => by
    show PyData.depth (.list (toPyL ds)) = depL ds + 1
    simp [PyData.depth, depL_py ds p]
  | .dic _ _, p => by cases p
  | .obj _ _ _, p => by cases p
  | .loc _, p => by cases p
theorem depL_py : ∀ ds : List D, plainL ds = true → PyData.depthAll (toPyL ds) = depL ds
  | [], _ => rfl
  | d :: ds, p => by
    have p : (plain d && plainL ds) = true := p
    rw [Bool.and_eq_true] at p
    simp [toPyL, PyData.depthAll, depL, dep_py d p.1, depL_py ds p.2]
end
def okD (d : D) : Bool := plain d && decide (dep d ≤ 63)
def eqv (a b : D) : Bool := PyData.eqv (toPy a) (toPy b)
theorem dat {K : PySem.W.Frag} {mg : Str → Option Value} {Hf H H0 : Hp} {d : D} {v : V} (s : Sub Hf H) (r : RK K mg .b Hf H0 H d v) (h : okD d = true) : Dp K H v (toPy d) ∧ SeqAt.shaped (toPy d) = true := by
  unfold okD at h
  rw [Bool.and_eq_true] at h
  have hd : (toPy d).depth ≤ 64 := by rw [dep_py d h.1]; have := of_decide_eq_true h.2; omega
  rcases r with r | ⟨a, o, rfl, h1, h2⟩
  · refine ⟨dp_of s r h.1, ?_⟩
    unfold SeqAt.shaped
    rw [lay_of r h.1, decide_eq_true hd]
    rfl
  · cases d with
    | lst ds =>
      obtain ⟨vs, rfl, l, h2⟩ := h2
      refine ⟨.lst (SqL.of h1) (dpL_of s h2 h.1), ?_⟩
      unfold SeqAt.shaped
      have : (toPy (.lst ds)).canLay0 = true := by
        show PyData.canLay0 (.list (toPyL ds)) = true
        simpa [PyData.canLay0] using layL_of h2 h.1
      rw [this, decide_eq_true hd]
      rfl
    | dic _ _ => cases h.1
    | obj _ _ _ => cases h.1
    | _ => exact h2.elim
def eqD (a b : D) : Option D := if okD a && okD b then some (.bl (eqv a b)) else none
def neD (a b : D) : Option D := if okD a && okD b then some (.bl (!eqv a b)) else none
theorem od_eq : OpD X T eqD .v (rEqD X.K) := fun Hf H x y a b d Q s r1 r2 e q => by
  unfold eqD at e
  split at e
  · cases e
    rename_i h
    rw [Bool.and_eq_true] at h
    obtain ⟨h1, h2⟩ := dat s r1 h.1
    obtain ⟨h3, h4⟩ := dat s r2 h.2
    exact ⟨_, _, h1, h3, h2, h4, q _ Hf H (ExtF.refl s) rfl⟩
  · cases e
theorem od_ne : OpD X T neD .v (rNeD X.K) := fun Hf H x y a b d Q s r1 r2 e q => by
  unfold neD at e
  split at e
  · cases e
    rename_i h
    rw [Bool.and_eq_true] at h
    obtain ⟨h1, h2⟩ := dat s r1 h.1
    obtain ⟨h3, h4⟩ := dat s r2 h.2
    exact ⟨_, _, h1, h3, h2, h4, q _ Hf H (ExtF.refl s) rfl⟩
  · cases e
/-! ### is None -/
def D.isNon : D → Bool
  | .non => true
  | _ => false
def isNonD (a : D) : Option D := some (.bl a.isNon)
def isntNonD (a : D) : Option D := some (.bl (!a.isNon))
theorem non_iff {K : PySem.W.Frag} {mg : Str → Option Value} {Hf H H0 : Hp} {d : D} {v : V} (r : RK K mg .b Hf H0 H d v) : decide (v = V.non) = d.isNon := by
  rcases r with r | ⟨a, o, rfl, _, h⟩
  · cases d with
    | non => rw [show v = V.non from r]; rfl
    | bl b => rw [show v = V.bl b from r]; rfl
    | int b => rw [show v = V.int b from r]; rfl
    | str b => rw [(show v = V.str b ∧ _ from r).1]; rfl
    | scr ns => obtain ⟨a, rfl, _⟩ := r; rfl
    | tup ns => obtain ⟨a, _, rfl, _⟩ := r; rfl
    | lst ns => obtain ⟨a, _, rfl, _⟩ := r; rfl
    | dic ns _ => obtain ⟨a, _, rfl, _⟩ := r; rfl
    | obj _ ns _ => obtain ⟨a, _, _, _, rfl, _⟩ := r; rfl
    | loc _ => exact r.elim
  · cases d <;> first | rfl | exact h.elim
theorem pd_isN {j pos'} (ha : PD X T Γ W .b a fa) : PD X T Γ W .v (.Compare a [.Is] [.Constant .none j pos'] pos) (unE isNonD fa) :=
  pd_un (r := fun x H Q => Q (.bl (decide (x = .non))) H) (pe_cmp (pc_isN ha) rfl) (fun _ _ _ q => q) fun Hf H x a d Q s r e q => by
    cases e
    rw [non_iff r]
    exact q _ Hf H (ExtF.refl s) rfl
theorem pd_isntN {j pos'} (ha : PD X T Γ W .b a fa) : PD X T Γ W .v (.Compare a [.IsNot] [.Constant .none j pos'] pos) (unE isntNonD fa) :=
  pd_un (r := fun x H Q => Q (.bl (!decide (x = .non))) H) (pe_cmp (pc_notN ha) rfl) (fun _ _ _ q => q) fun Hf H x a d Q s r e q => by
    cases e
    rw [non_iff r]
    exact q _ Hf H (ExtF.refl s) rfl
/-! ### a chain of two comparisons: the middle once -/
def chnE (g g' : D → D → Option D) (fa fb fc : Rho → R D) : Rho → R D := fun ρ => (fa ρ).bind fun a => (fb ρ).bind fun b => (R.of (g a b)).bind fun t => t.asB.bind fun c => if c = true then (fc ρ).bind fun z => R.of (g' b z) else .ok (.bl false)
theorem pd_chn {c : Expr} {fc : Rho → R D} {g g' : D → D → Option D} {r r' : R2} (h : PE X e (tChain r r' (tD X.K X.mg T Γ W .b fa) (tD X.K X.mg T Γ W .b fb) (tD X.K X.mg T Γ W .b fc))) (hg : OpD X T g .v r) (hg' : OpD X T g' .v r') : PD X T Γ W .v e (chnE g g' fa fb fc) :=
  PE.imp h fun σ H Q ⟨Hf, ρ, rel, p⟩ => ⟨Hf, ρ, rel, PostE.bind p fun d v Hf1 H1 e1 x1 rk p1 => ⟨Hf1, ρ, rel.ext x1, PostE.bind p1 fun d2 v2 Hf2 H2 e2 x2 rk2 p2 => by
    have rel2 := (rel.ext x1).ext x2
    cases q : g d d2 with
    | none => rw [q] at p2; exact p2.elim
    | some d3 =>
      rw [q] at p2
      refine hg Hf2 H2 v v2 d d2 d3 _ x2.inn (RK.ext x2 rk) rk2 q fun v3 Hf3 H3 x3 rk3 => ?_
      obtain ⟨cc, rfl, p3⟩ := asB_bind (show PostG X.K X.mg T Hf2 H2 W σ _ (d3.asB.bind _) from p2)
      refine ⟨cc, rk3, ?_⟩
      cases cc with
      | false =>
        refine iteF ?_
        exact p3 Hf3 H3 x3 _ rfl
      | true =>
        refine iteT ⟨Hf3, ρ, rel2.ext x3, ?_⟩
        have p3 : PostE X.K X.mg T Hf2 H2 .v W σ Q ((fc ρ).bind fun z => R.of (g' d2 z)) := p3
        refine PostE.bind (PostE.shift x3 p3) fun z v4 Hf4 H4 e4 x4 rk4 p4 => ?_
        obtain ⟨d5, e5, p5⟩ := of_some p4
        exact hg' Hf4 H4 v2 v4 d2 z d5 Q x4.inn (RK.ext x4 (RK.ext x3 rk2)) rk4 e5 fun v6 Hf6 H6 x6 rk6 => p5 Hf6 H6 x6 v6 rk6⟩⟩
end
end BV
namespace BV
open PySem PySem.Spec PyProof.Rows L2
section
variable {X : Cx} {T : List (Addr × Str)} {Γ : List Bool} {W : WX} {k : Kd} {e a b : Expr} {f fa fb : Rho → R D} {pos : Pos}
theorem RKL.one {K : PySem.W.Frag} {mg : Str → Option Value} {Hf H0 H : Hp} {d : D} {vs : List V} (h : RKL K mg k Hf H0 H [d] vs) : ∃ v, vs = [v] ∧ RK K mg k Hf H0 H d v := by
  obtain ⟨v, r, rfl, h1, h2⟩ := h
  rw [show r = [] from h2]
  exact ⟨v, rfl, h1⟩
theorem RKL.two {K : PySem.W.Frag} {mg : Str → Option Value} {Hf H0 H : Hp} {d d2 : D} {vs : List V} (h : RKL K mg k Hf H0 H [d, d2] vs) : ∃ v v2, vs = [v, v2] ∧ RK K mg k Hf H0 H d v ∧ RK K mg k Hf H0 H d2 v2 := by
  obtain ⟨v, r, rfl, h1, h2⟩ := h
  obtain ⟨v2, rfl, h3⟩ := RKL.one h2
  exact ⟨v, v2, rfl, h1, h3⟩
/-! ### what is built in -/
def lenB : List D → Option D
  | [.str x] => some (.int x.length)
  | [.lst ds] => some (.int ds.length)
  | [.tup ds] => some (.int ds.length)
  | [.scr ns] => some (.int ns.length)
  | _ => none
theorem fb_len : FnB X T lenB .v (fun xs H Q => ∃ x n, xs = [x] ∧ LenV X.K x H n ∧ Q (.int n) H) := fun Hf H vs ds d Q s r e q => by
  unfold lenB at e
  split at e
  · cases e
    obtain ⟨v, rfl, h⟩ := r.one
    obtain ⟨rfl, h1, h2⟩ := RK.str h
    exact ⟨_, _, rfl, ⟨h2, rfl⟩, q _ Hf H (ExtF.refl s) rfl⟩
  · cases e
    obtain ⟨v, rfl, h⟩ := r.one
    obtain ⟨p, ws, rfl, h1, h2, h3⟩ := RK.lst s h
    exact ⟨_, _, rfl, .inl ⟨_, SqL.of h1, rfl⟩, by rw [h3.length]; exact q _ Hf H (ExtF.refl s) rfl⟩
  · cases e
    obtain ⟨v, rfl, h⟩ := r.one
    obtain ⟨p, ws, rfl, h1, h2, h3⟩ := RK.tup s h
    exact ⟨_, _, rfl, .inr ⟨_, h1, rfl⟩, by rw [h3.length]; exact q _ Hf H (ExtF.refl s) rfl⟩
  · cases e
    obtain ⟨v, rfl, h⟩ := r.one
    obtain ⟨p, rfl, h1, h2⟩ := RK.scr s h
    exact ⟨_, _, rfl, .inl ⟨_, h1, rfl⟩, by rw [List.length_map]; exact q _ Hf H (ExtF.refl s) rfl⟩
  · cases e
def absB : List D → Option D
  | [.int i] => some (.int (if i < 0 then -i else i))
  | _ => none
theorem fb_abs : FnB X T absB .v (fun xs H Q => ∃ i, xs = [.int i] ∧ Q (.int (if i < 0 then -i else i)) H) := fun Hf H vs ds d Q s r e q => by
  unfold absB at e
  split at e
  · cases e
    obtain ⟨v, rfl, h⟩ := r.one
    exact ⟨_, by rw [RK.int h], q _ Hf H (ExtF.refl s) rfl⟩
  · cases e
def max2B : List D → Option D
  | [.int i, .int j] => some (.int (if j > i then j else i))
  | _ => none
def min2B : List D → Option D
  | [.int i, .int j] => some (.int (if j < i then j else i))
  | _ => none
theorem fb_max2 : FnB X T max2B .v (fun xs H Q => ∃ i j, xs = [.int i, .int j] ∧ Q (.int (if j > i then j else i)) H) := fun Hf H vs ds d Q s r e q => by
  unfold max2B at e
  split at e
  · cases e
    obtain ⟨v, v2, rfl, h, h2⟩ := r.two
    exact ⟨_, _, by rw [RK.int h, RK.int h2], q _ Hf H (ExtF.refl s) rfl⟩
  · cases e
theorem fb_min2 : FnB X T min2B .v (fun xs H Q => ∃ i j, xs = [.int i, .int j] ∧ Q (.int (if j < i then j else i)) H) := fun Hf H vs ds d Q s r e q => by
  unfold min2B at e
  split at e
  · cases e
    obtain ⟨v, v2, rfl, h, h2⟩ := r.two
    exact ⟨_, _, by rw [RK.int h, RK.int h2], q _ Hf H (ExtF.refl s) rfl⟩
  · cases e
def intB : List D → Option D
  | [.int i] => some (.int i)
  | [.bl c] => some (.int (if c then 1 else 0))
  | _ => none
theorem fb_int : FnB X T intB .v (fun xs H Q => (∃ i, xs = [.int i] ∧ Q (.int i) H) ∨ ∃ k, xs = [.bl k] ∧ Q (.int (if k then 1 else 0)) H) := fun Hf H vs ds d Q s r e q => by
  unfold intB at e
  split at e
  · cases e
    obtain ⟨v, rfl, h⟩ := r.one
    exact .inl ⟨_, by rw [RK.int h], q _ Hf H (ExtF.refl s) rfl⟩
  · cases e
    obtain ⟨v, rfl, h⟩ := r.one
    exact .inr ⟨_, by rw [RK.bl h], q _ Hf H (ExtF.refl s) rfl⟩
  · cases e
def intsOf : List D → Option (List Int)
  | [] => some []
  | .int i :: ds => (intsOf ds).map (i :: ·)
  | _ => none
def blsOf : List D → Option (List Bool)
  | [] => some []
  | .bl i :: ds => (blsOf ds).map (i :: ·)
  | _ => none
def strsOf : List D → Option (List Str)
  | [] => some []
  | .str i :: ds => (strsOf ds).map (i :: ·)
  | _ => none
theorem intsOf_ok {K : PySem.W.Frag} {mg : Str → Option Value} {H : Hp} : ∀ {ds : List D} {vs : List V} {ns : List Int}, intsOf ds = some ns → RepL K mg H ds vs → vs = ns.map V.int
  | [], vs, ns, e, h => by cases e; exact h
  | d :: ds, vs, ns, e, h => by
    obtain ⟨v, r, rfl, h1, h2⟩ := h
    cases d <;> simp only [intsOf, reduceCtorEq] at e
    cases q : intsOf ds with
    | none => rw [q] at e; cases e
    | some ms =>
      rw [q] at e
      cases e
      rw [intsOf_ok q h2, show v = V.int _ from h1]
      rfl
theorem blsOf_ok {K : PySem.W.Frag} {mg : Str → Option Value} {H : Hp} : ∀ {ds : List D} {vs : List V} {ns : List Bool}, blsOf ds = some ns → RepL K mg H ds vs → vs = ns.map V.bl
  | [], vs, ns, e, h => by cases e; exact h
  | d :: ds, vs, ns, e, h => by
    obtain ⟨v, r, rfl, h1, h2⟩ := h
    cases d <;> simp only [blsOf, reduceCtorEq] at e
    cases q : blsOf ds with
    | none => rw [q] at e; cases e
    | some ms =>
      rw [q] at e
      cases e
      rw [blsOf_ok q h2, show v = V.bl _ from h1]
      rfl
theorem strsOf_ok {K : PySem.W.Frag} {mg : Str → Option Value} {H : Hp} : ∀ {ds : List D} {vs : List V} {ns : List Str}, strsOf ds = some ns → RepL K mg H ds vs → vs = ns.map V.str ∧ ∀ x ∈ ns, PyData.strOk x = true
  | [], vs, ns, e, h => by cases e; exact ⟨h, by simp⟩
  | d :: ds, vs, ns, e, h => by
    obtain ⟨v, r, rfl, h1, h2⟩ := h
    cases d <;> simp only [strsOf, reduceCtorEq] at e
    cases q : strsOf ds with
    | none => rw [q] at e; cases e
    | some ms =>
      rw [q] at e
      cases e
      obtain ⟨e1, e2⟩ := strsOf_ok q h2
      obtain ⟨h1, h3, _⟩ := h1
      rw [e1, h1]
      exact ⟨rfl, fun x hx => by
        rcases List.mem_cons.mp hx with rfl | hx
        · exact h3
        · exact e2 x hx⟩
def sumB : List D → Option D
  | [.lst ds] => (intsOf ds).map fun ns => .int ns.sum
  | _ => none
def allB : List D → Option D
  | [.lst ds] => (blsOf ds).map fun ns => .bl (ns.all id)
  | _ => none
def anyB : List D → Option D
  | [.lst ds] => (blsOf ds).map fun ns => .bl (ns.any id)
  | _ => none
theorem map_some {α β : Type} {o : Option α} {f : α → β} {y : β} (h : o.map f = some y) : ∃ x, o = some x ∧ f x = y := by
  cases o with
  | none => cases h
  | some x => exact ⟨x, rfl, Option.some.inj h⟩
theorem fb_sum : FnB X T sumB .v (rSum X.K) := fun Hf H vs ds d Q s r e q => by
  unfold sumB at e
  split at e
  · obtain ⟨ns, e1, e2⟩ := map_some e
    subst e2
    obtain ⟨v, rfl, h⟩ := r.one
    obtain ⟨p, ws, rfl, h1, h2, h3⟩ := RK.lst s h
    have e3 := intsOf_ok e1 h3
    subst e3
    exact ⟨p, ns, rfl, SqL.of h1, q _ Hf H (ExtF.refl s) rfl⟩
  · cases e
theorem fb_all : FnB X T allB .v (rAll X.K) := fun Hf H vs ds d Q s r e q => by
  unfold allB at e
  split at e
  · obtain ⟨ns, e1, e2⟩ := map_some e
    subst e2
    obtain ⟨v, rfl, h⟩ := r.one
    obtain ⟨p, ws, rfl, h1, h2, h3⟩ := RK.lst s h
    have e3 := blsOf_ok e1 h3
    subst e3
    exact ⟨p, ns, rfl, SqL.of h1, q _ Hf H (ExtF.refl s) rfl⟩
  · cases e
theorem fb_any : FnB X T anyB .v (rAny X.K) := fun Hf H vs ds d Q s r e q => by
  unfold anyB at e
  split at e
  · obtain ⟨ns, e1, e2⟩ := map_some e
    subst e2
    obtain ⟨v, rfl, h⟩ := r.one
    obtain ⟨p, ws, rfl, h1, h2, h3⟩ := RK.lst s h
    have e3 := blsOf_ok e1 h3
    subst e3
    exact ⟨p, ns, rfl, SqL.of h1, q _ Hf H (ExtF.refl s) rfl⟩
  · cases e
def ordB : List D → Option D
  | [.str x] => if x.length = 1 then some (.int (x.cps.getD 0 0 : Nat)) else none
  | _ => none
theorem fb_ord : FnB X T ordB .v (fun xs H Q => ∃ x, xs = [.str x] ∧ x.length = 1 ∧ Q (.int (x.cps.getD 0 0 : Nat)) H) := fun Hf H vs ds d Q s r e q => by
  unfold ordB at e
  split at e
  · split at e
    · cases e
      obtain ⟨v, rfl, h⟩ := r.one
      exact ⟨_, by rw [(RK.str h).1], by assumption, q _ Hf H (ExtF.refl s) rfl⟩
    · cases e
  · cases e
def tupB : List D → Option D
  | [.lst ds] => some (.tup ds)
  | [.tup ds] => some (.tup ds)
  | _ => none
theorem fb_tup : FnB X T tupB .v (fun xs H Q => ∃ p ys, xs = [.ref p] ∧ ((SqL X.K H p ys ∧ ∀ l, H l = none → Q (.ref l) (upd H l (.tup ys))) ∨ (SqT X.K H p ys ∧ Q (.ref p) H))) := fun Hf H vs ds d Q s r e q => by
  unfold tupB at e
  split at e
  · cases e
    obtain ⟨v, rfl, h⟩ := r.one
    obtain ⟨p, ws, rfl, h1, h2, h3⟩ := RK.lst s h
    refine ⟨p, ws, rfl, .inl ⟨SqL.of h1, fun l hl => ?_⟩⟩
    have x2 : ExtF T Hf H (upd Hf l (.tup ws)) (upd H l (.tup ws)) := ExtF.newF s hl (fun ps z => nomatch z)
    exact q _ _ _ x2 ⟨l, ws, rfl, SqT.of upd_same, h2, RepL.sub x2.sub h3⟩
  · cases e
    obtain ⟨v, rfl, h⟩ := r.one
    obtain ⟨p, ws, rfl, h1, h2, h3⟩ := RK.tup s h
    refine ⟨p, ws, rfl, .inr ⟨h1, q _ Hf H (ExtF.refl s) ?_⟩⟩
    rcases h with h | ⟨_, _, _, _, z⟩
    · exact h
    · exact z.elim
  · cases e
def lstB : List D → Option D
  | [.lst ds] => some (.lst ds)
  | [.tup ds] => some (.lst ds)
  | _ => none
theorem fb_lst : FnB X T lstB .o (fun xs H Q => ∃ p ys, xs = [.ref p] ∧ (SqL X.K H p ys ∨ SqT X.K H p ys) ∧ ∀ l, H l = none → Q (.ref l) (upd H l (.lst ys))) := fun Hf H vs ds d Q s r e q => by
  unfold lstB at e
  split at e
  · cases e
    obtain ⟨v, rfl, h⟩ := r.one
    obtain ⟨p, ws, rfl, h1, h2, h3⟩ := RK.lst s h
    exact ⟨p, ws, rfl, .inl (SqL.of h1), fun l hl => q _ Hf _ (ExtF.new s hl) ⟨l, _, rfl, s.none hl, Old.not hl, upd_same, ws, rfl, h2, h3⟩⟩
  · cases e
    obtain ⟨v, rfl, h⟩ := r.one
    obtain ⟨p, ws, rfl, h1, h2, h3⟩ := RK.tup s h
    exact ⟨p, ws, rfl, .inr h1, fun l hl => q _ Hf _ (ExtF.new s hl) ⟨l, _, rfl, s.none hl, Old.not hl, upd_same, ws, rfl, h2, h3⟩⟩
  · cases e
def strB : List D → Option D
  | [.int i] => if i.natAbs.log2 < 1000 then some (.str (toString i)) else none
  | _ => none
/-! ### isinstance -/
def D.ty : D → Option String
  | .non => some "NoneType"
  | .bl _ => some "bool"
  | .int _ => some "int"
  | .str _ => some "str"
  | .scr _ => some "list"
  | .tup _ => some "tuple"
  | .lst _ => some "list"
  | .dic _ _ => some "dict"
  | .obj _ _ _ => none
  | .loc _ => none
def isiD (t : String) (d : D) : Option D := d.ty.bind fun n => (kitB n t).map .bl
theorem ty_ok {K : PySem.W.Frag} {mg : Str → Option Value} {Hf H0 H : Hp} {d : D} {v : V} {n : String} (s : Sub Hf H) (r : RK K mg .b Hf H0 H d v) (h : d.ty = some n) : TyX K H v (.type n) := by
  rcases r with r | ⟨a, o, rfl, h1, h2⟩
  · cases d <;> simp only [D.ty, Option.some.injEq, reduceCtorEq] at h
    all_goals subst h
    · rw [show v = V.non from r]; exact .base .non
    · rw [show v = V.bl _ from r]; exact .base (.bl _)
    · rw [show v = V.int _ from r]; exact .base (.int _)
    · rw [(show v = V.str _ ∧ _ from r).1]; exact .base (.str _)
    · obtain ⟨a, rfl, h, _⟩ := r
      rcases SqL.sub s h with (h | ⟨o, h⟩) | ⟨o, its, n, h, c, _⟩
      · exact .base (.lst h)
      · exact .base (.frz h)
      · exact .kList h c
    · obtain ⟨a, vs, rfl, h, _⟩ := r
      rcases SqT.sub s h with (h | ⟨o, h⟩) | ⟨o, its, n, h, c, _⟩
      · exact .base (.tup h)
      · exact .fTuple h
      · exact .kTuple h c
    · obtain ⟨a, vs, rfl, h, _⟩ := r
      exact .base (.lst (s _ _ h).1)
    · obtain ⟨a, vs, rfl, h, _⟩ := r
      exact .base (.dK (s _ _ h).1)
  · cases d <;> simp only [D.ty, Option.some.injEq, reduceCtorEq] at h
    all_goals subst h
    · exact h2.elim
    · exact h2.elim
    · exact h2.elim
    · exact h2.elim
    · exact h2.elim
    · exact h2.elim
    · obtain ⟨vs, rfl, _⟩ := h2
      exact .base (.lst h1)
    · obtain ⟨kvs, rfl, _⟩ := h2
      exact .base (.dK h1)
theorem pd_isi {t : String} (h : PE X e (tCB (rIsi X.K) (tCons (tD X.K X.mg T Γ W .b fa) (tCons (tC (.ty t)) tNil)))) : PD X T Γ W .v e (unE (isiD t) fa) :=
  pd_un (r := fun x H Q => ∃ n b, TyX X.K H x (.type n) ∧ kitB n t = some b ∧ Q (.bl b) H) h (fun σ H Q ⟨Hf, ρ, rel, p⟩ => ⟨Hf, ρ, rel, PostG.mono p fun _ _ _ _ _ z v rk => by
    obtain ⟨n, b, h1, h2, q⟩ := z v rk
    exact ⟨_, .ty t, .type n, .type t, b, rfl, .ty t, h1, kit_ty h2, q⟩⟩) fun Hf H x a d Q s r e q => by
    unfold isiD at e
    cases q1 : a.ty with
    | none => rw [q1] at e; cases e
    | some n =>
      rw [q1] at e
      obtain ⟨b, q2, rfl⟩ := map_some (show (kitB n t).map D.bl = some d from e)
      exact ⟨n, b, ty_ok s r q1, q2, q _ Hf H (ExtF.refl s) rfl⟩
/-! ### subscripts -/
def ixD : D → D → Option D
  | .lst ds, .int i => atI ds i
  | .tup ds, .int i => atI ds i
  | .str x, .int i => (atI x.cps.toList i).map fun c => .str ⟨#[c]⟩
  | .scr ns, .int i => (atI ns i).map .int
  | _, _ => none
theorem atI_get {α : Type} {xs : List α} {i : Int} {y : α} (h : atI xs i = some y) : ∃ j, ixN xs.length i = some j ∧ xs[j]? = some y := by
  unfold atI at h
  cases q : ixN xs.length i with
  | none => rw [q] at h; cases h
  | some j => rw [q] at h; exact ⟨j, rfl, h⟩
theorem RepL.atI {K : PySem.W.Frag} {mg : Str → Option Value} {H : Hp} {ds : List D} {vs : List V} {i : Int} {d : D} (h : RepL K mg H ds vs) (e : atI ds i = some d) : ∃ v, atI vs i = some v ∧ Rep K mg H d v := by
  obtain ⟨j, e1, e2⟩ := atI_get e
  obtain ⟨v, h1, h2⟩ := h.get e2
  refine ⟨v, ?_, h2⟩
  show (ixN vs.length i).bind _ = some v
  rw [h.length, e1]
  exact h1
theorem od_ix : OpD X T ixD .v (rIx X.K) := fun Hf H x y a b d Q s r1 r2 e q => by
  unfold ixD at e
  split at e
  · obtain ⟨p, ws, rfl, h1, h2, h3⟩ := RK.lst s r1
    have e2 := RK.int r2
    subst e2
    obtain ⟨v, e3, e4⟩ := h3.atI e
    exact .inl ⟨p, ws, _, v, rfl, rfl, SqL.of h1, e3, q _ Hf H (ExtF.refl s) e4⟩
  · obtain ⟨p, ws, rfl, h1, h2, h3⟩ := RK.tup s r1
    have e2 := RK.int r2
    subst e2
    obtain ⟨v, e3, e4⟩ := h3.atI e
    exact .inr (.inl ⟨p, ws, _, v, rfl, rfl, h1, e3, q _ Hf H (ExtF.refl s) e4⟩)
  · obtain ⟨c, e1, rfl⟩ := map_some e
    obtain ⟨rfl, o1, l1⟩ := RK.str r1
    have e2 := RK.int r2
    subst e2
    obtain ⟨j, _, e3⟩ := atI_get e1
    exact .inr (.inr ⟨_, _, c, rfl, rfl, l1, e1, q _ Hf H (ExtF.refl s) ⟨rfl, strOk_sign o1 (by simpa using e3), by show 1 ≤ sizeLine; decide⟩⟩)
  · obtain ⟨n, e1, rfl⟩ := map_some e
    obtain ⟨p, rfl, h1, h2⟩ := RK.scr s r1
    have e2 := RK.int r2
    subst e2
    obtain ⟨j, e3, e4⟩ := atI_get e1
    refine .inl ⟨p, _, _, .int n, rfl, rfl, h1, ?_, q _ Hf H (ExtF.refl s) rfl⟩
    show (ixN (List.map V.int _).length _).bind _ = _
    rw [List.length_map, e3]
    show (List.map V.int _)[j]? = _
    rw [List.getElem?_map, e4]
    rfl
  · cases e
/-! ### slices -/
def PDO (X : Cx) (T : List (Addr × Str)) (Γ : List Bool) (W : WX) (e : Option Expr) (f : Rho → R (Option Int)) : Prop :=
  PO X e (fun σ H Q => ∃ Hf ρ, RelE X.K X.mg T Γ ρ Hf σ H ∧ PostG X.K X.mg T Hf H W σ (fun o _ H' => Q o H') (f ρ))
def nonO : Rho → R (Option Int) := fun _ => .ok none
@[simp] def D.asI : D → R Int
  | .int i => .ok i
  | _ => .stuck
def somO (f : Rho → R D) : Rho → R (Option Int) := fun ρ => (f ρ).bind fun d => d.asI.bind fun i => .ok (some i)
theorem pdo_non : PDO X T Γ W none nonO := ⟨fun pins s σ H Q I ⟨Hf, ρ, rel, p⟩ => po_none.run pins s σ H Q I (p Hf H (ExtF.refl rel.sub))⟩
theorem pdo_som (h : PD X T Γ W .b e f) : PDO X T Γ W (some e) (somO f) := ⟨fun pins s σ H Q I ⟨Hf, ρ, rel, p⟩ => (po_some h).run pins s σ H Q I ⟨Hf, ρ, rel, PostG.mono (PostG.bind p) fun d Hf1 H1 e1 x1 z v rk => by
  have z := z.2.2
  cases d with
  | int i => exact ⟨i, RK.int rk, z Hf1 H1 (ExtF.refl x1.inn)⟩
  | _ => exact z.elim⟩⟩
def cutL {α : Type} (xs : List α) (lo hi : Option Int) : List α := (xs.drop (HT.sIx xs.length 0 lo)).take (HT.sIx xs.length xs.length hi - HT.sIx xs.length 0 lo)
theorem cutL_len {α : Type} (xs : List α) (lo hi : Option Int) : (cutL xs lo hi).length ≤ xs.length := by
  unfold cutL
  rw [List.length_take, List.length_drop]
  omega
def sliD : D → Option Int → Option Int → Option D
  | .str x, lo, hi => some (.str (cutS x lo hi))
  | .tup ds, lo, hi => some (.tup (cutL ds lo hi))
  | _, _, _ => none
def sliL : D → Option Int → Option Int → Option D
  | .lst ds, lo, hi => some (.lst (cutL ds lo hi))
  | _, _, _ => none
def slcE (g : D → Option Int → Option Int → Option D) (f : Rho → R D) (lo hi : Rho → R (Option Int)) : Rho → R D := fun ρ => (f ρ).bind fun d => (lo ρ).bind fun l => (hi ρ).bind fun h => R.of (g d l h)
def SlD (X : Cx) (T : List (Addr × Str)) (g : D → Option Int → Option Int → Option D) (k : Kd) (r : V → Option Int → Option Int → Hp → VK → Prop) : Prop :=
  ∀ (Hf H : Hp) (x : V) (a d : D) (lo hi : Option Int) (Q : VK), Sub Hf H → RK X.K X.mg .b Hf H H a x → g a lo hi = some d → (∀ v Hf' H', ExtF T Hf H Hf' H' → RK X.K X.mg k Hf' H H' d v → Q v H') → r x lo hi H Q
theorem pd_slc {r : V → Option Int → Option Int → Hp → VK → Prop} {g : D → Option Int → Option Int → Option D} {lo hi : Option Expr} {fl fh : Rho → R (Option Int)} {p2 : Pos} (hr : SlR X r) (hg : SlD X T g k r) (ha : PD X T Γ W .b a fa) (hl : PDO X T Γ W lo fl) (hh : PDO X T Γ W hi fh) :
    PD X T Γ W k (.Subscript a (.Slice lo hi none p2) pos) (slcE g fa fl fh) :=
  PE.imp (pe_slice hr ha hl hh) fun σ H Q ⟨Hf, ρ, rel, p⟩ => ⟨Hf, ρ, rel, PostE.bind p fun d v Hf1 H1 e1 x1 rk p1 => ⟨Hf1, ρ, rel.ext x1, PostG.mono (PostG.bind p1) fun l Hf2 H2 e2 x2 z2 => by
    have z2 := z2.2.2
    refine ⟨Hf2, ρ, (rel.ext x1).ext x2, PostG.mono (PostG.bind z2) fun h Hf3 H3 e3 x3 z3 => ?_⟩
    obtain ⟨d3, e4, p3⟩ := of_some z3.2.2
    have x23 := x2.trans x3
    exact hg Hf3 H3 v d d3 l h Q x3.inn (RK.base' (by decide) (RK.ext x23 rk)) e4 fun v3 Hf4 H4 x4 rk4 => p3 Hf4 H4 x4 v3 (RK.base x23.kp rk4)⟩⟩
theorem RepL.cut {K : PySem.W.Frag} {mg : Str → Option Value} {H : Hp} {ds : List D} {vs : List V} (h : RepL K mg H ds vs) (lo hi : Option Int) : RepL K mg H (cutL ds lo hi) (cutV vs lo hi) := by
  unfold cutL cutV
  rw [h.length]
  exact RepL.take _ (RepL.drop _ h)
theorem cutL_whole {α : Type} {xs : List α} {lo hi : Option Int} (h : HT.sIx xs.length 0 lo = 0 ∧ HT.sIx xs.length xs.length hi = xs.length) : cutL xs lo hi = xs := by
  unfold cutL
  rw [h.1, h.2]
  simp
theorem strOk_cut {x : Str} (h : PyData.strOk x = true) (lo hi : Option Int) : PyData.strOk (cutS x lo hi) = true := by
  unfold PyData.strOk at h ⊢
  rw [Array.all_eq_true_iff_forall_mem] at h ⊢
  intro c hc
  unfold cutS at hc
  have : c ∈ x.cps.toList := by
    have h1 : c ∈ ((x.cps.toList.drop (HT.sIx x.length 0 lo)).take (HT.sIx x.length x.length hi - HT.sIx x.length 0 lo)) := by simpa using hc
    exact List.mem_of_mem_drop (List.mem_of_mem_take h1)
  exact h c (by simpa using this)
theorem cutS_len {x : Str} (lo hi : Option Int) : (cutS x lo hi).length ≤ x.length := by
  show (List.toArray _).size ≤ x.cps.size
  rw [List.size_toArray, List.length_take, List.length_drop, Array.length_toList]
  omega
abbrev rSlU (K : PySem.W.Frag) : V → Option Int → Option Int → Hp → VK → Prop := fun x lo hi H Q => rSlS x lo hi H Q ∨ rSlA K x lo hi H Q
theorem sl_U : SlR X (rSlU X.K) := sl_str.or sl_tupA
theorem sd_U : SlD X T sliD .v (rSlU X.K) := fun Hf H x a d lo hi Q s r e q => by
  unfold sliD at e
  split at e
  · cases e
    obtain ⟨rfl, o1, l1⟩ := RK.str r
    exact .inl ⟨_, rfl, l1, q _ Hf H (ExtF.refl s) ⟨rfl, strOk_cut o1 lo hi, Nat.le_trans (cutS_len lo hi) l1⟩⟩
  · cases e
    rename_i ds
    have r' : Rep X.K X.mg Hf (.tup ds) x := by
      rcases r with r | ⟨_, _, _, _, z⟩
      · exact r
      · exact z.elim
    obtain ⟨p, ws, rfl, h1, h2, h3⟩ := RK.tup s r
    refine .inr ⟨p, ws, rfl, h1, fun hw => ?_, fun _ l hl => ?_⟩
    · rw [h3.length] at hw
      rw [cutL_whole hw] at q
      exact q _ Hf H (ExtF.refl s) r'
    · have x2 : ExtF T Hf H (upd Hf l (.tup (cutV ws lo hi))) (upd H l (.tup (cutV ws lo hi))) := ExtF.newF s hl (fun ps z => nomatch z)
      exact q _ _ _ x2 ⟨l, _, rfl, SqT.of upd_same, Nat.le_trans (cutL_len ds lo hi) h2, RepL.sub x2.sub (h3.cut lo hi)⟩
  · cases e
theorem sd_L : SlD X T sliL .o (rSlL X.K) := fun Hf H x a d lo hi Q s r e q => by
  unfold sliL at e
  split at e
  · cases e
    rename_i ds
    obtain ⟨p, ws, rfl, h1, h2, h3⟩ := RK.lst s r
    exact ⟨p, ws, rfl, SqL.of h1, fun l hl => q _ Hf _ (ExtF.new s hl) ⟨l, _, rfl, s.none hl, Old.not hl, upd_same, _, rfl, Nat.le_trans (cutL_len ds lo hi) h2, h3.cut lo hi⟩⟩
  · cases e
end
end BV
namespace BV
open PySem PySem.Spec PyProof.Rows L2
section
variable {X : Cx} {T : List (Addr × Str)} {Γ : List Bool} {W : WX} {k : Kd} {e a b : Expr} {f fa fb : Rho → R D} {pos : Pos}
/-! ### constants of the module -/
theorem pd_gint {x : Str} {i : Int} (hg : Gl X x) (hm : ∃ t, X.mg x = some (.int i t)) (hd : (x == ("__debug__" : Str)) = false := by decide) : PD X T Γ W .v (.Name x pos) (conE (.int i)) := by
  obtain ⟨t, hm⟩ := hm
  exact pd_con (v := .int i) (pe_glob hg hm ⟨t, rfl⟩ hd) fun _ => rfl
theorem pd_gstr {x z : Str} (hg : Gl X x) (hm : ∃ t, X.mg x = some (.str z t)) (h : (PyData.strOk z && decide (z.length ≤ 1000)) = true) (hd : (x == ("__debug__" : Str)) = false := by decide) : PD X T Γ W .v (.Name x pos) (conE (.str z)) := by
  obtain ⟨t, hm⟩ := hm
  refine pd_con (v := .str z) (pe_glob hg hm ⟨t, rfl⟩ hd) fun _ => ?_
  rw [Bool.and_eq_true] at h
  exact ⟨rfl, h.1, Nat.le_of_lt (small1000 (of_decide_eq_true h.2))⟩
/-! ### -x, sep.join(xs) -/
def negD : D → Option D
  | .int i => some (.int (-i))
  | _ => none
theorem pd_neg (h : PD X T Γ W .b a fa) : PD X T Γ W .v (.UnaryOp .USub a pos) (unE negD fa) :=
  pd_un (r := rU fun i => .int (-i)) (pe_un un_neg h) (fun _ _ _ q => q) fun Hf H x a d Q s r e q => by
    unfold negD at e
    split at e
    · cases e
      exact ⟨_, RK.int r, q _ Hf H (ExtF.refl s) rfl⟩
    · cases e
@[simp] def D.asS : D → R Str
  | .str x => .ok x
  | _ => .stuck
def joinD (x : Str) : D → Option D
  | .lst ds => (strsOf ds).bind fun ys => if (ys.map (·.length)).sum + ys.length * x.length ≤ 1000000 then some (.str (Str.join x ys)) else none
  | _ => none
def joinE (fa fb : Rho → R D) : Rho → R D := fun ρ => (fa ρ).bind fun a => a.asS.bind fun x => (fb ρ).bind fun b => R.of (joinD x b)
theorem join_ok {x : Str} (hx : PyData.strOk x = true) : ∀ (ys : List Str), (∀ y ∈ ys, PyData.strOk y = true) → PyData.strOk (Str.join x ys) = true
  | [], _ => (by kernel_rfl)
  | [y], h => h y (by simp)
  | y :: z :: r, h => by
    show PyData.strOk (y ++ x ++ Str.join x (z :: r)) = true
    exact strOk_app (strOk_app (h y (by simp)) hx) (join_ok hx (z :: r) fun w hw => h w (List.mem_cons_of_mem _ hw))
theorem asS_bind {K : PySem.W.Frag} {mg : Str → Option Value} {Hf H : Hp} {σ : St} {α : Type} {good : α → Hp → Hp → Prop} {d : D} {g : Str → R α} (p : PostG K mg T Hf H W σ good (d.asS.bind g)) : ∃ c, d = .str c ∧ PostG K mg T Hf H W σ good (g c) := by
  cases d with
  | str c => exact ⟨c, rfl, p⟩
  | _ => exact p.elim
theorem pd_join (h : PE X e (tM1 (fun x xs H Q => ∃ a p, ∃ ys : List Str, x = .str a ∧ xs = [.ref p] ∧ (SqL X.K H p (ys.map V.str) ∨ SqT X.K H p (ys.map V.str)) ∧ (ys.map (·.length)).sum + ys.length * a.length ≤ 16777216 ∧ Q (.str (Txt.join a ys)) H) (tD X.K X.mg T Γ W .b fa) (tD X.K X.mg T Γ W .b fb))) :
    PD X T Γ W .v e (joinE fa fb) :=
  PE.imp h fun σ H Q ⟨Hf, ρ, rel, p⟩ => ⟨Hf, ρ, rel, PostE.bind p fun d v Hf1 H1 e1 x1 rk p1 => by
    obtain ⟨z, rfl, p1⟩ := asS_bind p1
    obtain ⟨rfl, o1, l1⟩ := RK.str rk
    refine ⟨⟨z, rfl⟩, Hf1, ρ, rel.ext x1, PostE.bind p1 fun d2 v2 Hf2 H2 e2 x2 rk2 p2 => ?_⟩
    obtain ⟨d3, e3, p3⟩ := of_some p2
    cases d2 with
    | lst ds =>
      simp only [joinD] at e3
      cases q : strsOf ds with
      | none => rw [q] at e3; cases e3
      | some ys =>
        rw [q] at e3
        have e3 : (if (ys.map (·.length)).sum + ys.length * z.length ≤ 1000000 then some (D.str (Str.join z ys)) else none) = some d3 := e3
        split at e3
        · rename_i hl
          cases e3
          obtain ⟨p, ws, rfl, h1, h2, h3⟩ := RK.lst x2.inn rk2
          obtain ⟨rfl, ho⟩ := strsOf_ok q h3
          have ej : Txt.join z ys = Str.join z ys := StrLaws.glued_eq_join z ys
          have jl := StrLaws.join_length_le z ys
          refine ⟨z, p, ys, rfl, rfl, .inl (SqL.of h1), by omega, p3 Hf2 H2 (ExtF.refl x2.inn) _ (by rw [ej]; exact ⟨rfl, join_ok o1 ys ho, by rw [sizeLine_eq]; omega⟩)⟩
        · cases e3
    | _ => cases e3⟩
/-! ### x in xs -/
def inD (neg : Bool) : D → D → Option D
  | a, .lst ds => if okD a && okD (.lst ds) then some (.bl (xor neg (ds.any fun z => eqv z a))) else none
  | a, .tup ds => if okD a && okD (.tup ds) then some (.bl (xor neg (ds.any fun z => eqv z a))) else none
  | .str x, .str z => if x.length = 1 then some (.bl (xor neg (decide (x.cps.toList.headD 0 ∈ z.cps.toList)))) else none
  | _, _ => none
def rInT (K : PySem.W.Frag) (neg : Bool) : R2 := fun x y H Q => ∃ d ds, Dp K H x d ∧ Dp K H y (.tuple ds) ∧ SeqAt.shaped d = true ∧ SeqAt.shaped (.tuple ds) = true ∧ Q (.bl (xor neg (ds.any fun z => PyData.eqv z d))) H
theorem op_inT (hu : X.A.units + 65 < cLine) : OpR X (compareOp .In) (rInT X.K false) := by
  intro pins s σ H x y v u Q I rx ry h
  obtain ⟨d, ds, hd, he, sd, se, q⟩ := h
  obtain ⟨as, r1⟩ := Dp.reads I d x v hd rx
  obtain ⟨bs, r2⟩ := Dp.reads I (.tuple ds) y u he ry
  rw [Bool.false_xor] at q
  exact SeqAt.in_tuple_reads r2 r1 (SeqAt.canLay_of_shaped se) (SeqAt.canLay_of_shaped sd) (room_in_shaped sd hu) ⟨.bl _, H, I, rfl, q⟩
theorem op_notInT (hu : X.A.units + 65 < cLine) : OpR X (compareOp .NotIn) (rInT X.K true) := by
  intro pins s σ H x y v u Q I rx ry h
  obtain ⟨d, ds, hd, he, sd, se, q⟩ := h
  obtain ⟨as, r1⟩ := Dp.reads I d x v hd rx
  obtain ⟨bs, r2⟩ := Dp.reads I (.tuple ds) y u he ry
  rw [Bool.true_xor] at q
  exact SeqAt.notIn_tuple_reads r2 r1 (SeqAt.canLay_of_shaped se) (SeqAt.canLay_of_shaped sd) (room_in_shaped sd hu) ⟨.bl _, H, I, rfl, q⟩
abbrev rInU (K : PySem.W.Frag) : R2 := fun x y H Q => rInD K x y H Q ∨ (rInT K false x y H Q ∨ ∃ (c : Nat) (z : Str), x = .str ⟨#[c]⟩ ∧ y = .str z ∧ Q (.bl (decide (c ∈ z.cps.toList))) H)
abbrev rNotInU (K : PySem.W.Frag) : R2 := fun x y H Q => rNotInD K x y H Q ∨ (rInT K true x y H Q ∨ ∃ (c : Nat) (z : Str), x = .str ⟨#[c]⟩ ∧ y = .str z ∧ Q (.bl (!decide (c ∈ z.cps.toList))) H)
theorem op_inU (hu : X.A.units + 65 < cLine) : OpR X (compareOp .In) (rInU X.K) := (op_inD hu).or ((op_inT hu).or op_in_sign)
theorem op_notInU (hu : X.A.units + 65 < cLine) : OpR X (compareOp .NotIn) (rNotInU X.K) := (op_notInD hu).or ((op_notInT hu).or op_notIn_sign)
theorem toPyL_map : ∀ ds : List D, toPyL ds = ds.map toPy
  | [] => rfl
  | d :: ds => by simp [toPyL, toPyL_map ds]
theorem any_py (ds : List D) (a : D) : ((toPyL ds).any fun z => PyData.eqv z (toPy a)) = ds.any fun z => eqv z a := by
  rw [toPyL_map, List.any_map]
  rfl
theorem one_sign {x : Str} (h : x.length = 1) : x = ⟨#[x.cps.toList.headD 0]⟩ := by
  obtain ⟨⟨l⟩⟩ := x
  match l, h with
  | [c], _ => rfl
theorem od_in : OpD X T (inD false) .v (rInU X.K) := fun Hf H x y a b d Q s r1 r2 e q => by
  unfold inD at e
  split at e
  · split at e
    · cases e
      rename_i ds h
      rw [Bool.and_eq_true] at h
      obtain ⟨h1, h2⟩ := dat s r1 h.1
      obtain ⟨h3, h4⟩ := dat s r2 h.2
      refine .inl ⟨_, toPyL ds, h1, h3, h2, h4, ?_⟩
      rw [any_py]
      have := q (.bl (xor false (ds.any fun z => eqv z a))) Hf H (ExtF.refl s) rfl
      rw [Bool.false_xor] at this
      exact this
    · cases e
  · split at e
    · cases e
      rename_i ds h
      rw [Bool.and_eq_true] at h
      obtain ⟨h1, h2⟩ := dat s r1 h.1
      obtain ⟨h3, h4⟩ := dat s r2 h.2
      refine .inr (.inl ⟨_, toPyL ds, h1, h3, h2, h4, ?_⟩)
      rw [any_py]
      exact q _ Hf H (ExtF.refl s) rfl
    · cases e
  · split at e
    · cases e
      rename_i h
      refine .inr (.inr ⟨_, _, (RK.str r1).1.trans (congrArg V.str (one_sign h)), (RK.str r2).1, ?_⟩)
      have := q (.bl (xor false _)) Hf H (ExtF.refl s) rfl
      rw [Bool.false_xor] at this
      exact this
    · cases e
  · cases e
theorem od_notIn : OpD X T (inD true) .v (rNotInU X.K) := fun Hf H x y a b d Q s r1 r2 e q => by
  unfold inD at e
  split at e
  · split at e
    · cases e
      rename_i ds h
      rw [Bool.and_eq_true] at h
      obtain ⟨h1, h2⟩ := dat s r1 h.1
      obtain ⟨h3, h4⟩ := dat s r2 h.2
      refine .inl ⟨_, toPyL ds, h1, h3, h2, h4, ?_⟩
      rw [any_py]
      have := q (.bl (xor true (ds.any fun z => eqv z a))) Hf H (ExtF.refl s) rfl
      rw [Bool.true_xor] at this
      exact this
    · cases e
  · split at e
    · cases e
      rename_i ds h
      rw [Bool.and_eq_true] at h
      obtain ⟨h1, h2⟩ := dat s r1 h.1
      obtain ⟨h3, h4⟩ := dat s r2 h.2
      refine .inr (.inl ⟨_, toPyL ds, h1, h3, h2, h4, ?_⟩)
      rw [any_py]
      exact q _ Hf H (ExtF.refl s) rfl
    · cases e
  · split at e
    · cases e
      rename_i h
      refine .inr (.inr ⟨_, _, (RK.str r1).1.trans (congrArg V.str (one_sign h)), (RK.str r2).1, ?_⟩)
      have := q (.bl (xor true _)) Hf H (ExtF.refl s) rfl
      rw [Bool.true_xor] at this
      exact this
    · cases e
  · cases e
/-! ### raise X('..') -/
theorem pds_raise {B : Fx} {Γ Γ' Γl : List Bool} {st : Stmt} {C : Addr} {name : Str} (h : PS X st (fun _ σ H => B.W (.ref C) none σ H)) (hm : X.mg name = some (.ref C)) : PDS X B Γ Γ' Γl st (fun _ => .exc ⟨name, [], []⟩) := fun Hf0 H0 =>
  PS.imp h fun De σ H ⟨Hf, ρ, r, p⟩ => p _ none σ Hf H r.x ⟨C, hm, rfl, .inl ⟨rfl, rfl, rfl⟩⟩
end
end BV
namespace BV
open PySem PySem.Spec PyProof.Rows L2
section
variable {X : Cx} {B : Fx} {T : List (Addr × Str)} {Γ Γ' Γl : List Bool} {W : WX} {k : Kd} {e a b : Expr} {f fa fb : Rho → R D} {F G : Rho → RS} {pos : Pos} {st : Stmt}
theorem OpD.vb {g : D → D → Option D} {r : R2} (h : OpD X T g .v r) : OpD X T g .b r := fun Hf H x y a b d Q s r1 r2 e q => h Hf H x y a b d Q s r1 r2 e fun v Hf' H' x' rk => q v Hf' H' x' (.inl rk)
/-! ### is None as a test -/
theorem isN_post {K : PySem.W.Frag} {mg : Str → Option Value} {Hf H : Hp} {σ : St} {good : Bool → Hp → Hp → Prop} {fa : R D} {g : D → Option D} {h : D → Bool} (hg : ∀ d, g d = some (.bl (h d))) (p : PostG K mg T Hf H W σ good ((fa.bind fun a => R.of (g a)).bind D.asB)) :
    PostG K mg T Hf H W σ (fun d Hf' H' => good (h d) Hf' H') fa := by
  cases fa with
  | ok d =>
    intro Hf' H' x
    simp only [R.bind, hg] at p
    exact p Hf' H' x
  | exc e => exact p
  | stuck => exact p
theorem pdt_isN {j pos'} (ha : PD X T Γ W .b a fa) : PDT X T Γ W (.Compare a [.Is] [.Constant .none j pos'] pos) (tstE (unE isNonD fa)) :=
  PT.imp (pt_cmp (pc_isN ha) rfl) fun σ H Q ⟨Hf, ρ, rel, p⟩ => ⟨Hf, ρ, rel, PostG.mono (isN_post (h := D.isNon) (fun _ => rfl) p) fun d Hf1 H1 e1 x1 z v rk => ⟨d.isNon, by rw [non_iff rk], z⟩⟩
theorem pdt_isntN {j pos'} (ha : PD X T Γ W .b a fa) : PDT X T Γ W (.Compare a [.IsNot] [.Constant .none j pos'] pos) (tstE (unE isntNonD fa)) :=
  PT.imp (pt_cmp (pc_notN ha) rfl) fun σ H Q ⟨Hf, ρ, rel, p⟩ => ⟨Hf, ρ, rel, PostG.mono (isN_post (h := fun d => !d.isNon) (fun _ => rfl) p) fun d Hf1 H1 e1 x1 z v rk => ⟨!d.isNon, by rw [non_iff rk], z⟩⟩
/-! ### an own object returned -/
theorem pds_retO {x : Str} {p : Pos} (i : Nat) (hN : X.N[i]? = some x) (hv : Vis X.env.scope x) (g : Γ[i]? = some true) (hk : B.kr = .o) (hd : (x == ("__debug__" : Str)) = false := by decide) (hcd : (x == ("__classdict__" : Str)) = false := by decide) : PDS X B Γ Γ' Γl (.Return (some (.Name x p)) pos) (retS (varE i)) :=
  fun Hf0 H0 => PS.imp (ps_ret (pe_var hN hv hd hcd)) fun De σ H ⟨Hf, ρ, r, p⟩ => by
    have p : PostS X.K X.mg B Hf0 H0 Γ' Γl De (RS.bind (R.of (ρ[i]?.bind id)) .rt) := p
    cases q : ρ[i]? with
    | none => rw [q] at p; exact p.elim
    | some od =>
      cases od with
      | none => rw [q] at p; exact p.elim
      | some d =>
        rw [q] at p
        have p : PostS X.K X.mg B Hf0 H0 Γ' Γl De (.rt d) := p
        obtain ⟨ad, o, e1, e2, e3, e4⟩ := r.e.own i d q g
        have h0 := r.fr i ad g ⟨d, q⟩ e1
        exact ⟨_, e1, p (.ref ad) Hf H r.x (by rw [hk]; exact ⟨ad, o, rfl, e2, h0, e3, e4⟩)⟩
/-! ### an own object read for a while as a value -/
def thwR : R D → R D
  | .ok d => R.of d.sca
  | .exc e => if e.fs = [] then .exc e else .stuck
  | .stuck => .stuck
def thwE (f : Rho → R D) : Rho → R D := fun ρ => thwR (f ρ)
theorem pd_thaw (i : Nat) (h : PD X T (Γ.set i false) W .v e f) : PD X T Γ W .v e (thwE f) :=
  PE.imp h fun σ H Q ⟨Hf, ρ, rel, p⟩ => by
    have rs : RelS X.K X.mg T (fun _ => none) (fun _ => none) Γ ρ Hf σ H := ⟨rel, ⟨fun _ _ q => (nomatch q), rel.sub, fun _ _ q => (nomatch q), fun _ => rel.tab, fun _ q => absurd q (Old.not rfl), fun _ q => absurd q (Old.not rfl)⟩, fun _ _ _ _ _ => Old.not rfl⟩
    obtain ⟨Hf', r', s1⟩ := rs.frz i
    refine ⟨Hf', ρ, r'.e, ?_⟩
    have back : ∀ {Hf2 H2}, ExtF T Hf' H Hf2 H2 → ExtF T Hf H Hf H2 := fun {Hf2 H2} x => ⟨rel.sub.self, s1.trans (x.sub.trans x.inn), x.ext, x.tab, fun _ _ q => q, x.kp⟩
    have p : PostE X.K X.mg T Hf H .v W σ Q (thwR (f ρ)) := p
    cases q : f ρ with
    | ok d =>
      rw [q] at p
      intro Hf2 H2 x v rk
      have p : PostE X.K X.mg T Hf H .v W σ Q (R.of d.sca) := p
      cases d <;> first | exact p.elim | exact p Hf H2 (back x) v rk
    | exc ex =>
      rw [q] at p
      have p : PostE X.K X.mg T Hf H .v W σ Q (if ex.fs = [] then .exc ex else .stuck) := p
      split at p
      · rename_i hfs
        intro cls dd Hf2 H2 x ⟨C, h1, h2, h3⟩
        refine p cls dd Hf H2 (back x) ⟨C, h1, h2, ?_⟩
        rcases h3 with h3 | ⟨h4, _⟩
        · exact .inl h3
        · exact absurd hfs h4
      · exact p.elim
    | stuck => rw [q] at p; exact p.elim
/-! ### what is stuck -/
theorem pdss_stuck {body : List Stmt} : PDSs X B Γ Γ' Γl body (fun _ => .stuck) := fun Hf0 H0 => ⟨fun pins s σ H De I ⟨_, _, _, q⟩ => q.elim⟩
theorem runF_stuck (n : Nat) : runF n (fun _ => .stuck) = fun _ => .stuck := rfl
/-! ### a body that does not fall through -/
def NoNx (F : Rho → RS) : Prop := ∀ ρ ρ', F ρ ≠ .nx ρ'
theorem nn_ret : NoNx (retS f) := fun ρ ρ' h => by
  unfold retS at h
  cases q : f ρ <;> rw [q] at h <;> cases h
theorem nn_seq (h : NoNx G) : NoNx (seqS F G) := fun ρ ρ' e => by
  unfold seqS at e
  split at e
  · exact h _ _ e
  · rename_i hh
    exact hh _ e
theorem nn_if {c : Rho → R Bool} (h1 : NoNx F) (h2 : NoNx G) : NoNx (ifS c F G) := fun ρ ρ' e => by
  unfold ifS at e
  cases q : c ρ with
  | ok b =>
    rw [q] at e
    simp only [RS.bind] at e
    split at e
    · exact h1 _ _ e
    · exact h2 _ _ e
  | exc _ => rw [q] at e; cases e
  | stuck => rw [q] at e; cases e
theorem nn_stuck : NoNx (fun _ => .stuck) := fun _ _ h => nomatch h
theorem nn_exc {x : Exc} : NoNx (fun _ => .exc x) := fun _ _ h => nomatch h
/-! ### raise X('..'), X a class of the program -/
def ExcG (K : PySem.W.Frag) (mg : Str → Option Value) (x : Str) : Prop :=
  ∃ C, mg x = some (.ref C) ∧ PySem.W.excIn K C [.type "ValueError", .type "Exception", .type "BaseException", .type "object"] "ValueError.__new__" = true ∧ PySem.W.keepIn K (.ref C) = true ∧
    PySem.W.subIn K (.ref C) (.type "BaseException") = some true ∧ PySem.W.typeIn K (.ref C) = some (.type "type")
def excS (x : Str) : Rho → RS := fun _ => .exc ⟨x, [], []⟩
theorem nn_excS {x : Str} : NoNx (excS x) := fun _ _ h => nomatch h
theorem pds_excS {x m : Str} {j : Nat} {p p2 pos' : Pos} (hc : X.calm = true) (tk : L2N.Takes X B.W) (h : ExcG X.K X.mg x) (hg : Gl X x) (hdb : (x == ("__debug__" : Str)) = false := by decide) :
    PDS X B Γ Γ' Γl (.Raise (some (.Call (.Name x p) [.Constant (.str m) j p2] [] pos)) none pos') (excS x) := by
  obtain ⟨C, h1, h2, h3, h4, h5⟩ := h
  exact pds_raise (L2N.ps_raise hc tk (L2N.pmk_own PySem.F.excBase_ValueError h2 h1 h3 (raises_own h4 h5) hg hdb)) h1
end
end BV
namespace BV
open PySem PySem.Spec PyProof.Rows L2
def visB (sc : Scope) (x : Str) : Bool := match sc.names.lookup x with
  | some .local => true
  | some .cell => true
  | some .free => true
  | _ => false
theorem vis_of {sc : Scope} {x : Str} (h : visB sc x = true) : Vis sc x := by
  unfold visB at h
  unfold Vis
  split at h <;> simp_all
def locB (sc : Scope) (x : Str) : Bool := match sc.names.lookup x with
  | some .local => true
  | some .cell => true
  | _ => false
theorem loc_of {sc : Scope} {x : Str} (h : locB sc x = true) : Loc sc x := by
  unfold locB at h
  unfold L2.Loc
  split at h <;> simp_all
def glB (sc : Scope) (x : Str) : Bool := match sc.names.lookup x with
  | some .globalImplicit => true
  | _ => false
theorem gl_of {X : Cx} {x : Str} (h : glB X.env.scope x = true) : Gl X x := by
  unfold glB at h
  unfold Gl Env.kindOf
  split at h <;> simp_all
def fnB (X : Cx) (x : Str) : Bool := X.fn x || (match X.env.scope.names.lookup x with
  | some .local => true
  | _ => false)
theorem hf_of {X : Cx} {x : Str} (h : fnB X x = true) : X.fn x = true ∨ X.env.scope.names.lookup x = some .local := by
  unfold fnB at h
  rw [Bool.or_eq_true] at h
  rcases h with h | h
  · exact .inl h
  · refine .inr ?_
    split at h <;> simp_all
def scopeB (N P : List Str) (sc : Scope) : Bool :=
  decide (sc.kind = .function) && (!sc.isCoroutine && (!sc.isGenerator && (decide N.Nodup && (decide (N.take P.length = P) && (P.all (fun x => locB sc x) && sc.names.all fun y => decide (y.2 ≠ .free))))))
theorem scope_of {N P : List Str} {sc : Scope} (h : scopeB N P sc = true) : FnScope N P sc := by
  unfold scopeB at h
  simp only [Bool.and_eq_true, decide_eq_true_eq, Bool.not_eq_true', List.all_eq_true] at h
  obtain ⟨h1, h2, h3, h4, h5, h6, h7⟩ := h
  exact ⟨h1, h2, h3, h4, h5, fun x hx => loc_of (h6 x hx), h7⟩
theorem fnD_fun {P : Program} {w : World} {K : PySem.W.Frag} {mg : Str → Option Value} {base : Heap} {T : List (Addr × Str)} {lv : Nat} {x qual : Str} {params : Arguments} {body : List Stmt} {scope : Scope} {dvs : List V} {kws : List (Str × V)} {fa : Addr} {fd : FuncData} {N ps : List Str} {k : Kd} (F : Rho → RS) (n lw : Nat) (R : List D → R D)
    (hF : FunD K x qual params body scope dvs kws fa fd) (S : FnScope N ps scope) (hn : N.length = n) (hlw : lw = lv + 1) (hR : R = runF n F) (hk : k = .v ∨ NoNx F)
    (hbody : ∀ (cdv : Value) (A : Around) (outer : List Env) (s : Shared) (H : Hp) (E : XK), Room lv (A.deeper (envOfC qual scope s.heap.objs.size fa cdv)) →
      PDSs (cxOf (L2N.CX P w) P w K mg base N qual scope fa cdv A outer s H E) ⟨T, k, fun c d _ H' => E c d H'⟩ (noΓ n) (noΓ n) (noΓ n) body F) :
    FnD P w K mg base T lw fa fd ps k R := by
  subst hn hlw hR
  obtain ⟨oc, od, dV, kV, doc, pm, an, cdv, ct, osl, h1, h2, h3, _, _⟩ := hF.ex
  exact fnD_of (fun _ => True) ⟨oc, od, dV, kV, doc, pm, an, cdv, ct, osl, h1, h2, h3, trivial⟩ S hk fun cdv A outer s H E _ => hbody cdv A outer s H E
theorem fnD_none {P : Program} {w : World} {K : PySem.W.Frag} {mg : Str → Option Value} {base : Heap} {T : List (Addr × Str)} {lv : Nat} {x qual : Str} {params : Arguments} {body : List Stmt} {scope : Scope} {dvs : List V} {kws : List (Str × V)} {fa : Addr} {fd : FuncData} {N ps : List Str} {k : Kd}
    (hF : FunD K x qual params body scope dvs kws fa fd) (S : FnScope N ps scope) : FnD P w K mg base T (lv + 1) fa fd ps k (fun _ => .stuck) :=
  fnD_fun (fun _ => .stuck) N.length (lv + 1) _ hF S rfl rfl rfl (.inr nn_stuck) fun _ _ _ _ _ _ _ => pdss_stuck
theorem units1 {k : Nat} {A : Around} (r : Room k A) : A.units + 65 < cLine := by have := r.un; omega
end BV
namespace BV
open PySem PySem.Spec PyProof.Rows L2
theorem bt_len : bootBuiltins "len" = some (.builtin "len") := by decide +kernel
theorem bt_abs : bootBuiltins "abs" = some (.builtin "abs") := by decide +kernel
theorem bt_sum : bootBuiltins "sum" = some (.builtin "sum") := by decide +kernel
theorem bt_all : bootBuiltins "all" = some (.builtin "all") := by decide +kernel
theorem bt_any : bootBuiltins "any" = some (.builtin "any") := by decide +kernel
theorem bt_ord : bootBuiltins "ord" = some (.builtin "ord") := by decide +kernel
theorem bt_max : bootBuiltins "max" = some (.builtin "max") := by decide +kernel
theorem bt_min : bootBuiltins "min" = some (.builtin "min") := by decide +kernel
theorem bt_isinstance : bootBuiltins "isinstance" = some (.builtin "isinstance") := by decide +kernel
theorem bt_int : bootBuiltins "int" = some (.type "int") := by decide +kernel
theorem bt_str : bootBuiltins "str" = some (.type "str") := by decide +kernel
theorem bt_bool : bootBuiltins "bool" = some (.type "bool") := by decide +kernel
theorem bt_list : bootBuiltins "list" = some (.type "list") := by decide +kernel
theorem bt_tuple : bootBuiltins "tuple" = some (.type "tuple") := by decide +kernel
theorem bt_dict : bootBuiltins "dict" = some (.type "dict") := by decide +kernel
end BV
namespace BV
open PySem PySem.Spec PyProof.Rows L2
theorem takesN0 {X : Cx} : L2N.Takes X (fun _ _ _ _ => False) := fun _ _ x => by
  obtain ⟨_, _, _, _, _, _, _, _, _, _, _, _, _, _, _, _, z⟩ := x
  exact z.elim
end BV
namespace BV
open PySem PySem.Spec PyProof.Rows L2
theorem walk_ofEB {l : PySem.W.OpenLaw} {n k : Nat} {q : Program} {loose : List Str} {XP : (Str → Option Value) → Heap → Prop} {YP : World → Heap → Prop} {d : DefRec} {CX : World → CXT} {x : Str}
    (hn : l.most = some n) (hn2 : n ≤ sizeLine) (hdf : d.params.defaults = []) (hr : Room k callerA)
    (F : ∀ (w : World) (mg : Str → Option Value) (fa : Addr) (h : Heap), YP w h → h.Ns mainGlobals mg → mg d.name = some (.ref fa) →
      ∃ (K : PySem.W.Frag) (fd : FuncData) (sp : Sp), K.In h ∧ (∀ (s : Shared) (u : Value), BindsTo s fd ⟨[u], []⟩ [(x, u)]) ∧
        (∀ (H : Hp) (a : Addr) (ns : List Int), ns.length ≤ n → (∀ z ∈ ns, Builtin.Int.intBits z ≤ 1048576) → Only H → SqL K H a (ns.map V.int) → sp [.ref a] H (fun v _ => v = .bl true) fun _ _ _ => False) ∧
        ∀ base : Heap, K.In base → base.Ns mainGlobals mg → FnOk l.prog w K mg base (CX w) k fa fd [x] sp)
    (hCX : ∀ (w : World) (H : Hp) (s : Shared) (e : Value) (s' : Shared), CX w [] H s (fun _ _ _ => False) e s' → False) :
    PySem.W.WalkO q loose XP YP l.row.toRowW d [] (fun f vs => PySem.call f vs) := by
  refine Att.attach_callB hn hdf fun w s₀ s₁ mg mb fa o pm cd doc a vs ns G Y ho hd hcd hmg hobj hints hlen hbits hg => ?_
  obtain ⟨K, fd, sp, KX, hb, hsp, hF⟩ := F w mg fa _ Y G.T.g hmg
  exact law_call KX G.T.g G.T.b G.T.builtins G.T.nolimit hg hobj hints (Nat.le_trans hlen hn2) hr hF hb (fun H hO hS => hsp H a ns hlen hbits hO hS) fun H e s' => hCX w H s₁ e s'
theorem cx_none {P : Program} (w : World) (H : Hp) (s : Shared) (e : Value) (s' : Shared) (h : L2N.CX P w [] H s (fun _ _ _ => False) e s') : False := by
  obtain ⟨_, _, _, _, _, _, _, _, _, _, _, _, z⟩ := h
  exact z
theorem law_sp {K : PySem.W.Frag} {mg : Str → Option Value} {H : Hp} {a : Addr} {ns : List Int} {F : List D → R D} {E : XK} (hl : ns.length ≤ sizeLine) (ho : Only H) (hs : SqL K H a (ns.map V.int)) (hF : F [.scr ns] = .ok (.bl true)) :
    spD K mg [] 1 .v F [.ref a] H (fun v _ => v = .bl true) E := by
  refine ⟨rfl, H, [.scr ns], fun b o h => ⟨h, fun ps z => ?_⟩, fun p hp => (nomatch hp), ⟨.ref a, [], rfl, ⟨a, rfl, hs, hl⟩, rfl⟩, ?_⟩
  · rcases ho b with q | ⟨o', xs, q⟩
    · rw [q] at h
      cases h
    · rw [q] at h
      cases h
      cases z
  · rw [hF]
    exact fun Hf' H' _ v rk => rk
end BV
namespace BV
open PySem PySem.Spec PyProof.Rows L2 LamX
/-- a def that holds lambdas: its code object is the one that the head's table tells of -/
theorem fnD_lam {P : Program} {w : World} {K : PySem.W.Frag} {mg : Str → Option Value} {base : Heap} {T : List (Addr × Str)} {lv : Nat} {x qual : Str} {params : Arguments} {body : List Stmt} {scope : Scope} {dvs : List V} {kws : List (Str × V)} {p : He.Defn} {fd : FuncData} {N ps : List Str} {k : Kd} (F : Rho → RS) (n lw : Nat) (R : List D → R D)
    (hF : FunD K x qual params body scope dvs kws (He.fAd K p) fd) (S : FnScope N ps scope) (hn : N.length = n) (hlw : lw = lv + 1) (hR : R = runF n F) (hk : k = .v ∨ NoNx F)
    (hbody : ∀ (A : Around) (outer : List Env) (s : Shared) (H : Hp) (E : XK), Room lv (A.deeper (envOfC qual scope s.heap.objs.size (He.fAd K p) (.ref (He.codeOf K p)))) →
      PDSs (cxOf (L2N.CX P w) P w K mg base N qual scope (He.fAd K p) (.ref (He.codeOf K p)) A outer s H E) ⟨T, k, fun c d _ H' => E c d H'⟩ (noΓ n) (noΓ n) (noΓ n) body F) :
    FnD P w K mg base T lw (He.fAd K p) fd ps k R := by
  subst hn hlw hR
  obtain ⟨oc, od, dV, kV, doc, pm, an, cdv, ct, osl, h1, h2, h3, _, _⟩ := hF.ex
  obtain ⟨c, hc⟩ := He.codeIn_ref h3
  have e : He.codeOf K p = c := He.codeOf_eq h2 (by rw [h1]; exact hc)
  refine fnD_of (fun v => v = .ref (He.codeOf K p)) ⟨oc, od, dV, kV, doc, pm, an, cdv, ct, osl, h1, h2, h3, by rw [hc, e]⟩ S hk fun cdv A outer s H E hv hr => ?_
  subst hv
  exact hbody A outer s H E hr
/-- the law's promise where defs hold lambdas: its tables, empty at the entry -/
theorem law_spT {K : PySem.W.Frag} {mg : Str → Option Value} {T : List (Addr × Str)} {H : Hp} {a : Addr} {ns : List Int} {F : List D → R D} {E : XK} (hl : ns.length ≤ sizeLine) (hT : ∀ p ∈ T, H p.1 = some (.tbl #[])) (hs : SqL K H a (ns.map V.int)) (hF : F [.scr ns] = .ok (.bl true)) :
    spD K mg T 1 .v F [.ref a] H (fun v _ => v = .bl true) E := by
  let Hf : Hp := fun b => match H b with
    | some (.tbl _) => none
    | o => o
  have hHf : ∀ b o, (∀ ps, o ≠ .tbl ps) → H b = some o → Hf b = some o := fun b o n e => by
    show (match H b with | some (.tbl _) => none | o => o) = some o
    rw [e]
    cases o <;> first | rfl | exact absurd rfl (n _)
  have sub : Sub Hf H := fun b o h => by
    have h : (match H b with | some (.tbl _) => none | o => o) = some o := h
    cases q : H b with
    | none => rw [q] at h; cases h
    | some u =>
      rw [q] at h
      cases u <;> first | (cases h; done) | (cases h; exact ⟨rfl, fun ps z => nomatch z⟩)
  refine ⟨rfl, Hf, [.scr ns], sub, fun p hp => TabS.nil (hT p hp), ⟨.ref a, [], rfl, ⟨a, rfl, ?_, hl⟩, rfl⟩, ?_⟩
  · rcases hs with (h | ⟨o, h⟩) | h
    · exact .inl (.inl (hHf a _ (fun ps z => nomatch z) h))
    · exact .inl (.inr ⟨o, hHf a _ (fun ps z => nomatch z) h⟩)
    · exact .inr h
  · rw [hF]
    exact fun Hf' H' _ v rk => rk
end BV
namespace BV
open PySem PySem.Spec PyProof.Rows L2
section
variable {X : Cx} {T : List (Addr × Str)} {Γ : List Bool} {W : WX} {k : Kd} {e a b : Expr} {f fa fb : Rho → R D} {pos : Pos} {B : Fx} {Γl : List Bool}
/-! ### {} -/
theorem pd_dic0 : PD X T Γ W .o (.Dict [] [] pos) (conE (.dic [] [])) :=
  PE.imp pe_dnewK fun σ H Q ⟨Hf, ρ, rel, p⟩ l hl => p Hf _ (ExtF.new rel.sub hl) _ ⟨l, .dK [], rfl, rel.sub.none hl, Old.not hl, upd_same, [], rfl, rfl, rfl⟩
/-! ### a tuple repeated -/
def repD : D → D → Option D
  | .tup ds, .int k => if ds ≠ [] ∧ 2 ≤ k ∧ k ≤ 1000 ∧ ds.length ≤ 1000 then some (.tup (List.replicate k.toNat ds).flatten) else none
  | _, _ => none
theorem RepL.rep {K : PySem.W.Frag} {mg : Str → Option Value} {H : Hp} {ds : List D} {vs : List V} (h : RepL K mg H ds vs) : ∀ n, RepL K mg H (List.replicate n ds).flatten (List.replicate n vs).flatten
  | 0 => rfl
  | n + 1 => by
    rw [List.replicate_succ, List.replicate_succ, List.flatten_cons, List.flatten_cons]
    exact RepL.append h (RepL.rep h n)
theorem od_rep : OpD X T repD .v (rRepT X.K) := fun Hf H x y a b d Q s r1 r2 e q => by
  unfold repD at e
  split at e
  · split at e
    · cases e
      rename_i ds k hh
      obtain ⟨h1, h2, h3, h4⟩ := hh
      obtain ⟨p, vs, rfl, hs, hl, hr⟩ := RK.tup s r1
      have hlen := hr.length
      refine ⟨p, k, vs, rfl, RK.int r2, hs, fun z => h1 (List.length_eq_zero_iff.mp (by rw [← hlen, z]; rfl)), h2, h3, by rw [hlen]; exact h4, fun l hl2 => ?_⟩
      have x2 : ExtF T Hf H (upd Hf l (.tup (List.replicate k.toNat vs).flatten)) (upd H l (.tup (List.replicate k.toNat vs).flatten)) := ExtF.newF s hl2 (fun ps z => nomatch z)
      refine q _ _ _ x2 ⟨l, _, rfl, SqT.of upd_same, ?_, RepL.sub x2.sub (RepL.rep hr _)⟩
      have hfl : ∀ n : Nat, (List.replicate n ds).flatten.length = n * ds.length := fun n => by
        induction n with
        | zero => simp
        | succ n ih => rw [List.replicate_succ, List.flatten_cons, List.length_append, ih, Nat.succ_mul, Nat.add_comm]
      rw [hfl, sizeLine_eq]
      have h5 : k.toNat ≤ 1000 := by omega
      calc k.toNat * ds.length ≤ 1000 * 1000 := Nat.mul_le_mul h5 h4
        _ ≤ 16777216 := by decide
    · cases e
  · cases e
end
end BV
namespace BV
open PySem PySem.Spec PyProof.Rows L2
section
variable {X : Cx} {T : List (Addr × Str)}
def repStr (z : Str) (k : Nat) : Str := ⟨(List.replicate k z.cps).foldl (· ++ ·) #[]⟩
theorem foldl_app (xs : List (Array Nat)) : ∀ acc : Array Nat, (xs.foldl (· ++ ·) acc).toList = acc.toList ++ (xs.map (·.toList)).flatten := by
  induction xs with
  | nil => intro acc; simp
  | cons x xs ih => intro acc; simp [ih]
theorem repStr_list (z : Str) (k : Nat) : (repStr z k).cps.toList = (List.replicate k z.cps.toList).flatten := by
  unfold repStr
  rw [foldl_app]
  simp
/-- a text repeated: some times, not a thousand -/
theorem op_repS : OpR X (binaryOp .Mult) (fun x y H Q => ∃ z k, x = .str z ∧ y = .int k ∧ 0 ≤ k ∧ k ≤ 1000 ∧ z.length ≤ 1000 ∧ Q (.str (repStr z k.toNat)) H) := by
  rintro pins s σ H x y v u Q I rx ry ⟨z, k, rfl, rfl, h0, h1, h2, q⟩
  obtain ⟨t, rfl⟩ := rx
  obtain ⟨t2, rfl⟩ := ry
  refine PySem.P.mul_str (by rw [decide_eq_false (by omega), decide_eq_false (by omega)]; rfl) (fun hk _ => ?_) (fun _ _ => ?_) ?_
  · have h3 : (1000 : Int) ≤ (2 ^ 63 - 1) / k := by
      rw [Int.le_ediv_iff_mul_le (by omega)]
      omega
    omega
  · unfold Builtin.Str.tooLong
    rw [decide_eq_false]
    have : z.length * k.toNat ≤ 1000 * 1000 := Nat.mul_le_mul h2 (by omega)
    rw [sizeLine_eq]
    omega
  · by_cases hk : k < 1
    · have : k = 0 := by omega
      subst this
      rw [if_pos (by decide)]
      exact ⟨by decide, ⟨.str (repStr z 0), H, I.tok _, ⟨_, rfl⟩, q⟩⟩
    · rw [if_neg hk]
      by_cases h3 : (k == 1 || z.length == 0) = true
      · rw [if_pos h3]
        have e : repStr z k.toNat = z := by
          rw [Bool.or_eq_true] at h3
          have key : (repStr z k.toNat).cps.toList = z.cps.toList := by
            rw [repStr_list]
            rcases h3 with h3 | h3
            · rw [beq_iff_eq.mp h3]
              simp
            · have : z.cps.toList = [] := List.length_eq_zero_iff.mp (by
                have := beq_iff_eq.mp h3
                simpa [PySem.Str.length] using this)
              rw [this]
              simp
          obtain ⟨za⟩ := z
          have : (repStr ⟨za⟩ k.toNat).cps = za := by
            apply Array.ext'
            exact key
          show (⟨(repStr ⟨za⟩ k.toNat).cps⟩ : Str) = ⟨za⟩
          rw [this]
        rw [e] at q
        exact ⟨.str z, H, I, ⟨_, rfl⟩, q⟩
      · rw [if_neg h3]
        refine ⟨?_, ⟨.str (repStr z k.toNat), H, I.tok _, ⟨_, rfl⟩, q⟩⟩
        show (repStr z k.toNat).cps.size ≤ sizeLine
        rw [← Array.length_toList, repStr_list]
        have hfl : ∀ n : Nat, (List.replicate n z.cps.toList).flatten.length = n * z.cps.toList.length := fun n => by
          induction n with
          | zero => simp
          | succ n ih => rw [List.replicate_succ, List.flatten_cons, List.length_append, ih, Nat.succ_mul, Nat.add_comm]
        have h2 : z.cps.toList.length ≤ 1000 := h2
        have h4 : k.toNat ≤ 1000 := by omega
        rw [hfl, sizeLine_eq]
        exact Nat.le_trans (Nat.mul_le_mul h4 h2) (by decide)
def repSD : D → D → Option D
  | .str z, .int k => if 0 ≤ k ∧ k ≤ 1000 ∧ z.length ≤ 1000 then some (.str (repStr z k.toNat)) else none
  | _, _ => none
theorem repStr_ok {z : Str} (h : PyData.strOk z = true) : ∀ k, PyData.strOk (repStr z k) = true := fun k => by
  have hz : ∀ c ∈ z.cps.toList, _ := Array.all_eq_true'.mp (by unfold PyData.strOk at h; exact h) |> fun h c hc => h c (Array.mem_toList_iff.mp hc)
  unfold PyData.strOk
  rw [Array.all_eq_true']
  intro c hc
  have hc : c ∈ (repStr z k).cps.toList := Array.mem_toList_iff.mpr hc
  rw [repStr_list, List.mem_flatten] at hc
  obtain ⟨l, hl, hc⟩ := hc
  rw [(List.mem_replicate.mp hl).2] at hc
  exact hz c hc
theorem repStr_len (z : Str) (k : Nat) : (repStr z k).length = k * z.length := by
  have hfl : ∀ n : Nat, (List.replicate n z.cps.toList).flatten.length = n * z.cps.toList.length := fun n => by
    induction n with
    | zero => simp
    | succ n ih => rw [List.replicate_succ, List.flatten_cons, List.length_append, ih, Nat.succ_mul, Nat.add_comm]
  show (repStr z k).cps.size = _
  rw [← Array.length_toList, repStr_list, hfl]
  rfl
theorem od_repS : OpD X T repSD .v (fun x y H Q => ∃ z k, x = .str z ∧ y = .int k ∧ 0 ≤ k ∧ k ≤ 1000 ∧ z.length ≤ 1000 ∧ Q (.str (repStr z k.toNat)) H) := fun Hf H x y a b d Q s r1 r2 e q => by
  unfold repSD at e
  split at e
  · split at e
    · cases e
      rename_i z k hh
      obtain ⟨h1, h2, h3⟩ := hh
      obtain ⟨rfl, o1, l1⟩ := RK.str r1
      refine ⟨z, k, rfl, RK.int r2, h1, h2, h3, q _ Hf H (ExtF.refl s) ⟨rfl, repStr_ok o1 _, ?_⟩⟩
      rw [repStr_len, sizeLine_eq]
      have h4 : k.toNat ≤ 1000 := by omega
      exact Nat.le_trans (Nat.mul_le_mul h4 h3) (by decide)
    · cases e
  · cases e
end
end BV
namespace BV
open PySem PySem.Spec PyProof.Rows L2
/-! ### constants of the module: tuples of texts, dicts from texts to ints -/
def TupG (K : PySem.W.Frag) (mg : Str → Option Value) (x : Str) (ks : List Str) : Prop := ∃ a, mg x = some (.ref a) ∧ ∀ H : Hp, SqT K H a (ks.map V.str)
def strsB (ks : List Str) : Bool := (ks.all fun z => PyData.strOk z && decide (z.length ≤ 1000)) && decide (ks.length ≤ 1000)
theorem strsB_rep {K : PySem.W.Frag} {mg : Str → Option Value} {H : Hp} : ∀ {ks : List Str}, (∀ z ∈ ks, (PyData.strOk z && decide (z.length ≤ 1000)) = true) → RepL K mg H (ks.map D.str) (ks.map V.str)
  | [], _ => rfl
  | z :: ks, h => by
    have h1 := h z List.mem_cons_self
    rw [Bool.and_eq_true] at h1
    exact ⟨_, _, rfl, ⟨rfl, h1.1, Nat.le_of_lt (small1000 (of_decide_eq_true h1.2))⟩, strsB_rep fun y hy => h y (List.mem_cons_of_mem _ hy)⟩
section
variable {X : Cx} {T : List (Addr × Str)} {Γ : List Bool} {W : WX} {k : Kd} {e a b : Expr} {f fa fb : Rho → R D} {pos p : Pos}
theorem pd_gtup {x : Str} {ks : List Str} (hg : Gl X x) (h : TupG X.K X.mg x ks) (hk : strsB ks = true) (hd : (x == ("__debug__" : Str)) = false := by decide) : PD X T Γ W .v (.Name x pos) (conE (.tup (ks.map .str))) := by
  obtain ⟨a, hm, hs⟩ := h
  unfold strsB at hk
  rw [Bool.and_eq_true] at hk
  refine pd_con (pe_glob (v := .ref a) hg hm rfl hd) fun Hf => ⟨a, _, rfl, hs Hf, ?_, strsB_rep (List.all_eq_true.mp hk.1)⟩
  rw [List.length_map]
  exact Nat.le_of_lt (small1000 (of_decide_eq_true hk.2))
/-- the module's dict x -/
structure DicG (w : World) (K : PySem.W.Frag) (mg : Str → Option Value) (x : Str) (kvs : List (Str × Int)) : Prop where
  at_ : ∃ a es n, mg x = some (.ref a) ∧ KDict K w a es n ∧ ∀ z : Str, (kvs.lookup z = none ∧ PySem.W.nsIn K a z = some none) ∨ ∃ i t, kvs.lookup z = some i ∧ PySem.W.nsIn K a z = some (some (.int i t))
def inK (neg : Bool) (kvs : List (Str × Int)) : D → Option D
  | .str z => some (.bl (xor neg (kvs.lookup z).isSome))
  | _ => none
def ixK (kvs : List (Str × Int)) : D → Option D
  | .str z => (kvs.lookup z).map .int
  | _ => none
theorem pd_inK {x : Str} {kvs : List (Str × Int)} (hg : Gl X x) (h : DicG X.w X.K X.mg x kvs) (ha : PD X T Γ W .b a fa) (hd : (x == ("__debug__" : Str)) = false := by decide) (hm : behindInMarks .In (.Name x p) = false := by rfl) : PD X T Γ W .v (.Compare a [.In] [.Name x p] pos) (unE (inK false kvs) fa) := by
  obtain ⟨d, es, n, hmg, hk, hv⟩ := h.at_
  refine pd_un (r := fun y H Q => ∃ (z : Str) (r : Option Value), y = .str z ∧ V.ref d = .ref d ∧ PySem.W.nsIn X.K d z = some r ∧ Q (.bl r.isSome) H) (pe_cmpR (op_in_kd hk) ha (pe_glob (v := .ref d) hg hmg rfl hd) hm) (fun σ H Q q => q) fun Hf H v a d' Q s r e q => ?_
  cases a <;> simp only [inK, reduceCtorEq] at e
  rename_i z
  cases e
  rcases hv z with ⟨h1, h2⟩ | ⟨i, t, h1, h2⟩
  · exact ⟨z, none, (RK.str r).1, rfl, h2, q _ Hf H (ExtF.refl s) (by rw [h1]; rfl)⟩
  · exact ⟨z, some (.int i t), (RK.str r).1, rfl, h2, q _ Hf H (ExtF.refl s) (by rw [h1]; rfl)⟩
theorem pd_notInK {x : Str} {kvs : List (Str × Int)} (hg : Gl X x) (h : DicG X.w X.K X.mg x kvs) (ha : PD X T Γ W .b a fa) (hd : (x == ("__debug__" : Str)) = false := by decide) (hm : behindInMarks .NotIn (.Name x p) = false := by rfl) : PD X T Γ W .v (.Compare a [.NotIn] [.Name x p] pos) (unE (inK true kvs) fa) := by
  obtain ⟨d, es, n, hmg, hk, hv⟩ := h.at_
  refine pd_un (r := fun y H Q => ∃ (z : Str) (r : Option Value), y = .str z ∧ V.ref d = .ref d ∧ PySem.W.nsIn X.K d z = some r ∧ Q (.bl (!r.isSome)) H) (pe_cmpR (op_notIn_kd hk) ha (pe_glob (v := .ref d) hg hmg rfl hd) hm) (fun σ H Q q => q) fun Hf H v a d' Q s r e q => ?_
  cases a <;> simp only [inK, reduceCtorEq] at e
  rename_i z
  cases e
  rcases hv z with ⟨h1, h2⟩ | ⟨i, t, h1, h2⟩
  · exact ⟨z, none, (RK.str r).1, rfl, h2, q _ Hf H (ExtF.refl s) (by rw [h1]; rfl)⟩
  · exact ⟨z, some (.int i t), (RK.str r).1, rfl, h2, q _ Hf H (ExtF.refl s) (by rw [h1]; rfl)⟩
/-- a comparison with the right side known, as a test -/
theorem pdt_un {op : CmpOp} {r : R2} {y : V} {g : D → Option D} (ho : OpR X (compareOp op) r) (hb : PE X b (tC y)) (hm : behindInMarks op b = false)
    (hg : ∀ (Hf H : Hp) (v : V) (d d' : D) (Q : VK), Sub Hf H → RK X.K X.mg .b Hf H H d v → g d = some d' → (∀ c, d' = .bl c → Q (.bl c) H) → (∃ c, d' = .bl c) ∧ r v y H Q) (ha : PD X T Γ W .b a fa) : PDT X T Γ W (.Compare a [op] [b] pos) (tstE (unE g fa)) :=
  PT.imp (pt_cmpR ho ha hb hm) fun σ H Q ⟨Hf, ρ, rel, p⟩ => by
    have p : PostG X.K X.mg T Hf H W σ (fun b _ H' => Q b H') (((fa ρ).bind fun a => R.of (g a)).bind D.asB) := p
    have e : (((fa ρ).bind fun a => R.of (g a)).bind D.asB) = ((fa ρ).bind fun a => (R.of (g a)).bind D.asB) := by
      cases fa ρ <;> rfl
    rw [e] at p
    refine ⟨Hf, ρ, rel, PostG.mono (PostG.bind p) fun d Hf1 H1 e1 x1 z v rk => ?_⟩
    have p2 := z.2.2
    cases q : g d with
    | none => rw [q] at p2; exact p2.elim
    | some d3 =>
      rw [q] at p2
      have p2 : PostG X.K X.mg T Hf1 H1 W σ (fun b _ H' => Q b H') d3.asB := p2
      obtain ⟨c, rfl, q2⟩ := asB_ok p2
      exact (hg Hf1 H1 v d (.bl c) _ x1.inn (RK.base' (by decide) rk) q fun c' hc => by cases hc; exact ⟨c, rfl, q2 Hf1 H1 (ExtF.refl x1.inn)⟩).2
theorem pdt_inK {x : Str} {kvs : List (Str × Int)} (hg : Gl X x) (h : DicG X.w X.K X.mg x kvs) (ha : PD X T Γ W .b a fa) (hd : (x == ("__debug__" : Str)) = false := by decide) (hm : behindInMarks .In (.Name x p) = false := by rfl) : PDT X T Γ W (.Compare a [.In] [.Name x p] pos) (tstE (unE (inK false kvs) fa)) := by
  obtain ⟨d, es, n, hmg, hk, hv⟩ := h.at_
  refine pdt_un (op_in_kd hk) (pe_glob (v := .ref d) hg hmg rfl hd) hm (fun Hf H v a d' Q s r e q => ?_) ha
  cases a <;> simp only [inK, reduceCtorEq] at e
  rename_i z
  cases e
  refine ⟨⟨_, rfl⟩, ?_⟩
  rcases hv z with ⟨h1, h2⟩ | ⟨i, t, h1, h2⟩
  · exact ⟨z, none, (RK.str r).1, rfl, h2, q _ (by rw [h1]; rfl)⟩
  · exact ⟨z, some (.int i t), (RK.str r).1, rfl, h2, q _ (by rw [h1]; rfl)⟩
theorem pd_ixK {x : Str} {kvs : List (Str × Int)} (hg : Gl X x) (h : DicG X.w X.K X.mg x kvs) (ha : PD X T Γ W .b a fa) (hs : PlainIx a) (hd : (x == ("__debug__" : Str)) = false := by decide) : PD X T Γ W .v (.Subscript (.Name x p) a pos) (unE (ixK kvs) fa) := by
  obtain ⟨d, es, n, hmg, hk, hv⟩ := h.at_
  refine pd_un (r := fun y H Q => rIxD X.K X.w (.ref d) y H Q) (pe_ix ix_kdict (pe_glob (v := .ref d) hg hmg rfl hd) ha hs) (fun σ H Q q => q) fun Hf H v a d' Q s r e q => ?_
  cases a <;> simp only [ixK, reduceCtorEq] at e
  rename_i z
  rcases hv z with ⟨h1, h2⟩ | ⟨i, t, h1, h2⟩
  · rw [h1] at e; cases e
  · rw [h1] at e
    cases e
    exact ⟨d, z, .int i, rfl, (RK.str r).1, ⟨es, n, .int i t, hk.at_, hk.lit, h2, t, rfl⟩, q _ Hf H (ExtF.refl s) rfl⟩
end
end BV
namespace BV
open PySem PySem.Spec PyProof.Rows L2
/-! ### objects that are read, their methods -/
structure ClsG (K : PySem.W.Frag) (mg : Str → Option Value) (C : Str) : Prop where
  m : mg C = some (.ref (He.ga K C))
  c : Cls K (He.ga K C)
def lookF (f : Str) : List Str → List D → Option D
  | g :: gs, d :: ds => if f = g then some d else lookF f gs ds
  | _, _ => none
theorem lookF_ok {K : PySem.W.Frag} {mg : Str → Option Value} {H : Hp} {f : Str} {d : D} : ∀ {ds : List D} {fvs : List (Str × V)}, RepL K mg H ds (fvs.map (·.2)) → lookF f (fvs.map (·.1)) ds = some d → ∃ v, fvs.lookup f = some v ∧ Rep K mg H d v
  | [], fvs, _, e => by cases fvs <;> cases e
  | d0 :: ds, [], _, e => by cases e
  | d0 :: ds, (g, u) :: fvs, h, e => by
    obtain ⟨v, r, e1, h1, h2⟩ := h
    have e2 : u = v ∧ fvs.map (·.2) = r := by
      have : u :: fvs.map (·.2) = v :: r := e1
      exact ⟨(List.cons.inj this).1, (List.cons.inj this).2⟩
    have e : (if f = g then some d0 else lookF f (fvs.map (·.1)) ds) = some d := e
    by_cases q : f = g
    · rw [if_pos q] at e
      cases e
      exact ⟨u, by rw [List.lookup_cons, show (f == g) = true from beq_iff_eq.mpr q], by rw [e2.1]; exact h1⟩
    · rw [if_neg q] at e
      obtain ⟨w, h3, h4⟩ := lookF_ok (fvs := fvs) (by rw [e2.2]; exact h2) e
      exact ⟨w, by rw [List.lookup_cons, show (f == g) = false from beq_eq_false_iff_ne.mpr q]; exact h3, h4⟩
def fldD (Cs : List Str) (f : Str) : D → Option D
  | .obj C fs ds => if C ∈ Cs then lookF f fs ds else none
  | _ => none
theorem lookup_none {f : Str} {V' : Type} : ∀ {fvs : List (Str × V')}, f ∉ fvs.map (·.1) → fvs.lookup f = none
  | [], _ => rfl
  | (g, u) :: fvs, h => by
    simp only [List.map_cons, List.mem_cons, not_or] at h
    rw [List.lookup_cons, show (f == g) = false from beq_eq_false_iff_ne.mpr h.1]
    exact lookup_none h.2
section
variable {X : Cx} {T : List (Addr × Str)} {Γ : List Bool} {W : WX} {k : Kd} {e o a : Expr} {es : List Expr} {f fo : Rho → R D} {pos apos : Pos}
theorem pd_fld {n : Str} {Cs : List Str} (ha : PD X T Γ W .b e f) (hC : ∀ C ∈ Cs, ClsG X.K X.mg C ∧ NoAttr X.K (He.ga X.K C) n) (hb : attributeBase e n X.env (eval e X.env) = eval e X.env := by rfl) : PD X T Γ W .v (.Attribute e n pos) (unE (fldD Cs n) f) :=
  pd_un (r := fun x H Q => ∃ a C dx fs v, x = .ref a ∧ H a = some (.ins C dx fs) ∧ Cls X.K C ∧ NoAttr X.K C n ∧ fs.lookup n = some v ∧ Q v H) (pe_fld ha hb) (fun σ H Q q => q) fun Hf H x a d Q s r e q => by
    cases a <;> simp only [fldD, reduceCtorEq] at e
    rename_i C fs ds
    split at e
    · rename_i hc
      obtain ⟨p, Ca, dx, fvs, rfl, h1, h2, h3, h4⟩ := RK.obj s r
      subst h3
      obtain ⟨v, h5, h6⟩ := lookF_ok h4 e
      obtain ⟨c1, c2⟩ := hC C hc
      have : Ca = He.ga X.K C := by
        have := c1.m
        rw [h1] at this
        cases this
        rfl
      subst this
      exact ⟨p, _, dx, fvs, v, rfl, h2, c1.c, c2, h5, q v Hf H (ExtF.refl s) h6⟩
    · cases e
/-- o.m(e, ..), what is raised wished for at the caller's slots -/
def tMethA (C : Addr) (m : Str) (sp : Sp) (E : St → XK) (ta : TE) (t : TA) : TE := fun σ H Q => ta σ H fun x H1 => ∃ p dx fs, x = .ref p ∧ H1 p = some (.ins C dx fs) ∧ fs.lookup m = none ∧ t σ H1 fun vs H2 => sp (x :: vs) H2 Q (E σ)
theorem pe_methA {CX : CXT} {lv : Nat} {C g : Addr} {fd : FuncData} {ps : List Str} {sp : Sp} {E : St → XK} {m : Str} {pl : Sem Bool} {ta : TE} {t : TA} (ho : PE X o ta) (c : Cls X.K C) (hm : Meth X.K C m g) (G : FnOk X.prog X.w X.K X.mg X.base CX lv g fd ps sp) (hr : Room lv X.A) (hb : Binds X.K fd ps []) (hx : ∀ σ, PassesAt CX X σ (E σ)) (has : PA X (a :: es) t)
    (hst : starEach (a :: es) X.env = (false, eval a X.env) :: starEach es X.env := by rfl) (hpl : (backTo pos (starEach es X.env)).any (·.1) = false := by rfl)
    (ht : eval (.Call (.Attribute o m apos) (a :: es) [] pos) X.env = (do
      let ov ← eval o X.env
      standAt apos.atName
      let (fn, first) ← holding [ov] (getMethod ov m pl)
      callWith pos fn first (backTo pos (starEach (a :: es) X.env)) (backToKw pos (keywordEach [] X.env))) := by rfl) :
    PE X (.Call (.Attribute o m apos) (a :: es) [] pos) (tMethA C m sp E ta t) := by
  refine ⟨fun pins s σ H Q I h => PySem.W.methodCall_KW (pl := pl) (thn (ho.run pins s σ H _ I h) fun u s1 ⟨x, H1, I1, rx, p, dx, fs, ex, ea, l, q⟩ => ?_) ht⟩
  subst ex
  obtain rfl : u = Value.ref p := rx
  exact getmeth_ok I1 ea c hm l (PySem.W.callWith_K (first := [.ref p]) (h₀ := X.base) I.ok.mod.kin hm.kp (thn (has.run pos pins s1 σ H1 _ I1 q) fun us s2 ⟨vs, H2, I2, r, q2⟩ => ⟨I2.kIn, run_fnSD (us := .ref p :: us) (vs := .ref p :: vs) (dvs := []) (ds := []) (sp := sp) (E := E) G hr hb .nil (hx σ) I2 (.cons rfl r) (by rw [List.append_nil]; exact q2)⟩) hst hpl)
theorem pe_methA0 {CX : CXT} {lv : Nat} {C g : Addr} {fd : FuncData} {ps : List Str} {sp : Sp} {E : St → XK} {m : Str} {pl : Sem Bool} {ta : TE} (ho : PE X o ta) (c : Cls X.K C) (hm : Meth X.K C m g) (G : FnOk X.prog X.w X.K X.mg X.base CX lv g fd ps sp) (hr : Room lv X.A) (hb : Binds X.K fd ps []) (hx : ∀ σ, PassesAt CX X σ (E σ))
    (ht : eval (.Call (.Attribute o m apos) [] [] pos) X.env = (do
      let ov ← eval o X.env
      standAt apos.atName
      let (fn, first) ← holding [ov] (getMethod ov m pl)
      callWith pos fn first (backTo pos (starEach [] X.env)) (backToKw pos (keywordEach [] X.env))) := by rfl) :
    PE X (.Call (.Attribute o m apos) [] [] pos) (tMethA C m sp E ta tNil) := by
  refine ⟨fun pins s σ H Q I h => PySem.W.methodCall_KW (pl := pl) (thn (ho.run pins s σ H _ I h) fun u s1 ⟨x, H1, I1, rx, p, dx, fs, ex, ea, l, q⟩ => ?_) ht⟩
  subst ex
  obtain rfl : u = Value.ref p := rx
  exact getmeth_ok I1 ea c hm l (PySem.W.callWith_K0 (first := [.ref p]) I1.kIn hm.kp (run_fnSD (us := [.ref p]) (vs := [.ref p]) (dvs := []) (ds := []) (sp := sp) (E := E) G hr hb .nil (hx σ) I1 (.cons rfl .nil) q))
/-- an object of class C without an attribute m -/
def objB (C m : Str) : D → R D
  | .obj C' fs ds => if C' = C ∧ m ∉ fs then .ok (.obj C' fs ds) else .stuck
  | _ => .stuck
def methE (C m : Str) (F : List D → R D) (fo : Rho → R D) (fs : Rho → R (List D)) : Rho → R D := fun ρ => (fo ρ).bind fun d => (objB C m d).bind fun d => (fs ρ).bind fun ds => F (d :: ds)
theorem objB_ok {K : PySem.W.Frag} {mg : Str → Option Value} {Hf H : Hp} {σ : St} {α : Type} {good : α → Hp → Hp → Prop} {C m : Str} {d : D} {g : D → R α} (p : PostG K mg T Hf H W σ good ((objB C m d).bind g)) :
    ∃ fs ds, d = .obj C fs ds ∧ m ∉ fs ∧ PostG K mg T Hf H W σ good (g d) := by
  cases d with
  | obj C' fs ds =>
    by_cases h : C' = C ∧ m ∉ fs
    · have e : objB C m (.obj C' fs ds) = .ok (.obj C' fs ds) := if_pos h
      rw [e] at p
      exact ⟨fs, ds, by rw [h.1], h.2, p⟩
    · have e : objB C m (.obj C' fs ds) = .stuck := if_neg h
      rw [e] at p
      exact p.elim
  | _ => exact p.elim
theorem meth_imp {fs : Rho → R (List D)} {F : List D → R D} {C m : Str} {n : Nat} (c : ClsG X.K X.mg C) (hl : ∀ ρ ds, fs ρ = .ok ds → ds.length + 1 = n) {σ : St} {H : Hp} {Q : VK} (h : tD X.K X.mg T Γ W k (methE C m F fo fs) σ H Q) :
    tMethA (He.ga X.K C) m (spD X.K X.mg T n k F) (WE W) (tD X.K X.mg T Γ W .v fo) (tDA X.K X.mg T Γ W .v fs) σ H Q := by
  obtain ⟨Hf, ρ, rel, p⟩ := h
  refine ⟨Hf, ρ, rel, PostE.bind p fun d v Hf1 H1 e1 x1 rk p1 => ?_⟩
  obtain ⟨gs, ds0, rfl, hno, p2⟩ := objB_ok p1
  obtain ⟨q, Ca, dx, fvs, rfl, h1, h2, h3, h4⟩ : Rep X.K X.mg Hf1 (.obj C gs ds0) v := rk
  have : Ca = He.ga X.K C := by
    have := c.m
    rw [h1] at this
    cases this
    rfl
  subst this
  subst h3
  refine ⟨q, dx, fvs, rfl, (x1.inn _ _ h2).1, lookup_none hno, Hf1, ρ, rel.ext x1, PostG.mono (PostG.bind p2) fun ds Hf2 H2 e2 x2 z vs rks => ?_⟩
  refine ⟨?_, Hf2, .obj C (fvs.map (·.1)) ds0 :: ds, x2.inn, x2.tab (x1.tab rel.tab), ⟨_, vs, rfl, Rep.sub x2.sub (show Rep X.K X.mg Hf1 (.obj C (fvs.map (·.1)) ds0) (.ref q) from ⟨q, _, dx, fvs, rfl, h1, h2, rfl, h4⟩), rks.repL⟩, PostG.sig (PostG.mono z.2.2 fun _ _ _ _ _ y v q => y v (RK.base x2.kp q)) fun _ _ _ h => h⟩
  have := RKL.length rks
  have := hl ρ ds e2
  simp only [List.length_cons]
  omega
theorem pd_meth {C m : Str} {lv : Nat} {fa : Addr} {fd : FuncData} {ps : List Str} {F : List D → R D} {fs : Rho → R (List D)} {pl : Sem Bool} (G : FnD X.prog X.w X.K X.mg X.base T lv fa fd ps k F) (hr : Room lv X.A) (c : ClsG X.K X.mg C) (hm : Meth X.K (He.ga X.K C) m fa) (hb : Binds X.K fd ps []) (tk : L2N.Takes X W) (ho : PD X T Γ W .v o fo) (ha : PDA X T Γ W .v (a :: es) fs) (hl : ∀ ρ ds, fs ρ = .ok ds → ds.length + 1 = ps.length)
    (hst : starEach (a :: es) X.env = (false, eval a X.env) :: starEach es X.env := by rfl) (hpl : (backTo pos (starEach es X.env)).any (·.1) = false := by rfl)
    (ht : eval (.Call (.Attribute o m apos) (a :: es) [] pos) X.env = (do
      let ov ← eval o X.env
      standAt apos.atName
      let (fn, first) ← holding [ov] (getMethod ov m pl)
      callWith pos fn first (backTo pos (starEach (a :: es) X.env)) (backToKw pos (keywordEach [] X.env))) := by rfl) :
    PD X T Γ W k (.Call (.Attribute o m apos) (a :: es) [] pos) (methE C m F fo fs) :=
  PE.imp (pe_methA ho c.c hm G hr hb (fun σ => L2N.passAt tk σ) ha hst hpl ht) fun σ H Q h => meth_imp c hl h
theorem pd_meth0 {C m : Str} {lv : Nat} {fa : Addr} {fd : FuncData} {ps : List Str} {F : List D → R D} {pl : Sem Bool} (G : FnD X.prog X.w X.K X.mg X.base T lv fa fd ps k F) (hr : Room lv X.A) (c : ClsG X.K X.mg C) (hm : Meth X.K (He.ga X.K C) m fa) (hb : Binds X.K fd ps []) (tk : L2N.Takes X W) (ho : PD X T Γ W .v o fo) (hl : ps.length = 1)
    (ht : eval (.Call (.Attribute o m apos) [] [] pos) X.env = (do
      let ov ← eval o X.env
      standAt apos.atName
      let (fn, first) ← holding [ov] (getMethod ov m pl)
      callWith pos fn first (backTo pos (starEach [] X.env)) (backToKw pos (keywordEach [] X.env))) := by rfl) :
    PD X T Γ W k (.Call (.Attribute o m apos) [] [] pos) (methE C m F fo nilE) :=
  PE.imp (pe_methA0 ho c.c hm G hr hb (fun σ => L2N.passAt tk σ) ht) fun σ H Q h => by
    obtain ⟨Hf, ρ, rel, p⟩ := meth_imp (n := ps.length) (fs := nilE) c (fun ρ ds e => by cases e; exact hl.symm) h
    refine ⟨Hf, ρ, rel, PostG.mono p fun d Hf1 H1 e1 x1 z v rk => ?_⟩
    obtain ⟨q, dx, fs, h1, h2, h3, Hf2, ρ2, rel2, p2⟩ := z v rk
    exact ⟨q, dx, fs, h1, h2, h3, p2 Hf2 H1 (ExtF.refl rel2.sub) [] rfl⟩
end
end BV
namespace BV
open PySem PySem.Spec PyProof.Rows L2
/-! ### an own exception with fields, raised where nothing is handled -/
section
variable {X : Cx} {W : WX} {a e : Expr} {es : List Expr} {p pos : Pos} {ta : TA}
/-- C(e, ..): what is made bears no context -/
theorem mk_oexN {CXi : CXT} {x : Str} {C g : Addr} {lv : Nat} {fd : FuncData} {ps : List Str} {sp : Sp} (O : OexC X.K C) (hi : PySem.W.findIn X.K (.ref C) "__init__" = some (some (.ref g))) (ht : PySem.W.typeIn X.K (.ref g) = some (.type "function"))
    (G : FnOk X.prog X.w X.K X.mg X.base CXi lv g fd ps sp) (hr : Room (lv + 1) X.A) (hb : Binds X.K fd ps []) (hp : Passes CXi X fun _ _ _ => False) (hg : Gl X x) (hm : X.mg x = some (.ref C)) (has : PA X (a :: es) ta)
    (hdb : (x == ("__debug__" : Str)) = false := by decide) (hst : starEach (a :: es) X.env = (false, eval a X.env) :: starEach es X.env := by rfl) (hpl : (backTo pos (starEach es X.env)).any (·.1) = false := by rfl) :
    L2N.PMk X (.Call (.Name x p) (a :: es) [] pos) (tMkO C sp [] ta) := fun pins s σ H Q I h => by
  obtain ⟨nm, q, N, bs, bm, sn, sub, ab, col, dd, k0, k1, k2, k3, k5, hC, hbm⟩ := O.cls
  refine wpAny_Call_Name_kw (ld_glob I hg hm (PySem.W.callWith_K (h₀ := X.base) I.ok.mod.kin O.kC (thn (has.run pos pins s σ H _ I h) fun us t ⟨vs, H1, J, r, hz, q1⟩ => ⟨J.kIn, ?_⟩) hst hpl) hdb)
  show wpAny _ _ (call (.ref C) us) _ _ _
  obtain ⟨hp1, gn, dr, tk, os⟩ := t
  have big : hp1.objs.size ≤ hp1.objs.size + 1 := Nat.le_succ _
  have todo := q1 (hp1.objs.size + 1) (J.hok.fresh big)
  have J2 : Inv X pins σ (upd H1 (hp1.objs.size + 1) (exo (hp1.objs.size + 1) C none)) ⟨(hp1.push (PySem.W.kdv_tup us)).push (PySem.HandSPX.excO C hp1.objs.size), gn, dr, tk, os⟩ :=
    J.laid (t' := tk) (fun b o z => Heap.get?_push_of_some _ (Heap.get?_push_of_some _ z)) big (exo_ok (by heap_get))
  have all : Vals (V.ref (hp1.objs.size + 1) :: (vs ++ [])) (Value.ref (hp1.objs.size + 1) :: (us ++ [])) := .cons rfl (r.append .nil)
  have few : us.length ≤ sizeLine := by rw [← Paired.length r, sizeLine_eq]; omega
  have cnt : (Value.ref (hp1.objs.size + 1) :: us ++ []).length = ps.length := by rw [← G.len _ _ _ _ todo]; exact all.length.symm
  refine wpAny_call (PySem.HandSPX.call_own F.excBase_ValueError (fun Y => PySem.HandSPX.refsVE_contains Y bm hbm) (J.kIn _ _ hC) (PySem.W.looks_findIn J.kIn hi) (fun self => PySem.W.bind_fn J.kIn self ht) few
    (codeAny_mono (G.run _ X.stack _ _ ⟨Value.ref (hp1.objs.size + 1) :: us, []⟩ _ _ _ (fun _ _ _ => False) (hr.make C us []) (J2.env0.make C us []) (hb _ (Value.ref (hp1.objs.size + 1) :: us) J2.kIn cnt) all todo) fun r2 t2 fin => ?_))
  match r2, fin with
  | .error er, fin => exact hp pins σ _ _ er t2 J2 fin
  | .ok (.ret u), ⟨v, H2, os2, bare2, un2, hok2, rv, ev, d, fs, ea, ed, hd1, q2⟩ =>
    subst ev
    obtain ⟨h2, g2, d2, t2', os'⟩ := t2
    obtain ⟨t0, G2, JJ, kG, ge, hoe, na⟩ := mk_end0 (d2 := d2) (t2 := t2') J big (fun b o z => Heap.get?_push_of_some _ (Heap.get?_push_of_some _ z)) un2 hok2 os2 bare2 ea ed hd1
    exact ⟨rv, hp1.objs.size + 1, _, _, ⟨G2, g2, d2, t2', os'⟩, _, .ref C, some d, rfl, JJ, kG, ge, hoe, ⟨rfl, rfl, fun ws z => by cases z; rfl⟩, rfl, rfl, na, rfl, bare2, raises_own O.exC O.tyC, q2⟩
  | .ok .next, z => exact z.elim
  | .ok .brk, z => exact z.elim
  | .ok .cont, z => exact z.elim
end
end BV
namespace BV
open PySem PySem.Spec PyProof.Rows L2
/-! ### what the head must say of an own exception with two fields -/
structure XcG (K : PySem.W.Frag) (mg : Str → Option Value) (C f1 f2 : Str) : Prop where
  m : mg C = some (.ref (He.ga K C))
  o : OexC K (He.ga K C)
  i : PySem.W.findIn K (.ref (He.ga K C)) "__init__" = some (some (.ref (He.ma K (He.ga K C) "__init__")))
  t : PySem.W.typeIn K (.ref (He.ma K (He.ga K C) "__init__")) = some (.type "function")
  n1 : PySem.W.findIn K (.ref (He.ga K C)) f1 = some none
  n2 : PySem.W.findIn K (.ref (He.ga K C)) f2 = some none
  x : XfC K (He.ga K C)
  e : PySem.W.exmOne K (.ref (He.ga K C)) (.ref (He.ga K C)) = some true
def oexB (K : PySem.W.Frag) (C : Addr) : Bool := (match K.lookup C with
  | some ⟨.type "type", _, .cls cd, sl⟩ => (match cd.mro, sl.toList with
    | .ref C' :: bm, [_, _, _, _, some (.builtin n), _] => C' == C && (n == "ValueError.__new__" && (!cd.hasDel && (cd.hasDict && PySem.HandSPX.refsVE bm)))
    | _, _ => false)
  | _ => false) && (decide (PySem.W.findIn K (.ref C) "__setattr__" = some (some (.builtin "object.__setattr__"))) && (decide (PySem.W.subIn K (.ref C) (.type "BaseException") = some true) && (decide (PySem.W.typeIn K (.ref C) = some (.type "type")) && PySem.W.keepIn K (.ref C))))
theorem oexB_ok {K : PySem.W.Frag} {C : Addr} (h : oexB K C = true) : OexC K C := by
  unfold oexB at h
  simp only [Bool.and_eq_true, decide_eq_true_eq] at h
  obtain ⟨h0, h1, h2, h3, h4⟩ := h
  refine ⟨?_, h1, h2, h3, h4⟩
  split at h0
  · rename_i dd cd sl ho
    split at h0
    · rename_i C' bm k0 k1 k2 k3 n k5 hm hs
      simp only [Bool.and_eq_true, beq_iff_eq, Bool.not_eq_true'] at h0
      obtain ⟨rfl, rfl, hd, hh, hv⟩ := h0
      obtain ⟨nm, bs, mro, ns, qn, hd', sn, sub, ab, col, del⟩ := cd
      dsimp only at hm hd hh
      subst hm hd hh
      have hsl : sl = #[k0, k1, k2, k3, some (.builtin "ValueError.__new__"), k5] := by
        obtain ⟨l⟩ := sl
        simp only at hs
        rw [hs]
      subst hsl
      exact ⟨nm, qn, ns, bs, bm, sn, sub, ab, col, dd, k0, k1, k2, k3, k5, ho, hv⟩
    · cases h0
  · cases h0
def xcB (K : PySem.W.Frag) (C f1 f2 : Str) : Bool := oexB K (He.ga K C) && (decide (PySem.W.findIn K (.ref (He.ga K C)) "__init__" = some (some (.ref (He.ma K (He.ga K C) "__init__")))) && (decide (PySem.W.typeIn K (.ref (He.ma K (He.ga K C) "__init__")) = some (.type "function")) &&
  (decide (PySem.W.findIn K (.ref (He.ga K C)) f1 = some none) && (decide (PySem.W.findIn K (.ref (He.ga K C)) f2 = some none) && (xfB K (He.ga K C) && decide (PySem.W.exmOne K (.ref (He.ga K C)) (.ref (He.ga K C)) = some true))))))
theorem xcB_ok {K : PySem.W.Frag} {mg : Str → Option Value} {C f1 f2 : Str} (m : mg C = some (.ref (He.ga K C))) (h : xcB K C f1 f2 = true) : XcG K mg C f1 f2 := by
  unfold xcB at h
  simp only [Bool.and_eq_true, decide_eq_true_eq] at h
  obtain ⟨h1, h2, h3, h4, h5, h6, h7⟩ := h
  exact ⟨m, oexB_ok h1, h2, h3, h4, h5, xfB_ok h6, h7⟩
/-- what __init__(self, a, b): self.f1 = a; self.f2 = b promises -/
def spX (K : PySem.W.Frag) (C : Addr) (f1 f2 : Str) : Sp := fun vs H Q _ => ∃ (a : Addr) (u v : V), vs = [.ref a, u, v] ∧ H a = some (exo a C none) ∧
  ∀ dx, H dx = none → dx ≠ a → Q .non (upd (upd (upd H dx (exd dx [(f1, u)])) a (exo a C (some dx))) dx (exd dx [(f2, v), (f1, u)]))
theorem fn_init2 {P : Program} {w : World} {K : PySem.W.Frag} {mg : Str → Option Value} {base : Heap} {lv : Nat} {x qual : Str} {params : Arguments} {body : List Stmt} {scope : Scope} {dvs : List V} {kws : List (Str × V)} {fa : Addr} {fd : FuncData} {s a1 a2 f1 f2 C : Str} {p1 p2 p3 p4 q1 q2 q3 q4 : Pos}
    (g : XcG K mg C f1 f2) (hF : FunD K x qual params body scope dvs kws fa fd) (S : FnScope [s, a1, a2] [s, a1, a2] scope)
    (hb : body = [.Assign [.Attribute (.Name s p1) f1 p2] (.Name a1 p3) p4, .Assign [.Attribute (.Name s q1) f2 q2] (.Name a2 q3) q4])
    (d0 : ((s == ("__debug__" : Str)) = false ∧ (s == ("__classdict__" : Str)) = false) ∧ ((a1 == ("__debug__" : Str)) = false ∧ (a1 == ("__classdict__" : Str)) = false) ∧ ((a2 == ("__debug__" : Str)) = false ∧ (a2 == ("__classdict__" : Str)) = false) := by decide) :
    FnOk P w K mg base C8.CX0 (lv + 1) fa fd [s, a1, a2] (spX K (He.ga K C) f1 f2) := by
  subst hb
  obtain ⟨oc, od, dV, kV, doc, pm, an, cdv, ct, osl, rfl, lk, hcd, _, _⟩ := hF.ex
  refine fn_of lk hcd S (fun vs H Q E h => ?_) fun A outer sh H vs Q E hr ⟨a, u, v, hv, ea, q⟩ => ?_
  · obtain ⟨a, u, v, rfl, _⟩ := h
    rfl
  · subst hv
    have vs : ∀ y ∈ [s, a1, a2], Vis scope y := fun y hy => (S.par y hy).elim .inl fun z => .inr (.inl z)
    refine ⟨_, pss_cons (ps_ost (pe_var (i := 0) rfl (vs s (by simp)) d0.1.1 d0.1.2) (pe_var (i := 1) rfl (vs a1 (by simp)) d0.2.1.1 d0.2.1.2)) (pss_one (ps_ost (pe_var (i := 0) rfl (vs s (by simp)) d0.1.1 d0.1.2) (pe_var (i := 2) rfl (vs a2 (by simp)) d0.2.2.1 d0.2.2.2))), ?_⟩
    refine ⟨u, rfl, .ref a, rfl, a, He.ga K C, rfl, g.o, g.n1, .inl ⟨ea, fun dx hd hn => ?_⟩⟩
    refine ⟨v, rfl, .ref a, rfl, a, He.ga K C, rfl, g.o, g.n2, .inr ⟨dx, [(f1, u)], upd_same, ?_, by simp, q dx hd hn⟩⟩
    rw [upd_ne hn, upd_same]
section
variable {X : Cx} {B : Fx} {Γ Γ' Γl : List Bool} {a : Expr} {es : List Expr} {p p2 pos : Pos}
/-- raise C(a, b) -/
def raiseX (C f1 f2 : Str) (fs : Rho → R (List D)) : Rho → RS := fun ρ => RS.bind (fs ρ) fun ds => match ds with
  | [u, v] => .exc ⟨C, [f2, f1], [v, u]⟩
  | _ => .stuck
theorem nn_raiseX {C f1 f2 : Str} {fs : Rho → R (List D)} : NoNx (raiseX C f1 f2 fs) := fun ρ ρ' h => by
  unfold raiseX at h
  cases q : fs ρ with
  | ok ds =>
    rw [q] at h
    simp only [RS.bind] at h
    split at h <;> cases h
  | exc e => rw [q] at h; cases h
  | stuck => rw [q] at h; cases h
theorem pds_raiseX {C f1 f2 : Str} {lv : Nat} {fd : FuncData} {ps : List Str} {fs : Rho → R (List D)} (hc : X.calm = true) (tk : L2N.Takes X B.W) (g : XcG X.K X.mg C f1 f2) (G : FnOk X.prog X.w X.K X.mg X.base C8.CX0 lv (He.ma X.K (He.ga X.K C) "__init__") fd ps (spX X.K (He.ga X.K C) f1 f2))
    (hr : Room (lv + 1) X.A) (hb : Binds X.K fd ps []) (hg : Gl X C) (ha : PDA X B.T Γ B.W .v (a :: es) fs) (hf : f1 ≠ f2)
    (hdb : (C == ("__debug__" : Str)) = false := by decide) (hst : starEach (a :: es) X.env = (false, eval a X.env) :: starEach es X.env := by rfl) (hpl : (backTo p2 (starEach es X.env)).any (·.1) = false := by rfl) :
    PDS X B Γ Γ' Γl (.Raise (some (.Call (.Name C p) (a :: es) [] p2)) none pos) (raiseX C f1 f2 fs) := fun Hf0 H0 =>
  PS.imp (L2N.ps_raise hc tk (mk_oexN g.o g.i g.t G hr hb pass0 hg g.m ha hdb hst hpl)) fun De σ H ⟨Hf, ρ, r, p⟩ => by
    refine ⟨Hf, ρ, r.e, PostG.mono (PostS.bind r.x p) fun ds Hf1 H1 e1 x1 z vs rks => ?_⟩
    obtain ⟨u, v, rfl⟩ : ∃ u v, ds = [u, v] := by
      have z := z.2.2
      match ds, z with
      | [], z => exact z.elim
      | [_], z => exact z.elim
      | [u, v], _ => exact ⟨u, v, rfl⟩
      | _ :: _ :: _ :: _, z => exact z.elim
    have z := z.2.2
    obtain ⟨uv, vv, rfl, ru, rv⟩ := RKL.two rks
    refine ⟨by show 2 ≤ 1000; decide, fun b hb => ⟨b, uv, vv, rfl, upd_same, fun dx hd hn => ?_⟩⟩
    rw [upd_ne hn] at hd
    refine ⟨rfl, dx, [(f2, vv), (f1, uv)], ?_, upd_same, hd, ?_⟩
    · rw [upd_ne (Ne.symm hn), upd_same]
    · -- the heap behind it: one dict more
      have eH : upd (del (upd (upd (upd (upd H1 b (exo b (He.ga X.K C) none)) dx (exd dx [(f1, uv)])) b (exo b (He.ga X.K C) (some dx))) dx (exd dx [(f2, vv), (f1, uv)])) b) dx (.xd [(f2, vv), (f1, uv)]) = upd H1 dx (.xd [(f2, vv), (f1, uv)]) := by
        funext c
        by_cases h1 : c = dx
        · subst h1
          rw [upd_same, upd_same]
        · rw [upd_ne h1, upd_ne h1]
          by_cases h2 : c = b
          · subst h2
            rw [del_same, hb]
          · rw [del_ne h2, upd_ne h1, upd_ne h2, upd_ne h1, upd_ne h2]
      rw [eH]
      have z : ∀ cls dd σ' Hf' H', ExtF B.T Hf0 H0 Hf' H' → RX X.K X.mg Hf' H' ⟨C, [f2, f1], [v, u]⟩ cls dd → B.W cls dd σ' H' := z
      have xn : ExtF B.T Hf1 H1 Hf1 (upd H1 dx (.xd [(f2, vv), (f1, uv)])) := ExtF.new x1.inn hd
      exact z _ _ σ Hf1 _ (r.x.trans (x1.trans xn)) ⟨_, g.m, rfl, .inr ⟨by simp, dx, _, rfl, upd_same, rfl, ⟨vv, _, rfl, rv, ⟨uv, _, rfl, ru, rfl⟩⟩⟩⟩
end
end BV
namespace BV
open PySem PySem.Spec PyProof.Rows L2
/-! ### objects that change, by their numbers: a store of cells -/
section
variable (K : PySem.W.Frag) (mg : Str → Option Value)
/-- a value or a cell's number -/
def RepM (am : List Addr) (H : Hp) (d : D) (v : V) : Prop := (∃ n a, d = .loc n ∧ am[n]? = some a ∧ v = .ref a) ∨ Rep K mg H d v
def RepML (am : List Addr) (H : Hp) : List D → List V → Prop
  | [], vs => vs = []
  | d :: ds, vs => ∃ v r, vs = v :: r ∧ RepM K mg am H d v ∧ RepML am H ds r
/-- what stands in a cell -/
def RepMO (am : List Addr) (H : Hp) : D → HO → Prop
  | .lst ds, o => ∃ vs, o = .lst vs ∧ ds.length ≤ sizeLine ∧ RepML K mg am H ds vs
  | .dic ks ds, o => ∃ kvs, o = .dK kvs ∧ kvs.map (·.1) = ks ∧ RepML K mg am H ds (kvs.map (·.2))
  | .obj C fs ds, o => ∃ Ca dx fvs, mg C = some (.ref Ca) ∧ o = .ins Ca dx fvs ∧ fvs.map (·.1) = fs ∧ RepML K mg am H ds (fvs.map (·.2))
  | _, _ => False
end
def Pre (am am' : List Addr) : Prop := ∀ (n : Nat) (a : Addr), am[n]? = some a → am'[n]? = some a
theorem Pre.refl (am : List Addr) : Pre am am := fun _ _ h => h
theorem Pre.trans {a b c : List Addr} (h : Pre a b) (g : Pre b c) : Pre a c := fun n x e => g n x (h n x e)
theorem Pre.app (am : List Addr) (a : Addr) : Pre am (am ++ [a]) := fun n x e => by
  rw [List.getElem?_append_left (List.getElem?_eq_some_iff.mp e).1]
  exact e
theorem mem_at {am : List Addr} {a : Addr} (h : a ∈ am) : ∃ n : Nat, am[n]? = some a := List.mem_iff_getElem?.mp h
section
variable {K : PySem.W.Frag} {mg : Str → Option Value} {am am' : List Addr} {H H' Hf Hf' : Hp}
theorem RepM.mono (p : Pre am am') (s : Sub Hf Hf') {d : D} {v : V} (h : RepM K mg am Hf d v) : RepM K mg am' Hf' d v := by
  rcases h with ⟨n, a, e, h1, h2⟩ | h
  · exact .inl ⟨n, a, e, p n a h1, h2⟩
  · exact .inr (Rep.sub s h)
theorem RepML.mono (p : Pre am am') (s : Sub Hf Hf') : ∀ {ds : List D} {vs : List V}, RepML K mg am Hf ds vs → RepML K mg am' Hf' ds vs
  | [], _, h => h
  | d :: ds, _, h => by
    obtain ⟨v, r, e, h1, h2⟩ := h
    exact ⟨v, r, e, RepM.mono p s h1, RepML.mono p s h2⟩
theorem RepMO.mono (p : Pre am am') (s : Sub Hf Hf') {d : D} {o : HO} (h : RepMO K mg am Hf d o) : RepMO K mg am' Hf' d o := by
  cases d with
  | lst ds => obtain ⟨vs, e, h1, h2⟩ := h; exact ⟨vs, e, h1, RepML.mono p s h2⟩
  | dic ks ds => obtain ⟨kvs, e, h1, h2⟩ := h; exact ⟨kvs, e, h1, RepML.mono p s h2⟩
  | obj C fs ds => obtain ⟨Ca, dx, fvs, e, h1, h2, h3⟩ := h; exact ⟨Ca, dx, fvs, e, h1, h2, RepML.mono p s h3⟩
  | _ => exact h.elim
/-- what a cell holds is no tuple, no table, no code -/
inductive MutO : HO → Prop where
  | lst (vs) : MutO (.lst vs)
  | dK (kvs) : MutO (.dK kvs)
  | ins (C dx fvs) : MutO (.ins C dx fvs)
theorem RepMO.mut {d : D} {o : HO} (h : RepMO K mg am Hf d o) : MutO o := by
  cases d with
  | lst ds => obtain ⟨vs, rfl, _⟩ := h; exact .lst vs
  | dic ks ds => obtain ⟨vs, rfl, _⟩ := h; exact .dK vs
  | obj C fs ds => obtain ⟨Ca, dx, fvs, _, rfl, _⟩ := h; exact .ins ..
  | _ => exact h.elim
theorem MutO.ntbl {o : HO} (h : MutO o) : ∀ ps, o ≠ .tbl ps := fun ps z => by subst z; cases h
theorem RepML.of {ds : List D} : ∀ {vs : List V}, RepL K mg Hf ds vs → RepML K mg am Hf ds vs := by
  induction ds with
  | nil => exact fun h => h
  | cons d ds ih =>
    intro vs h
    obtain ⟨v, r, e, h1, h2⟩ := h
    exact ⟨v, r, e, .inr h1, ih h2⟩
theorem RepML.length : ∀ {ds : List D} {vs : List V}, RepML K mg am Hf ds vs → vs.length = ds.length
  | [], vs, h => by rw [show vs = [] from h]; rfl
  | d :: ds, _, h => by
    obtain ⟨v, r, rfl, _, h⟩ := h
    simp [RepML.length h]
theorem RepML.get : ∀ {ds : List D} {vs : List V} {i : Nat} {d : D}, RepML K mg am Hf ds vs → ds[i]? = some d → ∃ v, vs[i]? = some v ∧ RepM K mg am Hf d v
  | [], _, i, d, h, e => by simp at e
  | d :: ds, _, 0, d', h, e => by
    obtain ⟨v, r, rfl, h1, h⟩ := h
    simp at e
    subst e
    exact ⟨v, by simp, h1⟩
  | d :: ds, _, i + 1, d', h, e => by
    obtain ⟨v, r, rfl, h1, h⟩ := h
    simp at e
    obtain ⟨v', h2, h3⟩ := RepML.get h e
    exact ⟨v', by simpa using h2, h3⟩
theorem RepML.append : ∀ {ds es : List D} {vs us : List V}, RepML K mg am Hf ds vs → RepML K mg am Hf es us → RepML K mg am Hf (ds ++ es) (vs ++ us)
  | [], _, vs, _, h, g => by rw [show vs = [] from h]; exact g
  | d :: ds, es, _, us, h, g => by
    obtain ⟨v, r, rfl, h1, h⟩ := h
    exact ⟨v, r ++ us, rfl, h1, RepML.append h g⟩
theorem RepML.set {d : D} {v : V} (q : RepM K mg am Hf d v) : ∀ {ds : List D} {vs : List V} (n : Nat), RepML K mg am Hf ds vs → RepML K mg am Hf (ds.set n d) (vs.set n v)
  | [], vs, n, h => by rw [show vs = [] from h]; simp [RepML]
  | e :: ds, _, 0, h => by
    obtain ⟨u, r, rfl, h1, h⟩ := h
    exact ⟨v, r, rfl, q, h⟩
  | e :: ds, _, n + 1, h => by
    obtain ⟨u, r, rfl, h1, h⟩ := h
    exact ⟨u, r.set n v, rfl, h1, RepML.set q n h⟩
end
/-- the cells, seen from an entry H0 that has none of them -/
structure Cells (K : PySem.W.Frag) (mg : Str → Option Value) (H0 : Hp) (M : List D) (am : List Addr) (Hf H : Hp) : Prop where
  len : am.length = M.length
  nod : am.Nodup
  cell : ∀ (n : Nat) (a : Addr) (d : D), am[n]? = some a → M[n]? = some d → Hf a = none ∧ ¬ Old H0 a ∧ ∃ o, H a = some o ∧ RepMO K mg am Hf d o
structure EndM (K : PySem.W.Frag) (mg : Str → Option Value) (T : List (Addr × Str)) (am0 : List Addr) (Hf0 H0 : Hp) (M : List D) (am : List Addr) (Hf H : Hp) : Prop where
  sub : Sub Hf H
  tab : LamX.Tabs T H
  c : Cells K mg H0 M am Hf H
  x : ExtF T Hf0 H0 Hf H
  pre : Pre am0 am
structure RelM (K : PySem.W.Frag) (mg : Str → Option Value) (T : List (Addr × Str)) (am0 : List Addr) (Hf0 H0 : Hp) (ρ : Rho) (M : List D) (am : List Addr) (Hf : Hp) (σ : St) (H : Hp) : Prop where
  e : EndM K mg T am0 Hf0 H0 M am Hf H
  len : ρ.length = σ.length
  slot : ∀ (i : Nat) (d : D), ρ[i]? = some (some d) → ∃ v, σ[i]? = some (some v) ∧ RepM K mg am Hf d v
/-! ### cells seen as frozen for a while -/
def over (am : List Addr) (H Hf : Hp) : Hp := fun b => if b ∈ am then H b else Hf b
def cut (am : List Addr) (Hf : Hp) : Hp := fun b => if b ∈ am then none else Hf b
theorem over_in {am : List Addr} {H Hf : Hp} {b : Addr} (h : b ∈ am) : over am H Hf b = H b := if_pos h
theorem over_out {am : List Addr} {H Hf : Hp} {b : Addr} (h : b ∉ am) : over am H Hf b = Hf b := if_neg h
theorem cut_in {am : List Addr} {Hf : Hp} {b : Addr} (h : b ∈ am) : cut am Hf b = none := if_pos h
theorem cut_out {am : List Addr} {Hf : Hp} {b : Addr} (h : b ∉ am) : cut am Hf b = Hf b := if_neg h
def trav (f : D → Option D) : List D → Option (List D)
  | [] => some []
  | d :: ds => (f d).bind fun a => (trav f ds).bind fun r => some (a :: r)
/-- a cell's number as what stands there -/
def resD (M : List D) : Nat → D → Option D
  | 0, .loc _ => none
  | k + 1, .loc n => match M[n]? with
    | some (.lst ds) => (trav (resD M k) ds).map .lst
    | some (.dic ks ds) => (trav (resD M k) ds).map (.dic ks)
    | some (.obj C fs ds) => (trav (resD M k) ds).map (.obj C fs)
    | _ => none
  | _, d => some d
def envR (M : List D) (ρ : Rho) : Rho := ρ.map fun o => o.bind (resD M 3)
section
variable {K : PySem.W.Frag} {mg : Str → Option Value} {T : List (Addr × Str)} {am0 am : List Addr} {Hf0 H0 Hf H Hf' H' : Hp} {M : List D} {ρ : Rho} {σ : St}
theorem trav_len {f : D → Option D} : ∀ {ds es : List D}, trav f ds = some es → es.length = ds.length
  | [], es, h => by cases h; rfl
  | d :: ds, es, h => by
    unfold trav at h
    cases q : f d with
    | none => rw [q] at h; cases h
    | some a =>
      rw [q] at h
      cases q2 : trav f ds with
      | none => rw [q2] at h; cases h
      | some r =>
        rw [q2] at h
        cases h
        simp [trav_len q2]
theorem Cells.sub_over (c : Cells K mg H0 M am Hf H) (s : Sub Hf H) : Sub Hf (over am H Hf) := fun b o h => by
  by_cases q : b ∈ am
  · obtain ⟨n, hn⟩ := mem_at q
    have hl : n < M.length := by rw [← c.len]; exact (List.getElem?_eq_some_iff.mp hn).1
    have := (c.cell n b _ hn (List.getElem?_eq_getElem hl)).1
    rw [this] at h
    cases h
  · rw [over_out q]
    exact ⟨h, (s b o h).2⟩
theorem Cells.at (c : Cells K mg H0 M am Hf H) {b : Addr} (h : b ∈ am) : Hf b = none ∧ ¬ Old H0 b ∧ ∃ o, H b = some o ∧ MutO o := by
  obtain ⟨n, hn⟩ := mem_at h
  have hl : n < M.length := by rw [← c.len]; exact (List.getElem?_eq_some_iff.mp hn).1
  obtain ⟨h1, h2, o, h3, h4⟩ := c.cell n b _ hn (List.getElem?_eq_getElem hl)
  exact ⟨h1, h2, o, h3, h4.mut⟩
theorem Cells.over_sub (c : Cells K mg H0 M am Hf H) (s : Sub Hf H) : Sub (over am H Hf) H := fun b o h => by
  by_cases q : b ∈ am
  · rw [over_in q] at h
    obtain ⟨_, _, o', h3, h4⟩ := c.at q
    rw [h3] at h
    cases h
    exact ⟨h3, h4.ntbl⟩
  · rw [over_out q] at h
    exact s b o h
theorem res_ok (c : Cells K mg H0 M am Hf H) (s : Sub Hf H) : ∀ (k : Nat) {d d' : D} {v : V}, RepM K mg am Hf d v → resD M k d = some d' → Rep K mg (over am H Hf) d' v := by
  intro k
  induction k with
  | zero =>
    intro d d' v h e
    rcases h with ⟨n, a, rfl, h1, h2⟩ | h
    · cases e
    · have : d = d' := by
        cases d <;> first | exact Option.some.inj e | exact h.elim
      subst this
      exact Rep.sub (c.sub_over s) h
  | succ k ih =>
    intro d d' v h e
    have all : ∀ {ds es : List D} {vs : List V}, RepML K mg am Hf ds vs → trav (resD M k) ds = some es → RepL K mg (over am H Hf) es vs := by
      intro ds
      induction ds with
      | nil =>
        intro es vs h e
        cases e
        exact h
      | cons d ds ihd =>
        intro es vs h e
        obtain ⟨v, r, rfl, h1, h2⟩ := h
        unfold trav at e
        cases q : resD M k d with
        | none => rw [q] at e; cases e
        | some a =>
          rw [q] at e
          cases q2 : trav (resD M k) ds with
          | none => rw [q2] at e; cases e
          | some es' =>
            rw [q2] at e
            cases e
            exact ⟨v, r, rfl, ih h1 q, ihd h2 q2⟩
    rcases h with ⟨n, a, rfl, h1, h2⟩ | h
    · subst h2
      have hm : a ∈ am := List.mem_of_getElem? h1
      have e : (match M[n]? with
        | some (.lst ds) => (trav (resD M k) ds).map .lst
        | some (.dic ks ds) => (trav (resD M k) ds).map (.dic ks)
        | some (.obj C fs ds) => (trav (resD M k) ds).map (.obj C fs)
        | _ => none) = some d' := e
      cases q : M[n]? with
      | none => rw [q] at e; cases e
      | some c0 =>
        obtain ⟨_, _, o, h3, h4⟩ := c.cell n a c0 h1 q
        rw [q] at e
        cases c0 with
        | lst ds =>
          obtain ⟨es, he, rfl⟩ := map_some (show (trav (resD M k) ds).map D.lst = some d' from e)
          obtain ⟨vs, rfl, h5, h6⟩ := h4
          exact ⟨a, vs, rfl, by rw [over_in hm]; exact h3, by rw [trav_len he]; exact h5, all h6 he⟩
        | dic ks ds =>
          obtain ⟨es, he, rfl⟩ := map_some (show (trav (resD M k) ds).map (D.dic ks) = some d' from e)
          obtain ⟨kvs, rfl, h5, h6⟩ := h4
          exact ⟨a, kvs, rfl, by rw [over_in hm]; exact h3, h5, all h6 he⟩
        | obj C fs ds =>
          obtain ⟨es, he, rfl⟩ := map_some (show (trav (resD M k) ds).map (D.obj C fs) = some d' from e)
          obtain ⟨Ca, dx, fvs, h7, rfl, h5, h6⟩ := h4
          exact ⟨a, Ca, dx, fvs, rfl, h7, by rw [over_in hm]; exact h3, h5, all h6 he⟩
        | _ => cases e
    · have : d = d' := by
        cases d <;> first | exact Option.some.inj e | exact h.elim
      subst this
      exact Rep.sub (c.sub_over s) h
/-- the slots, cells seen as frozen -/
theorem RelM.rel (r : RelM K mg T am0 Hf0 H0 ρ M am Hf σ H) {Γ : List Bool} (hΓ : ∀ i : Nat, Γ[i]? ≠ some true) : RelE K mg T Γ (envR M ρ) (over am H Hf) σ H where
  sub := r.e.c.over_sub r.e.sub
  tab := r.e.tab
  len := by unfold envR; rw [List.length_map]; exact r.len
  val := fun i d e _ => by
    unfold envR at e
    rw [List.getElem?_map] at e
    cases q : ρ[i]? with
    | none => rw [q] at e; cases e
    | some o =>
      rw [q] at e
      cases o with
      | none => cases e
      | some d0 =>
        have e : some (resD M 3 d0) = some (some d) := e
        obtain ⟨v, h1, h2⟩ := r.slot i d0 q
        exact ⟨v, h1, res_ok r.e.c r.e.sub 3 h2 (Option.some.inj e)⟩
  own := fun i d e g => absurd g (hΓ i)
  apart := fun i j a n g1 => absurd g1 (hΓ i)
theorem Old.of {H : Hp} {b : Addr} {o : HO} (h : H b = some o) (m : MutO o) : Old H b := ⟨o, h, m.ntbl⟩
/-- further on, by an expression that reads the cells as frozen -/
theorem EndM.step (r : EndM K mg T am0 Hf0 H0 M am Hf H) (x : ExtF T (over am H Hf) H Hf' H') : EndM K mg T am0 Hf0 H0 M am (cut am Hf') H' ∧ Sub Hf (cut am Hf') := by
  have same : ∀ a ∈ am, H' a = H a := fun a ha => by
    obtain ⟨_, _, o, h3, h4⟩ := r.c.at ha
    rw [h3]
    exact x.ext a o h3 h4.ntbl
  have s1 : Sub Hf (cut am Hf') := fun b o h => by
    have hb : b ∉ am := fun z => by rw [(r.c.at z).1] at h; cases h
    rw [cut_out hb]
    have := r.c.sub_over r.sub b o h
    exact ⟨(x.sub b o this.1).1, this.2⟩
  have s2 : Sub (cut am Hf') H' := fun b o h => by
    by_cases q : b ∈ am
    · rw [cut_in q] at h; cases h
    · rw [cut_out q] at h
      exact x.inn b o h
  refine ⟨⟨s2, x.tab r.tab, ⟨r.c.len, r.c.nod, fun n a d h1 h2 => ?_⟩, ⟨r.x.sub.trans s1, s2, r.x.ext.trans x.ext, fun t => x.tab (r.x.tab t), fun b h1 h2 => ?_, fun b h => x.kp b (r.x.kp b h)⟩, r.pre⟩, s1⟩
  · obtain ⟨_, h3, o, h4, h5⟩ := r.c.cell n a d h1 h2
    have hm := List.mem_of_getElem? h1
    exact ⟨cut_in hm, h3, o, by rw [same a hm]; exact h4, RepMO.mono (Pre.refl am) s1 h5⟩
  · by_cases q : b ∈ am
    · exact cut_in q
    · rw [cut_out q]
      refine x.fr b (r.x.kp b h1) ?_
      rw [over_out q]
      exact r.x.fr b h1 h2
theorem RelM.step (r : RelM K mg T am0 Hf0 H0 ρ M am Hf σ H) (x : ExtF T (over am H Hf) H Hf' H') : RelM K mg T am0 Hf0 H0 ρ M am (cut am Hf') σ H' ∧ Sub Hf (cut am Hf') := by
  obtain ⟨h1, h2⟩ := r.e.step x
  exact ⟨⟨h1, r.len, fun i d e => by
    obtain ⟨v, h3, h4⟩ := r.slot i d e
    exact ⟨v, h3, RepM.mono (Pre.refl am) h2 h4⟩⟩, h2⟩
/-- numbers, texts, truths, tuples of such -/
def imm : D → Bool
  | .non => true
  | .bl _ => true
  | .int _ => true
  | .str _ => true
  | .tup ds => immL ds
  | _ => false
where immL : List D → Bool
  | [] => true
  | d :: ds => imm d && immL ds
mutual
/-- such a value lies in no cell -/
theorem imm_cut (hm : ∀ a ∈ am, ∃ o, Hf' a = some o ∧ MutO o) : ∀ {d : D} {v : V}, imm d = true → Rep K mg Hf' d v → Rep K mg (cut am Hf') d v
  | .non, _, _, h => h
  | .bl _, _, _, h => h
  | .int _, _, _, h => h
  | .str _, _, _, h => h
  | .tup ds, v, i, h => by
    obtain ⟨a, vs, e, h1, h2, h3⟩ := h
    refine ⟨a, vs, e, ?_, h2, immL_cut hm i h3⟩
    rcases h1 with h1 | h1
    · refine .inl ?_
      have no : ∀ {o : HO}, Hf' a = some o → ¬ MutO o → a ∉ am := fun {o} q n z => by
        obtain ⟨o', q', m⟩ := hm a z
        rw [q] at q'
        cases q'
        exact n m
      rcases h1 with h1 | ⟨o, h1⟩
      · exact .inl (by rw [cut_out (no h1 (fun m => by cases m))]; exact h1)
      · exact .inr ⟨o, by rw [cut_out (no h1 (fun m => by cases m))]; exact h1⟩
    · exact .inr h1
  | .scr _, _, i, _ => by cases i
  | .lst _, _, i, _ => by cases i
  | .dic _ _, _, i, _ => by cases i
  | .obj _ _ _, _, i, _ => by cases i
  | .loc _, _, i, _ => by cases i
theorem immL_cut (hm : ∀ a ∈ am, ∃ o, Hf' a = some o ∧ MutO o) : ∀ {ds : List D} {vs : List V}, imm.immL ds = true → RepL K mg Hf' ds vs → RepL K mg (cut am Hf') ds vs
  | [], _, _, h => h
  | d :: ds, _, i, h => by
    obtain ⟨v, r, e, h1, h2⟩ := h
    have i : (imm d && imm.immL ds) = true := i
    rw [Bool.and_eq_true] at i
    exact ⟨v, r, e, imm_cut hm i.1 h1, immL_cut hm i.2 h2⟩
end
theorem EndM.muts (r : EndM K mg T am0 Hf0 H0 M am Hf H) (x : ExtF T (over am H Hf) H Hf' H') : ∀ a ∈ am, ∃ o, Hf' a = some o ∧ MutO o := fun a ha => by
  obtain ⟨_, _, o, h3, h4⟩ := r.c.at ha
  exact ⟨o, (x.sub a o (by rw [over_in ha]; exact h3)).1, h4⟩
/-- all cells become values -/
theorem EndM.frozen (r : EndM K mg T am0 Hf0 H0 M am Hf H) : ExtF T Hf0 H0 (over am H Hf) H :=
  ⟨r.x.sub.trans (r.c.sub_over r.sub), r.c.over_sub r.sub, r.x.ext, r.x.tab, fun b h1 h2 => by
    rw [over_out (fun z => (r.c.at z).2.1 h1)]
    exact r.x.fr b h1 h2, r.x.kp⟩
end
end BV
namespace BV
open PySem PySem.Spec PyProof.Rows L2
/-! ### expressions over cells -/
inductive RM (α : Type) where
  | ok (a : α) (M : List D)
  | exc (e : Exc) (M : List D)
  | stuck
@[simp] def RM.bind {α β : Type} : RM α → (α → List D → RM β) → RM β
  | .ok a M, f => f a M
  | .exc e M, _ => .exc e M
  | .stuck, _ => .stuck
section
variable (K : PySem.W.Frag) (mg : Str → Option Value)
def PostM {α : Type} (T : List (Addr × Str)) (am0 : List Addr) (Hf0 H0 : Hp) (ρ : Rho) (am : List Addr) (Hf : Hp) (W : WX) (σ : St) (good : α → List D → List Addr → Hp → Hp → Prop) : RM α → Prop
  | .ok a M' => ∀ am' Hf' H', Pre am am' → Sub Hf Hf' → RelM K mg T am0 Hf0 H0 ρ M' am' Hf' σ H' → good a M' am' Hf' H'
  | .exc e M' => ∀ cls dd am' Hf' H', Pre am am' → Sub Hf Hf' → RelM K mg T am0 Hf0 H0 ρ M' am' Hf' σ H' → RX K mg Hf' H' e cls dd → ∀ σ', W cls dd σ' H'
  | .stuck => False
def tM (T : List (Addr × Str)) (am0 : List Addr) (Hf0 H0 : Hp) (W : WX) (f : Rho → List D → RM D) : TE := fun σ H Q =>
  ∃ Hf ρ M am, RelM K mg T am0 Hf0 H0 ρ M am Hf σ H ∧ PostM K mg T am0 Hf0 H0 ρ am Hf W σ (fun d _ am' Hf' H' => ∀ v, RepM K mg am' Hf' d v → Q v H') (f ρ M)
def tMA (T : List (Addr × Str)) (am0 : List Addr) (Hf0 H0 : Hp) (W : WX) (f : Rho → List D → RM (List D)) : TA := fun σ H Q =>
  ∃ Hf ρ M am, RelM K mg T am0 Hf0 H0 ρ M am Hf σ H ∧ PostM K mg T am0 Hf0 H0 ρ am Hf W σ (fun ds _ am' Hf' H' => ∀ vs, RepML K mg am' Hf' ds vs → Q vs H') (f ρ M)
end
def PDM (X : Cx) (T : List (Addr × Str)) (W : WX) (e : Expr) (f : Rho → List D → RM D) : Prop := ∀ am0 Hf0 H0, PE X e (tM X.K X.mg T am0 Hf0 H0 W f)
def PDMA (X : Cx) (T : List (Addr × Str)) (W : WX) (es : List Expr) (f : Rho → List D → RM (List D)) : Prop := ∀ am0 Hf0 H0, PA X es (tMA X.K X.mg T am0 Hf0 H0 W f)
section
variable {K : PySem.W.Frag} {mg : Str → Option Value} {T : List (Addr × Str)} {am0 am : List Addr} {Hf0 H0 Hf H : Hp} {ρ : Rho} {M : List D} {σ : St} {W : WX} {α β : Type}
theorem PostM.mono {g1 g2 : α → List D → List Addr → Hp → Hp → Prop} {r : RM α} (h : PostM K mg T am0 Hf0 H0 ρ am Hf W σ g1 r) (i : ∀ a M' am' Hf' H', r = .ok a M' → Pre am am' → Sub Hf Hf' → RelM K mg T am0 Hf0 H0 ρ M' am' Hf' σ H' → g1 a M' am' Hf' H' → g2 a M' am' Hf' H') : PostM K mg T am0 Hf0 H0 ρ am Hf W σ g2 r := by
  cases r with
  | ok a M' => exact fun am' Hf' H' p s q => i a M' am' Hf' H' rfl p s q (h am' Hf' H' p s q)
  | exc e M' => exact h
  | stuck => exact h
theorem PostM.from {am1 : List Addr} {Hf1 : Hp} (p : Pre am am1) (s : Sub Hf Hf1) {g : α → List D → List Addr → Hp → Hp → Prop} {r : RM α} (h : PostM K mg T am0 Hf0 H0 ρ am Hf W σ g r) : PostM K mg T am0 Hf0 H0 ρ am1 Hf1 W σ g r := by
  cases r with
  | ok a M' => exact fun am' Hf' H' p' s' q => h am' Hf' H' (p.trans p') (s.trans s') q
  | exc e M' => exact fun cls dd am' Hf' H' p' s' q => h cls dd am' Hf' H' (p.trans p') (s.trans s') q
  | stuck => exact h
theorem PostM.bind {g : β → List D → List Addr → Hp → Hp → Prop} {r : RM α} {f : α → List D → RM β} (h : PostM K mg T am0 Hf0 H0 ρ am Hf W σ g (r.bind f)) :
    PostM K mg T am0 Hf0 H0 ρ am Hf W σ (fun a M' am' Hf' H' => PostM K mg T am0 Hf0 H0 ρ am' Hf' W σ g (f a M')) r := by
  cases r with
  | ok a M' => exact fun am' Hf' H' p s q => PostM.from (r := f a M') p s h
  | exc e M' => exact h
  | stuck => exact h
end
section
variable {X : Cx} {T : List (Addr × Str)} {Γ : List Bool} {W : WX} {e a b o : Expr} {es : List Expr} {pos p apos : Pos}
/-- an expression that reads the cells as frozen -/
def pureM (f : Rho → R D) : Rho → List D → RM D := fun ρ M => match f (envR M ρ) with
  | .ok d => if imm d = true then .ok d M else .stuck
  | .exc e => if imm.immL e.ds = true then .exc e M else .stuck
  | .stuck => .stuck
theorem rx_cut {K : PySem.W.Frag} {mg : Str → Option Value} {am : List Addr} {Hf' H' : Hp} {e : Exc} {cls : Value} {dd : Option Addr} (hm : ∀ a ∈ am, ∃ o, Hf' a = some o ∧ MutO o) (i : imm.immL e.ds = true) (h : RX K mg Hf' H' e cls dd) : RX K mg (cut am Hf') H' e cls dd := by
  obtain ⟨C, h1, h2, h3⟩ := h
  refine ⟨C, h1, h2, ?_⟩
  rcases h3 with h3 | ⟨h4, d, fvs, h5, h6, h7, h8⟩
  · exact .inl h3
  · exact .inr ⟨h4, d, fvs, h5, h6, h7, immL_cut hm i h8⟩
theorem pure_imp {f : Rho → R D} {am0 : List Addr} {Hf0 H0 : Hp} (hΓ : ∀ i : Nat, Γ[i]? ≠ some true) {σ : St} {H : Hp} {Q : VK} (h : tM X.K X.mg T am0 Hf0 H0 W (pureM f) σ H Q) : tD X.K X.mg T Γ W .v f σ H Q := by
  obtain ⟨Hf, ρ, M, am, r, p⟩ := h
  refine ⟨over am H Hf, envR M ρ, r.rel hΓ, ?_⟩
  unfold pureM at p
  cases q : f (envR M ρ) with
  | ok d =>
    rw [q] at p
    intro Hf' H' x v rk
    by_cases i : imm d = true
    · have p : PostM X.K X.mg T am0 Hf0 H0 ρ am Hf W σ (fun d _ am' Hf' H' => ∀ v, RepM X.K X.mg am' Hf' d v → Q v H') (if imm d = true then .ok d M else .stuck) := p
      rw [if_pos i] at p
      obtain ⟨r2, s2⟩ := r.step x
      exact p am _ H' (Pre.refl am) s2 r2 v (.inr (imm_cut (r.e.muts x) i rk))
    · have p : PostM X.K X.mg T am0 Hf0 H0 ρ am Hf W σ (fun d _ am' Hf' H' => ∀ v, RepM X.K X.mg am' Hf' d v → Q v H') (if imm d = true then .ok d M else .stuck) := p
      rw [if_neg i] at p
      exact p.elim
  | exc e =>
    rw [q] at p
    intro cls dd Hf' H' x rx
    by_cases i : imm.immL e.ds = true
    · have p : PostM X.K X.mg T am0 Hf0 H0 ρ am Hf W σ (fun d _ am' Hf' H' => ∀ v, RepM X.K X.mg am' Hf' d v → Q v H') (if imm.immL e.ds = true then .exc e M else .stuck) := p
      rw [if_pos i] at p
      obtain ⟨r2, s2⟩ := r.step x
      exact p cls dd am _ H' (Pre.refl am) s2 r2 (rx_cut (r.e.muts x) i rx) σ
    · have p : PostM X.K X.mg T am0 Hf0 H0 ρ am Hf W σ (fun d _ am' Hf' H' => ∀ v, RepM X.K X.mg am' Hf' d v → Q v H') (if imm.immL e.ds = true then .exc e M else .stuck) := p
      rw [if_neg i] at p
      exact p.elim
  | stuck => rw [q] at p; exact p.elim
theorem pdm_pure {f : Rho → R D} (hΓ : ∀ i : Nat, Γ[i]? ≠ some true) (h : PD X T Γ W .v e f) : PDM X T W e (pureM f) := fun am0 Hf0 H0 => PE.imp h fun σ H Q q => pure_imp hΓ q
def varM (i : Nat) : Rho → List D → RM D := fun ρ M => match ρ[i]? with
  | some (some d) => .ok d M
  | _ => .stuck
theorem pdm_var (i : Nat) {x : Str} (hN : X.N[i]? = some x) (hv : Vis X.env.scope x) (hd : (x == ("__debug__" : Str)) = false := by decide) (hcd : (x == ("__classdict__" : Str)) = false := by decide) : PDM X T W (.Name x pos) (varM i) := fun am0 Hf0 H0 =>
  PE.imp (pe_var hN hv hd hcd) fun σ H Q ⟨Hf, ρ, M, am, r, p⟩ => by
    unfold varM at p
    split at p
    · rename_i d q
      obtain ⟨v, h1, h2⟩ := r.slot i d q
      exact ⟨v, h1, p am Hf H (Pre.refl am) (fun b o h => ⟨h, (r.e.sub b o h).2⟩) r v h2⟩
    · exact p.elim
/-- a new object of one's own: a new cell -/
def immO : D → Bool
  | .lst ds => imm.immL ds
  | .dic _ ds => imm.immL ds
  | _ => false
def newM (f : Rho → R D) : Rho → List D → RM D := fun ρ M => match f (envR M ρ) with
  | .ok d => if immO d = true then .ok (.loc M.length) (M ++ [d]) else .stuck
  | _ => .stuck
theorem EndM.new {K : PySem.W.Frag} {mg : Str → Option Value} {am0 am : List Addr} {Hf0 H0 Hf H : Hp} {M : List D} {d : D} {a : Addr} {o : HO} (r : EndM K mg T am0 Hf0 H0 M am Hf H) (h1 : Hf a = none) (h2 : ¬ Old H0 a) (h3 : a ∉ am) (h4 : H a = some o) (h5 : RepMO K mg (am ++ [a]) Hf d o) : EndM K mg T am0 Hf0 H0 (M ++ [d]) (am ++ [a]) Hf H := by
  refine ⟨r.sub, r.tab, ⟨by simp [r.c.len], ?_, fun n b d' e1 e2 => ?_⟩, r.x, r.pre.trans (Pre.app am a)⟩
  · refine List.nodup_append.mpr ⟨r.c.nod, by simp, fun x hx y hy => ?_⟩
    rw [List.mem_singleton.mp hy]
    exact fun z => h3 (by rw [← z]; exact hx)
  · by_cases q : n < am.length
    · rw [List.getElem?_append_left q] at e1
      rw [List.getElem?_append_left (by rw [← r.c.len]; exact q)] at e2
      obtain ⟨k1, k2, o', k3, k4⟩ := r.c.cell n b d' e1 e2
      exact ⟨k1, k2, o', k3, RepMO.mono (Pre.app am a) (fun b o h => ⟨h, (r.sub b o h).2⟩) k4⟩
    · have e3 : n = am.length := by
        have := (List.getElem?_eq_some_iff.mp e1).1
        simp at this
        omega
      subst e3
      rw [List.getElem?_append_right (Nat.le_refl _), Nat.sub_self] at e1
      cases e1
      rw [show am.length = M.length from r.c.len, List.getElem?_append_right (Nat.le_refl _), Nat.sub_self] at e2
      cases e2
      exact ⟨h1, h2, o, h4, h5⟩
theorem pdm_new {f : Rho → R D} (hΓ : ∀ i : Nat, Γ[i]? ≠ some true) (h : PD X T Γ W .o e f) : PDM X T W e (newM f) := fun am0 Hf0 H0 => PE.imp h fun σ H Q ⟨Hf, ρ, M, am, r, p⟩ => by
  refine ⟨over am H Hf, envR M ρ, r.rel hΓ, ?_⟩
  unfold newM at p
  cases q : f (envR M ρ) with
  | ok d =>
    rw [q] at p
    intro Hf' H' x v ⟨a, o, ev, k1, k0, k2, k3⟩
    subst ev
    have p : PostM X.K X.mg T am0 Hf0 H0 ρ am Hf W σ (fun d _ am' Hf' H' => ∀ v, RepM X.K X.mg am' Hf' d v → Q v H') (if immO d = true then .ok (.loc M.length) (M ++ [d]) else .stuck) := p
    by_cases i : immO d = true
    · rw [if_pos i] at p
      obtain ⟨r2, s2⟩ := r.step x
      have na : a ∉ am := fun z => k0 (by
        obtain ⟨_, _, o', q1, q2⟩ := r.e.c.at z
        exact Old.of q1 q2)
      have hm := r.e.muts x
      have q5 : RepMO X.K X.mg (am ++ [a]) (cut am Hf') d o := by
        cases d with
        | lst ds => obtain ⟨vs, rfl, k4, k5⟩ := k3; exact ⟨vs, rfl, k4, RepML.of (immL_cut hm i k5)⟩
        | dic ks ds => obtain ⟨kvs, rfl, k4, k5⟩ := k3; exact ⟨kvs, rfl, k4, RepML.of (immL_cut hm i k5)⟩
        | _ => cases i
      have r3 := r2.e.new (a := a) (d := d) (by rw [cut_out na]; exact k1) (fun z => k0 (r.e.x.kp a z)) na k2 q5
      have last : (am ++ [a])[M.length]? = some a := by
        rw [← r.e.c.len, List.getElem?_append_right (Nat.le_refl _), Nat.sub_self]
        rfl
      exact p (am ++ [a]) _ H' (Pre.app am a) s2 ⟨r3, r2.len, fun i d e => by
        obtain ⟨v, g1, g2⟩ := r2.slot i d e
        exact ⟨v, g1, RepM.mono (Pre.app am a) (fun b o h => ⟨h, (r2.e.sub b o h).2⟩) g2⟩⟩ (.ref a) (.inl ⟨M.length, a, rfl, last, rfl⟩)
    · rw [if_neg i] at p
      exact p.elim
  | exc e => rw [q] at p; exact p.elim
  | stuck => rw [q] at p; exact p.elim
theorem lookF_okM {K : PySem.W.Frag} {mg : Str → Option Value} {am : List Addr} {H : Hp} {f : Str} {d : D} : ∀ {ds : List D} {fvs : List (Str × V)}, RepML K mg am H ds (fvs.map (·.2)) → lookF f (fvs.map (·.1)) ds = some d → ∃ v, fvs.lookup f = some v ∧ RepM K mg am H d v
  | [], fvs, _, e => by cases fvs <;> cases e
  | d0 :: ds, [], _, e => by cases e
  | d0 :: ds, (g, u) :: fvs, h, e => by
    obtain ⟨v, r, e1, h1, h2⟩ := h
    have e2 : u = v ∧ fvs.map (·.2) = r := by
      have : u :: fvs.map (·.2) = v :: r := e1
      exact ⟨(List.cons.inj this).1, (List.cons.inj this).2⟩
    have e : (if f = g then some d0 else lookF f (fvs.map (·.1)) ds) = some d := e
    by_cases q : f = g
    · rw [if_pos q] at e
      cases e
      exact ⟨u, by rw [List.lookup_cons, show (f == g) = true from beq_iff_eq.mpr q], by rw [e2.1]; exact h1⟩
    · rw [if_neg q] at e
      obtain ⟨w, h3, h4⟩ := lookF_okM (fvs := fvs) (by rw [e2.2]; exact h2) e
      exact ⟨w, by rw [List.lookup_cons, show (f == g) = false from beq_eq_false_iff_ne.mpr q]; exact h3, h4⟩
/-- the object in a cell -/
def cellO (C : Str) (M : List D) : D → Option (Nat × List Str × List D)
  | .loc n => match M[n]? with
    | some (.obj C' fs ds) => if C' = C then some (n, fs, ds) else none
    | _ => none
  | _ => none
theorem cellO_ok {K : PySem.W.Frag} {mg : Str → Option Value} {H0 : Hp} {M : List D} {am : List Addr} {Hf H : Hp} {C : Str} {d : D} {v : V} {n : Nat} {fs : List Str} {ds : List D} (c : Cells K mg H0 M am Hf H) (g : ClsG K mg C) (rv : RepM K mg am Hf d v) (e : cellO C M d = some (n, fs, ds)) :
    ∃ a dx fvs, d = .loc n ∧ am[n]? = some a ∧ v = .ref a ∧ M[n]? = some (.obj C fs ds) ∧ Hf a = none ∧ ¬ Old H0 a ∧ H a = some (.ins (He.ga K C) dx fvs) ∧ fvs.map (·.1) = fs ∧ RepML K mg am Hf ds (fvs.map (·.2)) := by
  unfold cellO at e
  split at e
  · rename_i n0
    split at e
    · rename_i C' fs' ds' q
      split at e
      · rename_i hC
        subst hC
        cases e
        rcases rv with ⟨n1, a, e1, e2, e3⟩ | h
        · cases e1
          obtain ⟨k1, k2, o, k3, Ca, dx, fvs, k4, rfl, k5, k6⟩ := c.cell n a _ e2 q
          have : Ca = He.ga K C' := by
            have := g.m
            rw [k4] at this
            cases this
            rfl
          subst this
          exact ⟨a, dx, fvs, rfl, e2, e3, q, k1, k2, k3, k5, k6⟩
        · exact h.elim
      · cases e
    · cases e
  · cases e
def fldM (C f : Str) (fa : Rho → List D → RM D) : Rho → List D → RM D := fun ρ M => (fa ρ M).bind fun d M1 => match cellO C M1 d with
  | some (_, fs, ds) => match lookF f fs ds with
    | some d' => .ok d' M1
    | none => .stuck
  | none => .stuck
theorem pdm_fld {C n : Str} {fa : Rho → List D → RM D} (ha : PDM X T W e fa) (g : ClsG X.K X.mg C) (gn : NoAttr X.K (He.ga X.K C) n) (hb : attributeBase e n X.env (eval e X.env) = eval e X.env := by rfl) : PDM X T W (.Attribute e n pos) (fldM C n fa) := fun am0 Hf0 H0 =>
  PE.imp (pe_fld (ha am0 Hf0 H0) hb) fun σ H Q ⟨Hf, ρ, M, am, r, p⟩ => ⟨Hf, ρ, M, am, r, PostM.mono (PostM.bind p) fun d M1 am1 Hf1 H1 e1 p1 s1 r1 z v rv => by
    split at z
    · rename_i k fs ds q
      split at z
      · rename_i d' q2
        obtain ⟨a, dx, fvs, h1, h2, h3, h4, h5, h6, h7, h8, h9⟩ := cellO_ok r1.e.c g rv q
        subst h8
        obtain ⟨u, h10, h11⟩ := lookF_okM h9 q2
        exact ⟨a, _, dx, fvs, u, h3, h7, g.c, gn, h10, z am1 Hf1 H1 (Pre.refl _) (fun b o h => ⟨h, (r1.e.sub b o h).2⟩) r1 u h11⟩
      · exact z.elim
    · exact z.elim⟩
/-! ### arguments -/
def nilM : Rho → List D → RM (List D) := fun _ M => .ok [] M
def consM (f : Rho → List D → RM D) (fs : Rho → List D → RM (List D)) : Rho → List D → RM (List D) := fun ρ M => (f ρ M).bind fun d M1 => (fs ρ M1).bind fun ds M2 => .ok (d :: ds) M2
theorem subR {K : PySem.W.Frag} {mg : Str → Option Value} {T : List (Addr × Str)} {am0 am : List Addr} {Hf0 H0 Hf H : Hp} {M : List D} (r : EndM K mg T am0 Hf0 H0 M am Hf H) : Sub Hf Hf := fun b o h => ⟨h, (r.sub b o h).2⟩
theorem pdma_nil : PDMA X T W [] nilM := fun am0 Hf0 H0 => PA.imp pa_nil fun σ H Q ⟨Hf, ρ, M, am, r, p⟩ => p am Hf H (Pre.refl am) (subR r.e) r [] rfl
theorem pdma_cons {f : Rho → List D → RM D} {fs : Rho → List D → RM (List D)} (ha : PDM X T W a f) (hs : PDMA X T W es fs) (hst : starEach (a :: es) X.env = (false, eval a X.env) :: starEach es X.env := by rfl) : PDMA X T W (a :: es) (consM f fs) := fun am0 Hf0 H0 =>
  PA.imp (pa_cons (ha am0 Hf0 H0) (hs am0 Hf0 H0) hst) fun σ H Q ⟨Hf, ρ, M, am, r, p⟩ => ⟨Hf, ρ, M, am, r, PostM.mono (PostM.bind p) fun d M1 am1 Hf1 H1 e1 p1 s1 r1 z v rv => ⟨Hf1, ρ, M1, am1, r1, PostM.mono (PostM.bind z) fun ds M2 am2 Hf2 H2 e2 p2 s2 r2 z2 vs rvs =>
    z2 am2 Hf2 H2 (Pre.refl am2) (subR r2.e) r2 (v :: vs) ⟨v, vs, rfl, RepM.mono p2 s2 rv, rvs⟩⟩⟩
/-! ### defs that change cells -/
def minus (am : List Addr) (H : Hp) : Hp := fun b => if b ∈ am then none else H b
def PostF (K : PySem.W.Frag) (mg : Str → Option Value) (T : List (Addr × Str)) (am : List Addr) (Hf H0 : Hp) (Q : VK) (E : XK) : RM D → Prop
  | .ok d M' => ∀ am' Hf' H' v, EndM K mg T am Hf H0 M' am' Hf' H' → RepM K mg am' Hf' d v → Q v H'
  | .exc e M' => ∀ cls dd am' Hf' H', EndM K mg T am Hf H0 M' am' Hf' H' → RX K mg Hf' H' e cls dd → E cls dd H'
  | .stuck => False
def spM (K : PySem.W.Frag) (mg : Str → Option Value) (T : List (Addr × Str)) (n : Nat) (F : List D → List D → RM D) : Sp := fun vs H Q E =>
  vs.length = n ∧ ∃ Hf H0 M am ds, EndM K mg T am Hf H0 M am Hf H ∧ RepML K mg am Hf ds vs ∧ PostF K mg T am Hf H0 Q E (F M ds)
abbrev FnM (P : Program) (w : World) (K : PySem.W.Frag) (mg : Str → Option Value) (base : Heap) (T : List (Addr × Str)) (lv : Nat) (f : Addr) (fd : FuncData) (ps : List Str) (F : List D → List D → RM D) : Prop :=
  FnOk P w K mg base (L2N.CX P w) lv f fd ps (spM K mg T ps.length F)
section
variable {K : PySem.W.Frag} {mg : Str → Option Value} {am0 am : List Addr} {Hf0 H0 Hf H : Hp} {M : List D} {ρ : Rho} {σ : St}
theorem minus_old {b : Addr} (h : Old (minus am H) b) : b ∉ am ∧ Old H b := by
  obtain ⟨o, e, n⟩ := h
  unfold minus at e
  split at e
  · cases e
  · rename_i q
    exact ⟨q, o, e, n⟩
theorem minus_of {b : Addr} (q : b ∉ am) (h : Old H b) : Old (minus am H) b := by
  obtain ⟨o, e, n⟩ := h
  exact ⟨o, by unfold minus; rw [if_neg q]; exact e, n⟩
/-- the entry of a def that is called -/
theorem EndM.enter (r : EndM K mg T am0 Hf0 H0 M am Hf H) : EndM K mg T am Hf (minus am H) M am Hf H := by
  refine ⟨r.sub, r.tab, ⟨r.c.len, r.c.nod, fun n a d e1 e2 => ?_⟩, ⟨subR r, r.sub, fun b o h _ => ?_, fun _ => r.tab, fun b _ h => h, fun b h => (minus_old h).2⟩, Pre.refl am⟩
  · obtain ⟨k1, k2, k3⟩ := r.c.cell n a d e1 e2
    exact ⟨k1, fun z => (minus_old z).1 (List.mem_of_getElem? e1), k3⟩
  · unfold minus at h
    split at h
    · cases h
    · exact h
/-- back from a def that was called -/
theorem EndM.back {am' : List Addr} {Hf' H' : Hp} {M' : List D} (r : EndM K mg T am0 Hf0 H0 M am Hf H) (t : EndM K mg T am Hf (minus am H) M' am' Hf' H') : EndM K mg T am0 Hf0 H0 M' am' Hf' H' := by
  have old : ∀ {b : Addr}, Old H0 b → b ∉ am ∧ Old H b := fun {b} h => ⟨fun z => (r.c.at z).2.1 h, r.x.kp b h⟩
  refine ⟨t.sub, t.tab, ⟨t.c.len, t.c.nod, fun n a d e1 e2 => ?_⟩, ⟨r.x.sub.trans t.x.sub, t.sub, fun b o h n => ?_, fun _ => t.tab, fun b h1 h2 => ?_, fun b h => ?_⟩, r.pre.trans t.pre⟩
  · obtain ⟨k1, k2, k3⟩ := t.c.cell n a d e1 e2
    exact ⟨k1, fun z => k2 (minus_of (old z).1 (old z).2), k3⟩
  · have hb : b ∉ am := (old ⟨o, h, n⟩).1
    have := r.x.ext b o h n
    exact t.x.ext b o (by unfold minus; rw [if_neg hb]; exact this) n
  · exact t.x.fr b (minus_of (old h1).1 (old h1).2) (r.x.fr b h1 h2)
  · exact t.x.kp b (minus_of (old h).1 (old h).2)
theorem RelM.back {am' : List Addr} {Hf' H' : Hp} {M' : List D} (r : RelM K mg T am0 Hf0 H0 ρ M am Hf σ H) (t : EndM K mg T am Hf (minus am H) M' am' Hf' H') : RelM K mg T am0 Hf0 H0 ρ M' am' Hf' σ H' :=
  ⟨r.e.back t, r.len, fun i d e => by
    obtain ⟨v, h1, h2⟩ := r.slot i d e
    exact ⟨v, h1, RepM.mono t.pre t.x.sub h2⟩⟩
/-- what the callee's end gives the caller -/
theorem PostF.of {Q : VK} {Fr : RM D} (r : RelM K mg T am0 Hf0 H0 ρ M am Hf σ H) (p : PostM K mg T am0 Hf0 H0 ρ am Hf W σ (fun d _ am' Hf' H' => ∀ v, RepM K mg am' Hf' d v → Q v H') Fr) : PostF K mg T am Hf (minus am H) Q (fun c d H2 => ∀ σ', W c d σ' H2) Fr := by
  cases Fr with
  | ok d M' => exact fun am' Hf' H' v t rv => p am' Hf' H' t.pre t.x.sub (r.back t) v rv
  | exc e M' => exact fun cls dd am' Hf' H' t rx => p cls dd am' Hf' H' t.pre t.x.sub (r.back t) rx
  | stuck => exact p
end
def methM (C m : Str) (F : List D → List D → RM D) (fo : Rho → List D → RM D) (fs : Rho → List D → RM (List D)) : Rho → List D → RM D := fun ρ M => (fo ρ M).bind fun d M1 => match cellO C M1 d with
  | some (_, gs, _) => if m ∈ gs then .stuck else (fs ρ M1).bind fun ds M2 => F M2 (d :: ds)
  | none => .stuck
theorem PostF.all {K : PySem.W.Frag} {mg : Str → Option Value} {am : List Addr} {Hf H0 : Hp} {Q : VK} {E E' : XK} {r : RM D} (h : PostF K mg T am Hf H0 Q E r) (i : ∀ c d H, E c d H → E' c d H) : PostF K mg T am Hf H0 Q E' r := by
  cases r with
  | ok d M' => exact h
  | exc e M' => exact fun cls dd am' Hf' H' t rx => i _ _ _ (h cls dd am' Hf' H' t rx)
  | stuck => exact h
theorem methM_imp {C m : Str} {n : Nat} {F : List D → List D → RM D} {fo : Rho → List D → RM D} {fs : Rho → List D → RM (List D)} (g : ClsG X.K X.mg C) (hl : ∀ ρ M ds M', fs ρ M = .ok ds M' → ds.length + 1 = n) {am0 : List Addr} {Hf0 H0 : Hp} {σ : St} {H : Hp} {Q : VK} (h : tM X.K X.mg T am0 Hf0 H0 W (methM C m F fo fs) σ H Q) :
    tMethA (He.ga X.K C) m (spM X.K X.mg T n F) (WE W) (tM X.K X.mg T am0 Hf0 H0 W fo) (tMA X.K X.mg T am0 Hf0 H0 W fs) σ H Q := by
  obtain ⟨Hf, ρ, M, am, r, p⟩ := h
  refine ⟨Hf, ρ, M, am, r, PostM.mono (PostM.bind p) fun d M1 am1 Hf1 H1 e1 p1 s1 r1 z v rv => ?_⟩
  split at z
  · rename_i k gs ds0 q
    by_cases hm : m ∈ gs
    · rw [if_pos hm] at z
      exact z.elim
    · rw [if_neg hm] at z
      obtain ⟨a, dx, fvs, rfl, h2, h3, h4, h5, h6, h7, h8, h9⟩ := cellO_ok r1.e.c g rv q
      subst h3
      subst h8
      refine ⟨a, dx, fvs, rfl, h7, lookup_none hm, Hf1, ρ, M1, am1, r1, PostM.mono (PostM.bind z) fun ds M2 am2 Hf2 H2 e2 p2 s2 r2 z2 vs rvs => ?_⟩
      have := rvs.length
      have := hl _ _ _ _ e2
      exact ⟨by simp only [List.length_cons]; omega, Hf2, _, M2, am2, .loc k :: ds, r2.e.enter, ⟨.ref a, vs, rfl, RepM.mono p2 s2 rv, rvs⟩, PostF.all (PostF.of r2 z2) fun c d H h => h σ⟩
  · exact z.elim
theorem pdm_meth {C m : Str} {lv : Nat} {fa : Addr} {fd : FuncData} {ps : List Str} {F : List D → List D → RM D} {fo : Rho → List D → RM D} {fs : Rho → List D → RM (List D)} {pl : Sem Bool} (G : FnM X.prog X.w X.K X.mg X.base T lv fa fd ps F) (hr : Room lv X.A) (c : ClsG X.K X.mg C) (hm : Meth X.K (He.ga X.K C) m fa) (hb : Binds X.K fd ps []) (tk : L2N.Takes X W) (ho : PDM X T W o fo) (ha : PDMA X T W (a :: es) fs) (hl : ∀ ρ M ds M', fs ρ M = .ok ds M' → ds.length + 1 = ps.length)
    (hst : starEach (a :: es) X.env = (false, eval a X.env) :: starEach es X.env := by rfl) (hpl : (backTo pos (starEach es X.env)).any (·.1) = false := by rfl)
    (ht : eval (.Call (.Attribute o m apos) (a :: es) [] pos) X.env = (do
      let ov ← eval o X.env
      standAt apos.atName
      let (fn, first) ← holding [ov] (getMethod ov m pl)
      callWith pos fn first (backTo pos (starEach (a :: es) X.env)) (backToKw pos (keywordEach [] X.env))) := by rfl) :
    PDM X T W (.Call (.Attribute o m apos) (a :: es) [] pos) (methM C m F fo fs) := fun am0 Hf0 H0 =>
  PE.imp (pe_methA (ho am0 Hf0 H0) c.c hm G hr hb (fun σ => L2N.passAt tk σ) (ha am0 Hf0 H0) hst hpl ht) fun σ H Q h => methM_imp c hl h
theorem pdm_meth0 {C m : Str} {lv : Nat} {fa : Addr} {fd : FuncData} {ps : List Str} {F : List D → List D → RM D} {fo : Rho → List D → RM D} {pl : Sem Bool} (G : FnM X.prog X.w X.K X.mg X.base T lv fa fd ps F) (hr : Room lv X.A) (c : ClsG X.K X.mg C) (hm : Meth X.K (He.ga X.K C) m fa) (hb : Binds X.K fd ps []) (tk : L2N.Takes X W) (ho : PDM X T W o fo) (hl : ps.length = 1)
    (ht : eval (.Call (.Attribute o m apos) [] [] pos) X.env = (do
      let ov ← eval o X.env
      standAt apos.atName
      let (fn, first) ← holding [ov] (getMethod ov m pl)
      callWith pos fn first (backTo pos (starEach [] X.env)) (backToKw pos (keywordEach [] X.env))) := by rfl) :
    PDM X T W (.Call (.Attribute o m apos) [] [] pos) (methM C m F fo nilM) := fun am0 Hf0 H0 =>
  PE.imp (pe_methA0 (ho am0 Hf0 H0) c.c hm G hr hb (fun σ => L2N.passAt tk σ) ht) fun σ H Q h => by
    obtain ⟨Hf, ρ, M, am, r, p⟩ := methM_imp (n := ps.length) (fs := nilM) c (fun ρ M ds M' e => by cases e; exact hl.symm) h
    refine ⟨Hf, ρ, M, am, r, PostM.mono p fun d M1 am1 Hf1 H1 e1 p1 s1 r1 z v rv => ?_⟩
    obtain ⟨q, dx, fs, h1, h2, h3, Hf2, ρ2, M2, am2, r2, p2⟩ := z v rv
    exact ⟨q, dx, fs, h1, h2, h3, p2 am2 Hf2 H1 (Pre.refl _) (subR r2.e) r2 [] rfl⟩
end
end BV
namespace BV
open PySem PySem.Spec PyProof.Rows L2
section
variable {X : Cx} {T : List (Addr × Str)} {Γ : List Bool} {W : WX} {e a b o : Expr} {es : List Expr} {pos p apos : Pos}
/-- values that lie in no cell, laid as seen over the cells -/
theorem RepML.over {K : PySem.W.Frag} {mg : Str → Option Value} {H0 : Hp} {M : List D} {am : List Addr} {Hf H : Hp} (c : Cells K mg H0 M am Hf H) (s : Sub Hf H) : ∀ {ds : List D} {vs : List V}, imm.immL ds = true → RepML K mg am Hf ds vs → RepL K mg (over am H Hf) ds vs
  | [], _, _, h => h
  | d :: ds, _, i, h => by
    obtain ⟨v, r, e, h1, h2⟩ := h
    have i : (imm d && imm.immL ds) = true := i
    rw [Bool.and_eq_true] at i
    refine ⟨v, r, e, ?_, RepML.over c s i.2 h2⟩
    rcases h1 with ⟨n, a, rfl, _⟩ | h1
    · cases i.1
    · exact Rep.sub (c.sub_over s) h1
/-- a tuple of values -/
def tupM (fs : Rho → List D → RM (List D)) : Rho → List D → RM D := fun ρ M => (fs ρ M).bind fun ds M1 => if imm.immL ds = true then .ok (.tup ds) M1 else .stuck
theorem ite_postM {K : PySem.W.Frag} {mg : Str → Option Value} {am0 : List Addr} {Hf0 H0 : Hp} {ρ : Rho} {am : List Addr} {Hf : Hp} {σ : St} {α : Type} {good : α → List D → List Addr → Hp → Hp → Prop} {c : Prop} [Decidable c] {r : RM α} (h : PostM K mg T am0 Hf0 H0 ρ am Hf W σ good (if c then r else .stuck)) : c ∧ PostM K mg T am0 Hf0 H0 ρ am Hf W σ good r := by
  by_cases q : c
  · rw [if_pos q] at h
    exact ⟨q, h⟩
  · rw [if_neg q] at h
    exact h.elim
theorem pdm_tup {fs : Rho → List D → RM (List D)} {x1} (h : PDMA X T W es fs) (hl : ∀ ρ M ds M', fs ρ M = .ok ds M' → ds.length ≤ sizeLine) : PDM X T W (.Tuple es x1 pos) (tupM fs) := fun am0 Hf0 H0 =>
  PE.imp (pe_tup (h am0 Hf0 H0)) fun σ H Q ⟨Hf, ρ, M, am, r, p⟩ => ⟨Hf, ρ, M, am, r, PostM.mono (PostM.bind p) fun ds M1 am1 Hf1 H1 e1 p1 s1 r1 z vs rvs => by
    obtain ⟨i, z⟩ := ite_postM z
    have l := hl _ _ _ _ e1
    refine ⟨by rw [rvs.length]; exact l, fun q hq => ?_⟩
    have so := r1.e.c.over_sub r1.e.sub
    have x : ExtF T (over am1 H1 Hf1) H1 (upd (over am1 H1 Hf1) q (.tup vs)) (upd H1 q (.tup vs)) := ExtF.newF so hq (fun ps z => nomatch z)
    obtain ⟨r2, s2⟩ := r1.step x
    have rp : Rep X.K X.mg (upd (over am1 H1 Hf1) q (.tup vs)) (.tup ds) (.ref q) := ⟨q, vs, rfl, SqT.of upd_same, l, RepL.sub x.sub (RepML.over r1.e.c r1.e.sub i rvs)⟩
    exact z am1 _ _ (Pre.refl _) s2 r2 (.ref q) (.inr (imm_cut (r1.e.muts x) (show imm (.tup ds) = true from i) rp))⟩
theorem nilM_len {n : Nat} : ∀ (ρ : Rho) (M : List D) ds M', nilM ρ M = .ok ds M' → ds.length ≤ n := fun ρ M ds M' e => by cases e; exact Nat.zero_le _
theorem consM_cases {f : Rho → List D → RM D} {fs : Rho → List D → RM (List D)} {ρ : Rho} {M : List D} {ds : List D} {M' : List D} (e : consM f fs ρ M = .ok ds M') : ∃ d es M1, fs ρ M1 = .ok es M' ∧ ds = d :: es := by
  unfold consM at e
  cases q : f ρ M with
  | ok d M1 =>
    rw [q] at e
    cases q2 : fs ρ M1 with
    | ok es M2 =>
      simp only [RM.bind, q2] at e
      cases e
      exact ⟨d, es, M1, q2, rfl⟩
    | exc x y => simp [RM.bind, q2] at e
    | stuck => simp [RM.bind, q2] at e
  | exc x y => rw [q] at e; cases e
  | stuck => rw [q] at e; cases e
theorem consM_len {n : Nat} {f : Rho → List D → RM D} {fs : Rho → List D → RM (List D)} (h : ∀ (ρ : Rho) (M : List D) ds M', fs ρ M = .ok ds M' → ds.length ≤ n) : ∀ (ρ : Rho) (M : List D) ds M', consM f fs ρ M = .ok ds M' → ds.length ≤ n + 1 := fun ρ M ds M' e => by
  obtain ⟨d, es, M1, h1, rfl⟩ := consM_cases e
  have := h _ _ _ _ h1
  simp
  omega
theorem lenM_ok {n m : Nat} {fs : Rho → List D → RM (List D)} (h : ∀ (ρ : Rho) (M : List D) ds M', fs ρ M = .ok ds M' → ds.length ≤ n) (l : n ≤ m) : ∀ (ρ : Rho) (M : List D) ds M', fs ρ M = .ok ds M' → ds.length ≤ m := fun ρ M ds M' e => Nat.le_trans (h ρ M ds M' e) l
theorem nilM_n : ∀ (ρ : Rho) (M : List D) ds M', nilM ρ M = .ok ds M' → ds.length = 0 := fun ρ M ds M' e => by cases e; rfl
theorem consM_n {n : Nat} {f : Rho → List D → RM D} {fs : Rho → List D → RM (List D)} (h : ∀ (ρ : Rho) (M : List D) ds M', fs ρ M = .ok ds M' → ds.length = n) : ∀ (ρ : Rho) (M : List D) ds M', consM f fs ρ M = .ok ds M' → ds.length = n + 1 := fun ρ M ds M' e => by
  obtain ⟨d, es, M1, h1, rfl⟩ := consM_cases e
  have := h _ _ _ _ h1
  simp
  omega
theorem pls_n {n : Nat} {fs : Rho → List D → RM (List D)} (h : ∀ (ρ : Rho) (M : List D) ds M', fs ρ M = .ok ds M' → ds.length = n) : ∀ (ρ : Rho) (M : List D) ds M', fs ρ M = .ok ds M' → ds.length + 1 = n + 1 := fun ρ M ds M' e => by rw [h ρ M ds M' e]
/-- what a def by values gives -/
def liftR (M : List D) : R D → RM D
  | .ok d => if imm d = true then .ok d M else .stuck
  | .exc e => if imm.immL e.ds = true then .exc e M else .stuck
  | .stuck => .stuck
def appM (F : List D → R D) (fs : Rho → List D → RM (List D)) : Rho → List D → RM D := fun ρ M => (fs ρ M).bind fun ds M1 => if imm.immL ds = true then liftR M1 (F ds) else .stuck
theorem lift_post {K : PySem.W.Frag} {mg : Str → Option Value} {am0 : List Addr} {Hf0 H0 : Hp} {ρ : Rho} {M : List D} {am : List Addr} {Hf H : Hp} {σ : St} {Q : VK} {r : R D} (q : RelM K mg T am0 Hf0 H0 ρ M am Hf σ H) (h : PostM K mg T am0 Hf0 H0 ρ am Hf W σ (fun d _ am' Hf' H' => ∀ v, RepM K mg am' Hf' d v → Q v H') (liftR M r)) :
    PostE K mg T (over am H Hf) H .v (fun c d _ H' => ∀ σ', W c d σ' H') [] Q r := by
  cases r with
  | ok d =>
    obtain ⟨i, h⟩ := ite_postM (show PostM K mg T am0 Hf0 H0 ρ am Hf W σ _ (if imm d = true then RM.ok d M else .stuck) from h)
    intro Hf' H' x v rk
    obtain ⟨r2, s2⟩ := q.step x
    exact h am _ H' (Pre.refl am) s2 r2 v (.inr (imm_cut (q.e.muts x) i rk))
  | exc e =>
    obtain ⟨i, h⟩ := ite_postM (show PostM K mg T am0 Hf0 H0 ρ am Hf W σ _ (if imm.immL e.ds = true then RM.exc e M else .stuck) from h)
    intro cls dd Hf' H' x rx
    obtain ⟨r2, s2⟩ := q.step x
    exact h cls dd am _ H' (Pre.refl am) s2 r2 (rx_cut (q.e.muts x) i rx)
  | stuck => exact h
theorem pdm_app {x : Str} {lv : Nat} {fa : Addr} {fd : FuncData} {ps : List Str} {F : List D → R D} {fs : Rho → List D → RM (List D)} (G : FnD X.prog X.w X.K X.mg X.base T lv fa fd ps .v F) (hr : Room lv X.A) (hg : Gl X x) (hm : X.mg x = some (.ref fa))
    (hk : PySem.W.keepIn X.K (.ref fa) = true) (hb : Binds X.K fd ps []) (tk : L2N.Takes X W) (ha : PDMA X T W (a :: es) fs) (hl : ∀ ρ M ds M', fs ρ M = .ok ds M' → ds.length = ps.length) (hdb : (x == ("__debug__" : Str)) = false := by decide)
    (he : starEach (a :: es) X.env = (false, eval a X.env) :: starEach es X.env := by rfl) (hpl : (backTo pos (starEach es X.env)).any (·.1) = false := by rfl) : PDM X T W (.Call (.Name x p) (a :: es) [] pos) (appM F fs) := fun am0 Hf0 H0 =>
  PE.imp (pe_callS G hr hg hm hk hb (fun σ => L2N.passAt tk σ) (ha am0 Hf0 H0) hdb he hpl) fun σ H Q ⟨Hf, ρ, M, am, r, q⟩ => ⟨Hf, ρ, M, am, r, PostM.mono (PostM.bind q) fun ds M1 am1 Hf1 H1 e1 p1 s1 r1 z vs rvs => by
    obtain ⟨i, z⟩ := ite_postM z
    refine ⟨by rw [rvs.length]; exact hl _ _ _ _ e1, over am1 H1 Hf1, ds, r1.e.c.over_sub r1.e.sub, r1.e.tab, RepML.over r1.e.c r1.e.sub i rvs, PostG.sig (lift_post r1 z) fun c d H h => h σ⟩⟩
/-- an operator -/
def opM (g : D → D → Option D) (fa fb : Rho → List D → RM D) : Rho → List D → RM D := fun ρ M => (fa ρ M).bind fun a M1 => (fb ρ M1).bind fun b M2 => if (imm a && imm b) = true then liftR M2 (R.of (g a b)) else .stuck
theorem pdm_op {r : R2} {g : D → D → Option D} {fa fb : Rho → List D → RM D} (h : ∀ {ta tb : TE}, PE X a ta → PE X b tb → PE X e (tOp r ta tb)) (hg : OpD X T g .v r) (ha : PDM X T W a fa) (hb : PDM X T W b fb) : PDM X T W e (opM g fa fb) := fun am0 Hf0 H0 =>
  PE.imp (h (ha am0 Hf0 H0) (hb am0 Hf0 H0)) fun σ H Q ⟨Hf, ρ, M, am, q, p⟩ => ⟨Hf, ρ, M, am, q, PostM.mono (PostM.bind p) fun d M1 am1 Hf1 H1 e1 p1 s1 r1 z v rv => ⟨Hf1, ρ, M1, am1, r1, PostM.mono (PostM.bind z) fun d2 M2 am2 Hf2 H2 e2 p2 s2 r2 z2 v2 rv2 => by
    obtain ⟨i, z2⟩ := ite_postM z2
    rw [Bool.and_eq_true] at i
    have c1 : ∀ {d : D} {v : V}, imm d = true → RepM X.K X.mg am2 Hf2 d v → RK X.K X.mg .b (over am2 H2 Hf2) H2 H2 d v := fun {d v} i h => by
      rcases h with ⟨n, a, rfl, _⟩ | h
      · cases i
      · exact .inl (Rep.sub (r2.e.c.sub_over r2.e.sub) h)
    cases q : g d d2 with
    | none => rw [q] at z2; exact z2.elim
    | some d3 =>
      rw [q] at z2
      exact hg (over am2 H2 Hf2) H2 v v2 d d2 d3 Q (r2.e.c.over_sub r2.e.sub) (c1 i.1 (RepM.mono p2 s2 rv)) (c1 i.2 rv2) q fun v3 Hf3 H3 x3 rk3 => lift_post (r := .ok d3) r2 z2 Hf3 H3 x3 v3 rk3⟩⟩
/-- a new object of an own class -/
def makeM (C : Str) (F : List D → List D → RM D) (fs : Rho → List D → RM (List D)) : Rho → List D → RM D := fun ρ M => (fs ρ M).bind fun ds M1 => (F (M1 ++ [.obj C [] []]) (.loc M1.length :: ds)).bind fun d M2 => match d with
  | .non => .ok (.loc M1.length) M2
  | _ => .stuck
theorem pdm_make {C : Str} {lv : Nat} {fa : Addr} {fd : FuncData} {ps : List Str} {F : List D → List D → RM D} {fs : Rho → List D → RM (List D)} (G : FnM X.prog X.w X.K X.mg X.base T lv fa fd ps F) (hr : Room (lv + 1) X.A) (c : ClsG X.K X.mg C) (mk : Mk X.K (He.ga X.K C) fa) (hg : Gl X C) (hb : Binds X.K fd ps []) (tk : L2N.Takes X W) (ha : PDMA X T W (a :: es) fs) (hl : ∀ ρ M ds M', fs ρ M = .ok ds M' → ds.length + 1 = ps.length)
    (hdb : (C == ("__debug__" : Str)) = false := by decide) (he : starEach (a :: es) X.env = (false, eval a X.env) :: starEach es X.env := by rfl) (hpl : (backTo pos (starEach es X.env)).any (·.1) = false := by rfl) :
    PDM X T W (.Call (.Name C p) (a :: es) [] pos) (makeM C F fs) := fun am0 Hf0 H0 =>
  PE.imp (pe_make (E := fun c d H => ∀ σ', W c d σ' H) mk G hr hg c.m hb .nil (L2N.passes_call tk fun c d σ H h => h σ) (ha am0 Hf0 H0) hdb he hpl) fun σ H Q ⟨Hf, ρ, M, am, r, q⟩ => ⟨Hf, ρ, M, am, r, PostM.mono (PostM.bind q) fun ds M1 am1 Hf1 H1 e1 p1 s1 r1 z vs rvs x dx hx hdx hne => by
    have z := PostM.bind z
    have nx : x ∉ am1 := fun h => by
      obtain ⟨_, _, o, q1, _⟩ := r1.e.c.at h
      rw [hx] at q1
      cases q1
    -- the heap with the new instance
    have so := r1.e.c.over_sub r1.e.sub
    have xa : ExtF T (over am1 H1 Hf1) H1 (over am1 H1 Hf1) (upd H1 dx (.own x)) := ExtF.new so hdx
    have hx2 : upd H1 dx (.own x) x = none := by rw [upd_ne (Ne.symm hne)]; exact hx
    have xb : ExtF T (over am1 H1 Hf1) (upd H1 dx (.own x)) (over am1 H1 Hf1) (upd (upd H1 dx (.own x)) x (.ins (He.ga X.K C) dx [])) := ExtF.new xa.inn hx2
    obtain ⟨r2, s2⟩ := r1.step (xa.trans xb)
    have hox : over am1 H1 Hf1 x = none := by rw [over_out nx]; exact r1.e.sub.none hx
    have r3 := r2.e.new (a := x) (d := .obj C [] []) (by rw [cut_out nx]; exact hox) (fun z => Old.not hx (r1.e.x.kp x z)) nx upd_same ⟨_, dx, [], c.m, rfl, rfl, rfl⟩
    have pr := Pre.app am1 x
    have last : (am1 ++ [x])[M1.length]? = some x := by
      rw [← r1.e.c.len, List.getElem?_append_right (Nat.le_refl _), Nat.sub_self]
      rfl
    have r4 : RelM X.K X.mg T am0 Hf0 H0 ρ (M1 ++ [.obj C [] []]) (am1 ++ [x]) (cut am1 (over am1 H1 Hf1)) σ (upd (upd H1 dx (.own x)) x (.ins (He.ga X.K C) dx [])) := ⟨r3, r2.len, fun i d e => by
      obtain ⟨v, g1, g2⟩ := r2.slot i d e
      exact ⟨v, g1, RepM.mono pr (subR r2.e) g2⟩⟩
    have := rvs.length
    have := hl _ _ _ _ e1
    rw [List.append_nil]
    refine ⟨by simp only [List.length_cons]; omega, _, _, _, _, .loc M1.length :: ds, r4.e.enter, ⟨.ref x, vs, rfl, .inl ⟨_, x, rfl, last, rfl⟩, RepML.mono pr s2 rvs⟩, ?_⟩
    cases q : F (M1 ++ [.obj C [] []]) (.loc M1.length :: ds) with
    | ok d M' =>
      rw [q] at z
      intro am' Hf' H' v t rv
      have z := z am' Hf' H' (pr.trans t.pre) (s2.trans t.x.sub) (r4.back t)
      cases d with
      | non =>
        refine ⟨?_, z am' Hf' H' (Pre.refl _) (subR t) (r4.back t) (.ref x) (.inl ⟨_, x, rfl, t.pre _ _ last, rfl⟩)⟩
        rcases rv with ⟨n, a, e, _⟩ | rv
        · cases e
        · exact rv
      | _ => exact z.elim
    | exc e M' =>
      rw [q] at z
      exact fun cls dd am' Hf' H' t rx => z cls dd am' Hf' H' (pr.trans t.pre) (s2.trans t.x.sub) (r4.back t) rx
    | stuck => rw [q] at z; exact z.elim⟩
end
end BV
namespace BV
open PySem PySem.Spec PyProof.Rows L2
/-! ### statements over cells -/
inductive RSM where
  | nx (ρ : Rho) (M : List D)
  | bk (ρ : Rho) (M : List D)
  | ct (ρ : Rho) (M : List D)
  | rt (d : D) (M : List D)
  | exc (e : Exc) (M : List D)
  | stuck
@[simp] def RSM.bind {α : Type} : RM α → (α → List D → RSM) → RSM
  | .ok a M, f => f a M
  | .exc e M, _ => .exc e M
  | .stuck, _ => .stuck
section
variable (K : PySem.W.Frag) (mg : Str → Option Value)
def PostSM (B : Fx) (am0 : List Addr) (Hf0 H0 : Hp) (De : Ends) : RSM → Prop
  | .nx ρ' M' => ∀ am' Hf' σ' H', RelM K mg B.T am0 Hf0 H0 ρ' M' am' Hf' σ' H' → De.nx σ' H'
  | .bk ρ' M' => ∀ am' Hf' σ' H', RelM K mg B.T am0 Hf0 H0 ρ' M' am' Hf' σ' H' → De.bk σ' H'
  | .ct ρ' M' => ∀ am' Hf' σ' H', RelM K mg B.T am0 Hf0 H0 ρ' M' am' Hf' σ' H' → De.ct σ' H'
  | .rt d M' => (B.kr = .v → ∀ v Hf' H', ExtF B.T Hf0 H0 Hf' H' → Rep K mg Hf' d v → De.rt v H') ∧ (B.kr ≠ .v → ∀ v am' Hf' H', EndM K mg B.T am0 Hf0 H0 M' am' Hf' H' → RepM K mg am' Hf' d v → De.rt v H')
  | .exc e M' => ∀ cls dd am' Hf' σ' H', EndM K mg B.T am0 Hf0 H0 M' am' Hf' H' → RX K mg Hf' H' e cls dd → B.W cls dd σ' H'
  | .stuck => False
def tSM (B : Fx) (am0 : List Addr) (Hf0 H0 : Hp) (F : Rho → List D → RSM) : TS := fun De σ H => ∃ Hf ρ M am, RelM K mg B.T am0 Hf0 H0 ρ M am Hf σ H ∧ PostSM K mg B am0 Hf0 H0 De (F ρ M)
end
def PDSM (X : Cx) (B : Fx) (st : Stmt) (F : Rho → List D → RSM) : Prop := ∀ am0 Hf0 H0, PS X st (tSM X.K X.mg B am0 Hf0 H0 F)
def PDSMs (X : Cx) (B : Fx) (st : List Stmt) (F : Rho → List D → RSM) : Prop := ∀ am0 Hf0 H0, PSs X st (tSM X.K X.mg B am0 Hf0 H0 F)
section
variable {K : PySem.W.Frag} {mg : Str → Option Value} {B : Fx} {am0 am : List Addr} {Hf0 H0 Hf H : Hp} {ρ : Rho} {M : List D} {σ : St} {De : Ends}
/-- an expression ahead of the rest of a statement -/
theorem PostSM.bind {α : Type} {r : RM α} {g : α → List D → RSM} (h : PostSM K mg B am0 Hf0 H0 De (RSM.bind r g)) :
    PostM K mg B.T am0 Hf0 H0 ρ am Hf B.W σ (fun a M' _ _ _ => PostSM K mg B am0 Hf0 H0 De (g a M')) r := by
  cases r with
  | ok a M' => exact fun _ _ _ _ _ _ => h
  | exc e M' => exact fun cls dd am' Hf' H' _ _ q rx σ' => h cls dd am' Hf' σ' H' q.e rx
  | stuck => exact h
theorem RelM.setv (r : RelM K mg B.T am0 Hf0 H0 ρ M am Hf σ H) (i : Nat) {d : D} {v : V} (h : RepM K mg am Hf d v) : RelM K mg B.T am0 Hf0 H0 (ρ.set i (some d)) M am Hf (σ.set i (some v)) H :=
  ⟨r.e, by simp [r.len], fun j d' e => by
    rw [get_set] at e ⊢
    by_cases q : i = j
    · rw [if_pos q] at e ⊢
      by_cases l : i < ρ.length
      · rw [if_pos l] at e
        rw [if_pos (by rw [← r.len]; exact l)]
        cases e
        exact ⟨v, rfl, h⟩
      · rw [if_neg l] at e
        cases e
    · rw [if_neg q] at e ⊢
      exact r.slot j d' e⟩
/-- a cell is written -/
theorem EndM.write {T : List (Addr × Str)} (r : EndM K mg T am0 Hf0 H0 M am Hf H) {n : Nat} {a : Addr} {d d' : D} {o' : HO} (h1 : am[n]? = some a) (h2 : M[n]? = some d) (h3 : RepMO K mg am Hf d' o') : EndM K mg T am0 Hf0 H0 (M.set n d') am Hf (upd H a o') := by
  obtain ⟨k1, k2, o, k3, k4⟩ := r.c.cell n a d h1 h2
  have nt : ∀ {b : Addr} {ps}, H b = some (.tbl ps) → b ≠ a := fun {b ps} q z => by rw [z, k3] at q; exact k4.mut.ntbl ps (Option.some.inj q)
  have n0 : ∀ b, Old H0 b → b ≠ a := fun b q z => k2 (by rw [← z]; exact q)
  have sub' : Sub Hf (upd H a o') := fun b u q => ⟨by rw [upd_ne (fun z => by rw [z, k1] at q; cases q)]; exact (r.sub b u q).1, (r.sub b u q).2⟩
  have tabs : LamX.Tabs T H → LamX.Tabs T (upd H a o') := fun tb pp hp => by
    obtain ⟨ps, a1, a2, a3⟩ := tb pp hp
    refine ⟨ps, by rw [upd_ne (nt a1)]; exact a1, a2, fun pos' cv hcv => ?_⟩
    obtain ⟨c0, e1, e2⟩ := a3 pos' cv hcv
    refine ⟨c0, e1, ?_⟩
    rw [upd_ne (fun z => by
      rw [z, k3] at e2
      have e3 := Option.some.inj e2
      have m := k4.mut
      rw [e3] at m
      unfold LamX.CodeO at m
      cases m)]
    exact e2
  refine ⟨sub', tabs r.tab, ⟨by simp [r.c.len], r.c.nod, fun m b e q1 q2 => ?_⟩, ⟨r.x.sub, sub', fun b u q n => ?_, fun t => tabs (r.x.tab t), r.x.fr, fun b q => ?_⟩, r.pre⟩
  · rw [get_set] at q2
    by_cases q : n = m
    · subst q
      rw [h1] at q1
      cases q1
      rw [if_pos rfl, if_pos (List.getElem?_eq_some_iff.mp h2).1] at q2
      cases q2
      exact ⟨k1, k2, o', upd_same, h3⟩
    · rw [if_neg q] at q2
      obtain ⟨g1, g2, ob, g3, g4⟩ := r.c.cell m b e q1 q2
      have hba : b ≠ a := fun z => by
        subst z
        have l1 := (List.getElem?_eq_some_iff.mp h1)
        have l2 := (List.getElem?_eq_some_iff.mp q1)
        exact q ((List.getElem_inj r.c.nod).mp (l1.2.trans l2.2.symm))
      exact ⟨g1, g2, ob, by rw [upd_ne hba]; exact g3, g4⟩
  · rw [upd_ne (n0 b ⟨u, q, n⟩)]
    exact r.x.ext b u q n
  · obtain ⟨o2, q3, q4⟩ := r.x.kp b q
    exact ⟨o2, by rw [upd_ne (n0 b q)]; exact q3, q4⟩
theorem RelM.write (r : RelM K mg B.T am0 Hf0 H0 ρ M am Hf σ H) {n : Nat} {a : Addr} {d d' : D} {o' : HO} (h1 : am[n]? = some a) (h2 : M[n]? = some d) (h3 : RepMO K mg am Hf d' o') : RelM K mg B.T am0 Hf0 H0 ρ (M.set n d') am Hf σ (upd H a o') := ⟨r.e.write h1 h2 h3, r.len, r.slot⟩
/-- seen from here on, and back -/
theorem RelM.re {T : List (Addr × Str)} (r : RelM K mg T am0 Hf0 H0 ρ M am Hf σ H) : RelM K mg T am Hf H0 ρ M am Hf σ H :=
  ⟨⟨r.e.sub, r.e.tab, r.e.c, ⟨subR r.e, r.e.sub, r.e.x.ext, r.e.x.tab, fun _ _ h => h, r.e.x.kp⟩, Pre.refl am⟩, r.len, r.slot⟩
theorem EndM.un {T : List (Addr × Str)} {am1 : List Addr} {Hf1 H1 : Hp} (r : EndM K mg T am1 Hf1 H0 M am Hf H) (x : ExtF T Hf0 H0 Hf1 H1) (p : Pre am0 am1) : EndM K mg T am0 Hf0 H0 M am Hf H := ⟨r.sub, r.tab, r.c, ExtF.back x r.x, p.trans r.pre⟩
theorem RelM.un {T : List (Addr × Str)} {am1 : List Addr} {Hf1 H1 : Hp} (r : RelM K mg T am1 Hf1 H0 ρ M am Hf σ H) (x : ExtF T Hf0 H0 Hf1 H1) (p : Pre am0 am1) : RelM K mg T am0 Hf0 H0 ρ M am Hf σ H := ⟨r.e.un x p, r.len, r.slot⟩
theorem PostSM.un {am1 : List Addr} {Hf1 H1 : Hp} (x : ExtF B.T Hf0 H0 Hf1 H1) (p : Pre am0 am1) {r : RSM} (h : PostSM K mg B am0 Hf0 H0 De r) : PostSM K mg B am1 Hf1 H0 De r := by
  cases r with
  | nx ρ' M' => exact fun am' Hf' σ' H' q => h am' Hf' σ' H' (q.un x p)
  | bk ρ' M' => exact fun am' Hf' σ' H' q => h am' Hf' σ' H' (q.un x p)
  | ct ρ' M' => exact fun am' Hf' σ' H' q => h am' Hf' σ' H' (q.un x p)
  | rt d M' => exact ⟨fun k v Hf' H' q => h.1 k v Hf' H' (ExtF.back x q), fun k v am' Hf' H' q => h.2 k v am' Hf' H' (q.un x p)⟩
  | exc e M' => exact fun cls dd am' Hf' σ' H' q => h cls dd am' Hf' σ' H' (q.un x p)
  | stuck => exact h
end
section
variable {X : Cx} {B : Fx} {st : Stmt} {rest : List Stmt} {e a b o : Expr} {f : Rho → List D → RM D} {F G : Rho → List D → RSM} {pos : Pos}
def nxM : Rho → List D → RSM := .nx
def seqM (F G : Rho → List D → RSM) : Rho → List D → RSM := fun ρ M => match F ρ M with
  | .nx ρ' M' => G ρ' M'
  | r => r
theorem pdsms_nil : PDSMs X B [] nxM := fun am0 Hf0 H0 => PSs.imp pss_nil fun De σ H ⟨Hf, ρ, M, am, r, p⟩ => p am Hf σ H r
theorem pdsms_cons (h1 : PDSM X B st F) (h2 : PDSMs X B rest G) : PDSMs X B (st :: rest) (seqM F G) := fun am0 Hf0 H0 =>
  PSs.imp (pss_cons (h1 am0 Hf0 H0) (h2 am0 Hf0 H0)) fun De σ H ⟨Hf, ρ, M, am, r, p⟩ => ⟨Hf, ρ, M, am, r, by
    unfold seqM at p
    cases q : F ρ M with
    | nx ρ' M' => rw [q] at p; exact fun am' Hf' σ' H' r' => ⟨Hf', ρ', M', am', r', p⟩
    | bk ρ' M' => rw [q] at p; exact p
    | ct ρ' M' => rw [q] at p; exact p
    | rt d M' => rw [q] at p; exact p
    | exc e M' => rw [q] at p; exact p
    | stuck => rw [q] at p; exact p⟩
theorem pdsms_one (h1 : PDSM X B st F) : PDSMs X B [st] F := fun am0 Hf0 H0 => pss_one (h1 am0 Hf0 H0)
theorem pdsms_stuck {body : List Stmt} : PDSMs X B body (fun _ _ => .stuck) := fun am0 Hf0 H0 => ⟨fun pins s σ H De I ⟨_, _, _, _, _, q⟩ => q.elim⟩
theorem pdsm_pass : PDSM X B (.Pass pos) nxM := fun am0 Hf0 H0 => PS.imp ps_pass fun De σ H ⟨Hf, ρ, M, am, r, p⟩ => p am Hf σ H r
def setM (i : Nat) (f : Rho → List D → RM D) : Rho → List D → RSM := fun ρ M => RSM.bind (f ρ M) fun d M1 => .nx (ρ.set i (some d)) M1
theorem pdsm_set {i : Nat} {x : Str} {pos' : Pos} (hN : X.N.Nodup) (hi : X.N[i]? = some x) (hx : Loc X.env.scope x) (he : PDM X B.T B.W e f) (hf : X.fn x = true ∨ X.env.scope.names.lookup x = some .local) (hs : swapsWith e (some (.Name x pos')) pos.line X.env = pure false := by rfl) :
    PDSM X B (.Assign [.Name x pos'] e pos) (setM i f) := fun am0 Hf0 H0 =>
  PS.imp (ps_set hN hi hx (he am0 Hf0 H0) hs hf) fun De σ H ⟨Hf, ρ, M, am, r, p⟩ => ⟨Hf, ρ, M, am, r, PostM.mono (PostSM.bind p) fun d M1 am1 Hf1 H1 e1 p1 s1 r1 z v rv => z am1 Hf1 _ H1 (r1.setv i rv)⟩
def drpM (f : Rho → List D → RM D) : Rho → List D → RSM := fun ρ M => RSM.bind (f ρ M) fun _ M1 => .nx ρ M1
theorem pdsm_expr (he : PDM X B.T B.W e f) (hs : swapsWith e none pos.line X.env = pure false := by rfl) : PDSM X B (.Expr e pos) (drpM f) := fun am0 Hf0 H0 =>
  PS.imp (ps_expr (he am0 Hf0 H0) hs) fun De σ H ⟨Hf, ρ, M, am, r, p⟩ => ⟨Hf, ρ, M, am, r, PostM.mono (PostSM.bind p) fun d M1 am1 Hf1 H1 e1 p1 s1 r1 z v rv => z am1 Hf1 σ H1 r1⟩
def retM (f : Rho → List D → RM D) : Rho → List D → RSM := fun ρ M => RSM.bind (f ρ M) .rt
theorem pdsm_ret (hk : B.kr ≠ .v) (he : PDM X B.T B.W e f) : PDSM X B (.Return (some e) pos) (retM f) := fun am0 Hf0 H0 =>
  PS.imp (ps_ret (he am0 Hf0 H0)) fun De σ H ⟨Hf, ρ, M, am, r, p⟩ => ⟨Hf, ρ, M, am, r, PostM.mono (PostSM.bind p) fun d M1 am1 Hf1 H1 e1 p1 s1 r1 z v rv => z.2 hk v am1 Hf1 H1 r1.e rv⟩
/-- what is returned is frozen, with all cells -/
def retX (f : Rho → List D → RM D) : Rho → List D → RSM := fun ρ M => RSM.bind (f ρ M) fun d M1 => match resD M1 3 d with
  | some d' => .rt d' M1
  | none => .stuck
theorem pdsm_retX (hk : B.kr = .v) (he : PDM X B.T B.W e f) : PDSM X B (.Return (some e) pos) (retX f) := fun am0 Hf0 H0 =>
  PS.imp (ps_ret (he am0 Hf0 H0)) fun De σ H ⟨Hf, ρ, M, am, r, p⟩ => ⟨Hf, ρ, M, am, r, PostM.mono (PostSM.bind p) fun d M1 am1 Hf1 H1 e1 p1 s1 r1 z v rv => by
    split at z
    · rename_i d' q
      exact z.1 hk v _ H1 r1.e.frozen (res_ok r1.e.c r1.e.sub 3 rv q)
    · exact z.elim⟩
def retXT (fs : Rho → List D → RM (List D)) : Rho → List D → RSM := fun ρ M => RSM.bind (fs ρ M) fun ds M1 => match trav (resD M1 3) ds with
  | some ds' => .rt (.tup ds') M1
  | none => .stuck
theorem trav_ok {K : PySem.W.Frag} {mg : Str → Option Value} {H0 : Hp} {M : List D} {am : List Addr} {Hf H : Hp} (c : Cells K mg H0 M am Hf H) (s : Sub Hf H) : ∀ {ds es : List D} {vs : List V}, RepML K mg am Hf ds vs → trav (resD M 3) ds = some es → RepL K mg (over am H Hf) es vs
  | [], es, vs, h, e => by cases e; exact h
  | d :: ds, es, vs, h, e => by
    obtain ⟨v, r, rfl, h1, h2⟩ := h
    unfold trav at e
    cases q : resD M 3 d with
    | none => rw [q] at e; cases e
    | some a =>
      rw [q] at e
      cases q2 : trav (resD M 3) ds with
      | none => rw [q2] at e; cases e
      | some es' =>
        rw [q2] at e
        cases e
        exact ⟨v, r, rfl, res_ok c s 3 h1 q, trav_ok c s h2 q2⟩
theorem pdsm_retXT {es : List Expr} {fs : Rho → List D → RM (List D)} {x1} {p' : Pos} (hk : B.kr = .v) (h : PDMA X B.T B.W es fs) (hl : ∀ ρ M ds M', fs ρ M = .ok ds M' → ds.length ≤ sizeLine) : PDSM X B (.Return (some (.Tuple es x1 p')) pos) (retXT fs) := fun am0 Hf0 H0 =>
  PS.imp (ps_ret (pe_tup (h am0 Hf0 H0))) fun De σ H ⟨Hf, ρ, M, am, r, p⟩ => ⟨Hf, ρ, M, am, r, PostM.mono (PostSM.bind p) fun ds M1 am1 Hf1 H1 e1 p1 s1 r1 z vs rvs => by
    split at z
    · rename_i ds' q
      have l := hl _ _ _ _ e1
      refine ⟨by rw [rvs.length]; exact l, fun t ht => ?_⟩
      have x : ExtF B.T (over am1 H1 Hf1) H1 (upd (over am1 H1 Hf1) t (.tup vs)) (upd H1 t (.tup vs)) := ExtF.newF (r1.e.c.over_sub r1.e.sub) ht (fun ps z => nomatch z)
      exact z.1 hk _ _ _ (r1.e.frozen.trans x) ⟨t, vs, rfl, SqT.of upd_same, by rw [trav_len q]; exact l, RepL.sub x.sub (trav_ok r1.e.c r1.e.sub rvs q)⟩
    · exact z.elim⟩
/-! ### tests -/
def tstM (c : Rho → R Bool) : Rho → List D → RM Bool := fun ρ M => match c (envR M ρ) with
  | .ok b => .ok b M
  | .exc e => if imm.immL e.ds = true then .exc e M else .stuck
  | .stuck => .stuck
def PDTM (X : Cx) (T : List (Addr × Str)) (W : WX) (e : Expr) (c : Rho → List D → RM Bool) : Prop := ∀ am0 Hf0 H0, PT X e (fun σ H Q => ∃ Hf ρ M am, RelM X.K X.mg T am0 Hf0 H0 ρ M am Hf σ H ∧ PostM X.K X.mg T am0 Hf0 H0 ρ am Hf W σ (fun b _ _ _ H' => Q b H') (c ρ M))
theorem pdtm_pure {T : List (Addr × Str)} {W : WX} {Γ : List Bool} {c : Rho → R Bool} (hΓ : ∀ i : Nat, Γ[i]? ≠ some true) (h : PDT X T Γ W e c) : PDTM X T W e (tstM c) := fun am0 Hf0 H0 => PT.imp h fun σ H Q ⟨Hf, ρ, M, am, r, p⟩ => by
  refine ⟨over am H Hf, envR M ρ, r.rel hΓ, ?_⟩
  unfold tstM at p
  cases q : c (envR M ρ) with
  | ok d =>
    rw [q] at p
    intro Hf' H' x
    obtain ⟨r2, s2⟩ := r.step x
    exact p am _ H' (Pre.refl am) s2 r2
  | exc e =>
    rw [q] at p
    intro cls dd Hf' H' x rx
    obtain ⟨i, p⟩ := ite_postM (show PostM X.K X.mg T am0 Hf0 H0 ρ am Hf W σ (fun b _ _ _ H' => Q b H') (if imm.immL e.ds = true then RM.exc e M else .stuck) from p)
    obtain ⟨r2, s2⟩ := r.step x
    exact p cls dd am _ H' (Pre.refl am) s2 r2 (rx_cut (r.e.muts x) i rx) σ
  | stuck => rw [q] at p; exact p.elim
def ifM (c : Rho → List D → RM Bool) (F G : Rho → List D → RSM) : Rho → List D → RSM := fun ρ M => RSM.bind (c ρ M) fun b M1 => if b = true then F ρ M1 else G ρ M1
theorem pdsm_if {c : Expr} {sa sb : List Stmt} {ct : Rho → List D → RM Bool} (hc : PDTM X B.T B.W c ct) (ha : PDSMs X B sa F) (hb : PDSMs X B sb G) : PDSM X B (.If c sa sb pos) (ifM ct F G) := fun am0 Hf0 H0 =>
  PS.imp (ps_if (hc am0 Hf0 H0) (ha am0 Hf0 H0) (hb am0 Hf0 H0)) fun De σ H ⟨Hf, ρ, M, am, r, p⟩ => ⟨Hf, ρ, M, am, r, PostM.mono (PostSM.bind p) fun c M1 am1 Hf1 H1 e1 p1 s1 r1 z => by
    cases c with
    | true => exact iteT ⟨Hf1, ρ, M1, am1, r1, z⟩
    | false => exact iteF ⟨Hf1, ρ, M1, am1, r1, z⟩⟩
/-! ### changes of cells -/
def putN (f : Str) : List Str → List Str
  | [] => [f]
  | g :: r => if g = f then g :: r else g :: putN f r
def putV (f : Str) (d : D) : List Str → List D → List D
  | g :: gs, x :: ds => if g = f then d :: ds else x :: putV f d gs ds
  | _, _ => [d]
theorem putF_ok {K : PySem.W.Frag} {mg : Str → Option Value} {am : List Addr} {Hf : Hp} {f : Str} {d : D} {v : V} (h : RepM K mg am Hf d v) : ∀ {fvs : List (Str × V)} {ds : List D}, RepML K mg am Hf ds (fvs.map (·.2)) → (putF f v fvs).map (·.1) = putN f (fvs.map (·.1)) ∧ RepML K mg am Hf (putV f d (fvs.map (·.1)) ds) ((putF f v fvs).map (·.2))
  | [], ds, q => by
    have : ds = [] := by cases ds with
      | nil => rfl
      | cons _ _ => obtain ⟨_, _, z, _⟩ := q; cases z
    subst this
    exact ⟨rfl, v, [], rfl, h, rfl⟩
  | (g, u) :: fvs, ds, q => by
    cases ds with
    | nil => cases (show (u :: fvs.map (·.2)) = [] from q)
    | cons x ds =>
      obtain ⟨v', r', e, q1, q2⟩ := q
      have e' : u :: fvs.map (·.2) = v' :: r' := e
      cases e'
      by_cases z : g = f
      · show ((if g = f then (g, v) :: fvs else (g, u) :: putF f v fvs).map (·.1) = if g = f then g :: fvs.map (·.1) else g :: putN f (fvs.map (·.1))) ∧ RepML K mg am Hf (if g = f then d :: ds else x :: putV f d (fvs.map (·.1)) ds) ((if g = f then (g, v) :: fvs else (g, u) :: putF f v fvs).map (·.2))
        rw [if_pos z, if_pos z, if_pos z]
        exact ⟨rfl, v, _, rfl, h, q2⟩
      · show ((if g = f then (g, v) :: fvs else (g, u) :: putF f v fvs).map (·.1) = if g = f then g :: fvs.map (·.1) else g :: putN f (fvs.map (·.1))) ∧ RepML K mg am Hf (if g = f then d :: ds else x :: putV f d (fvs.map (·.1)) ds) ((if g = f then (g, v) :: fvs else (g, u) :: putF f v fvs).map (·.2))
        rw [if_neg z, if_neg z, if_neg z]
        obtain ⟨i1, i2⟩ := putF_ok h (fvs := fvs) (ds := ds) q2
        exact ⟨by rw [List.map_cons, i1], u, _, rfl, q1, i2⟩
/-- o.f = e -/
def setFM (C f : Str) (fo fe : Rho → List D → RM D) : Rho → List D → RSM := fun ρ M => RSM.bind (fe ρ M) fun d M1 => RSM.bind (fo ρ M1) fun x M2 => match cellO C M2 x with
  | some (n, fs, ds) => if fs.length < 1000 then .nx ρ (M2.set n (.obj C (putN f fs) (putV f d fs ds))) else .stuck
  | none => .stuck
theorem ite_postSM {K : PySem.W.Frag} {mg : Str → Option Value} {am0 : List Addr} {Hf0 H0 : Hp} {De : Ends} {c : Prop} [Decidable c] {r : RSM} (h : PostSM K mg B am0 Hf0 H0 De (if c then r else .stuck)) : c ∧ PostSM K mg B am0 Hf0 H0 De r := by
  by_cases q : c
  · rw [if_pos q] at h
    exact ⟨q, h⟩
  · rw [if_neg q] at h
    exact h.elim
theorem pdsm_setF {C f : Str} {fo fe : Rho → List D → RM D} {pos' : Pos} (g : ClsG X.K X.mg C) (gn : NoAttr X.K (He.ga X.K C) f) (ho : PDM X B.T B.W o fo) (he : PDM X B.T B.W e fe) (hs : swapsWith e (some (.Attribute o f pos')) pos.line X.env = pure false := by rfl) :
    PDSM X B (.Assign [.Attribute o f pos'] e pos) (setFM C f fo fe) := fun am0 Hf0 H0 =>
  PS.imp (ps_fld (ho am0 Hf0 H0) (he am0 Hf0 H0) hs) fun De σ H ⟨Hf, ρ, M, am, r, p⟩ => ⟨Hf, ρ, M, am, r, PostM.mono (PostSM.bind p) fun d M1 am1 Hf1 H1 e1 p1 s1 r1 z v rv => ⟨Hf1, ρ, M1, am1, r1, PostM.mono (PostSM.bind z) fun x M2 am2 Hf2 H2 e2 p2 s2 r2 z2 w rw_ => by
    split at z2
    · rename_i n fs ds q
      obtain ⟨l, z2⟩ := ite_postSM z2
      obtain ⟨a, dx, fvs, _, h2, h3, h4, h5, h6, h7, h8, h9⟩ := cellO_ok r2.e.c g rw_ q
      subst h8
      obtain ⟨i1, i2⟩ := putF_ok (f := f) (RepM.mono p2 s2 rv) h9
      exact ⟨a, _, dx, fvs, h3, h7, g.c, gn, by simpa using l, z2 am2 Hf2 σ _ (r2.write h2 h4 ⟨_, dx, _, g.m, rfl, i1, i2⟩)⟩
    · exact z2.elim⟩⟩
def keyD : D → Option Key
  | .int i => some (.inl i)
  | .str x => some (.inr x)
  | _ => none
def mapKD (k : Key) (d : D) : List Key → List D → List D
  | j :: ks, x :: ds => (if j = k then d else x) :: mapKD k d ks ds
  | _, ds => ds
def putKD (k : Key) (d : D) (ks : List Key) (ds : List D) : D := if (ks.any fun j => decide (j = k)) = true then .dic ks (mapKD k d ks ds) else .dic (ks ++ [k]) (ds ++ [d])
theorem putK_ok {K : PySem.W.Frag} {mg : Str → Option Value} {am : List Addr} {Hf : Hp} {k : Key} {d : D} {v : V} (h : RepM K mg am Hf d v) {kvs : List (Key × V)} {ds : List D} (q : RepML K mg am Hf ds (kvs.map (·.2))) : RepMO K mg am Hf (putKD k d (kvs.map (·.1)) ds) (.dK (putK kvs k v)) := by
  have has : ((kvs.map (·.1)).any fun j => decide (j = k)) = kvs.any fun kv => decide (kv.1 = k) := by
    rw [List.any_map]
    rfl
  unfold putKD putK
  rw [has]
  by_cases z : (kvs.any fun kv => decide (kv.1 = k)) = true
  · rw [if_pos z, if_pos z]
    refine ⟨_, rfl, ?_, ?_⟩
    · clear q has z
      induction kvs with
      | nil => rfl
      | cons p kvs ih =>
        rw [List.map_cons, List.map_cons, List.map_cons, ih]
        by_cases z : p.1 = k
        · rw [if_pos z]
        · rw [if_neg z]
    · clear has z
      induction kvs generalizing ds with
      | nil => cases ds with
        | nil => rfl
        | cons _ _ => obtain ⟨_, _, z, _⟩ := q; cases z
      | cons p kvs ih =>
        cases ds with
        | nil => cases (show (p.2 :: kvs.map (·.2)) = [] from q)
        | cons x ds =>
          obtain ⟨v', r', e, q1, q2⟩ := q
          have e' : p.2 :: kvs.map (·.2) = v' :: r' := e
          cases e'
          have i := ih q2
          rw [List.map_cons, List.map_cons, List.map_cons]
          by_cases z : p.1 = k
          · rw [if_pos z]
            refine ⟨v, _, rfl, ?_, i⟩
            show RepM K mg am Hf (if p.1 = k then d else x) v
            rw [if_pos z]
            exact h
          · rw [if_neg z]
            refine ⟨p.2, _, rfl, ?_, i⟩
            show RepM K mg am Hf (if p.1 = k then d else x) p.2
            rw [if_neg z]
            exact q1
  · rw [if_neg z, if_neg z]
    refine ⟨_, rfl, by rw [List.map_append]; rfl, ?_⟩
    rw [List.map_append]
    exact RepML.append q ⟨v, [], rfl, h, rfl⟩
/-- o[k] = e, o a dict in a cell -/
def putM (fo fk fe : Rho → List D → RM D) : Rho → List D → RSM := fun ρ M => RSM.bind (fe ρ M) fun d M1 => RSM.bind (fo ρ M1) fun x M2 => RSM.bind (fk ρ M2) fun y M3 => match x, keyD y with
  | .loc n, some k => match M3[n]? with
    | some (.dic ks ds) => if ks.length < sizeLine then .nx ρ (M3.set n (putKD k d ks ds)) else .stuck
    | _ => .stuck
  | _, _ => .stuck
theorem keyD_ok {K : PySem.W.Frag} {mg : Str → Option Value} {am : List Addr} {Hf : Hp} {d : D} {v : V} {k : Key} (h : RepM K mg am Hf d v) (e : keyD d = some k) : v = kV k := by
  cases d with
  | int i => cases e; rcases h with ⟨_, _, z, _⟩ | h; · cases z
             exact h
  | str x => cases e; rcases h with ⟨_, _, z, _⟩ | h; · cases z
             exact h.1
  | _ => cases e
theorem pdsm_put {fo fk fe : Rho → List D → RM D} {i : Expr} {pos' : Pos} (hu : X.A.units + 1 < cLine) (ho : PDM X B.T B.W o fo) (hi : PDM X B.T B.W i fk) (he : PDM X B.T B.W e fe) (hs : swapsWith e (some (.Subscript o i pos')) pos.line X.env = pure false := by rfl) :
    PDSM X B (.Assign [.Subscript o i pos'] e pos) (putM fo fk fe) := fun am0 Hf0 H0 =>
  PS.imp (ps_dput hu (ho am0 Hf0 H0) (hi am0 Hf0 H0) (he am0 Hf0 H0) hs) fun De σ H ⟨Hf, ρ, M, am, r, p⟩ => ⟨Hf, ρ, M, am, r, PostM.mono (PostSM.bind p) fun d M1 am1 Hf1 H1 e1 p1 s1 r1 z v rv => ⟨Hf1, ρ, M1, am1, r1, PostM.mono (PostSM.bind z) fun x M2 am2 Hf2 H2 e2 p2 s2 r2 z2 w rx =>
    ⟨Hf2, ρ, M2, am2, r2, PostM.mono (PostSM.bind z2) fun y M3 am3 Hf3 H3 e3 p3 s3 r3 z3 u ry => by
      split at z3
      · rename_i n k hk
        split at z3
        · rename_i ks ds q
          obtain ⟨l, z3⟩ := ite_postSM z3
          rcases rx with ⟨n1, a, f1, f2, f3⟩ | rx
          · cases f1
            subst f3
            have f4 := p3 n a f2
            obtain ⟨k1, k2, ob, k3, kvs, rfl, k4, k5⟩ := r3.e.c.cell n a _ f4 q
            subst k4
            rw [List.length_map] at l
            rw [keyD_ok ry hk]
            exact ⟨a, _, rfl, DPut.k k3 l, z3 am3 Hf3 σ _ (r3.write f4 q (putK_ok (RepM.mono (p2.trans p3) (s2.trans s3) rv) k5))⟩
          · exact rx.elim
        · exact z3.elim
      · exact z3.elim⟩⟩⟩
/-- o.append(e), o a list in a cell -/
def addM (fo fe : Rho → List D → RM D) : Rho → List D → RSM := fun ρ M => RSM.bind (fo ρ M) fun x M1 => match x with
  | .loc n => match M1[n]? with
    | some (.lst _) => RSM.bind (fe ρ M1) fun d M2 => match M2[n]? with
      | some (.lst ds) => if ds.length < sizeLine then .nx ρ (M2.set n (.lst (ds ++ [d]))) else .stuck
      | _ => .stuck
    | _ => .stuck
  | _ => .stuck
theorem pdsm_add {fo fe : Rho → List D → RM D} (h : ∀ {to te : TE}, PE X o to → PE X a te → PE X e (tBM X.K "list" rAppend to (tCons te tNil))) (ho : PDM X B.T B.W o fo) (he : PDM X B.T B.W a fe) (hs : swapsWith e none pos.line X.env = pure false := by rfl) :
    PDSM X B (.Expr e pos) (addM fo fe) := fun am0 Hf0 H0 =>
  PS.imp (ps_expr (h (ho am0 Hf0 H0) (he am0 Hf0 H0)) hs) fun De σ H ⟨Hf, ρ, M, am, r, p⟩ => ⟨Hf, ρ, M, am, r, PostM.mono (PostSM.bind p) fun x M1 am1 Hf1 H1 e1 p1 s1 r1 z v rx => by
    split at z
    · rename_i n
      split at z
      · rename_i ds0 q0
        rcases rx with ⟨n1, ad, f1, f2, f3⟩ | rx
        · cases f1
          subst f3
          obtain ⟨_, _, ob, k3, vs0, rfl, _, _⟩ := r1.e.c.cell n ad _ f2 q0
          refine ⟨.inl ⟨rfl, vs0, SqL.of k3⟩, Hf1, ρ, M1, am1, r1, PostM.mono (PostSM.bind z) fun d M2 am2 Hf2 H2 e2 p2 s2 r2 z2 w rd => ?_⟩
          split at z2
          · rename_i ds q
            obtain ⟨l, z2⟩ := ite_postSM z2
            have f4 := p2 n ad f2
            obtain ⟨_, _, ob, g3, vs, rfl, g4, g5⟩ := r2.e.c.cell n ad _ f4 q
            refine ⟨ad, vs, w, rfl, rfl, g3, by rw [g5.length]; exact l, z2 am2 Hf2 σ _ (r2.write f4 q ⟨_, rfl, by simp; omega, RepML.append g5 ⟨w, [], rfl, rd, rfl⟩⟩)⟩
          · exact z2.elim
        · exact rx.elim
      · exact z.elim
    · exact z.elim⟩
end
end BV
namespace BV
open PySem PySem.Spec PyProof.Rows L2
/-! ### loops over cells -/
def PIM (X : Cx) (T : List (Addr × Str)) (W : WX) (tg iter : Expr) (g : Rho → List D → RM (List D)) : Prop := ∀ am0 Hf0 H0,
  PI X tg iter (fun σ H R => ∃ Hf ρ M am, RelM X.K X.mg T am0 Hf0 H0 ρ M am Hf σ H ∧ PostM X.K X.mg T am0 Hf0 H0 ρ am Hf W σ (fun ds _ _ Hf' H' => ∀ J, IterD X.K X.mg T J Hf' ds → ds.length ≤ sizeLine → R J H') (g ρ M))
section
variable {X : Cx} {T : List (Addr × Str)} {W : WX} {B : Fx} {e a tg iter : Expr} {f : Rho → List D → RM D} {F G : Rho → List D → RSM} {pos p : Pos} {body : List Stmt}
def tupI (f : Rho → List D → RM D) : Rho → List D → RM (List D) := fun ρ M => (f ρ M).bind fun d M1 => match d with
  | .tup ds => .ok ds M1
  | _ => .stuck
theorem pim_tup (h : PDM X T W e f) : PIM X T W tg e (tupI f) := fun am0 Hf0 H0 => PI.imp (pi_tup (h am0 Hf0 H0)) fun σ H R ⟨Hf, ρ, M, am, r, p⟩ => ⟨Hf, ρ, M, am, r, PostM.mono (PostM.bind p) fun d M1 am1 Hf1 H1 e1 p1 s1 r1 z v rv => by
  cases d with
  | tup ds =>
    rcases rv with ⟨n, a, e, _⟩ | ⟨a, vs, rfl, h1, h2, h3⟩
    · cases e
    · exact ⟨a, rfl, ⟨vs, SqT.sub r1.e.sub h1⟩, z am1 Hf1 H1 (Pre.refl _) (subR r1.e) r1 _ (iterD_tup h1 h3) h2⟩
  | _ => exact z.elim⟩
def rngM (fs : Rho → List D → RM (List D)) : Rho → List D → RM (List D) := fun ρ M => (fs ρ M).bind fun ds M1 => match rngD ds with
  | .ok es => .ok es M1
  | _ => .stuck
theorem pim_range {fs : Rho → List D → RM (List D)} (hg : Gl X "range") (hm : X.mg "range" = none) (ha : PDMA X T W [a] fs) (hs : starEach [a] X.env = [(false, eval a X.env)] := by rfl) : PIM X T W tg (.Call (.Name "range" p) [a] [] pos) (rngM fs) := fun am0 Hf0 H0 =>
  PI.imp (pi_range1 hg hm (ha am0 Hf0 H0) hs) fun σ H R ⟨Hf, ρ, M, am, r, p⟩ => ⟨Hf, ρ, M, am, r, PostM.mono (PostM.bind p) fun ds M1 am1 Hf1 H1 e1 p1 s1 r1 z vs rvs => by
    obtain ⟨n, rfl, hn, z⟩ : ∃ n, ds = [.int n] ∧ (n ≤ 16777216 ∧ -16777216 ≤ n) ∧ PostM X.K X.mg T am0 Hf0 H0 ρ am1 Hf1 W σ (fun ds _ _ Hf' H' => ∀ J, IterD X.K X.mg T J Hf' ds → ds.length ≤ sizeLine → R J H') (.ok (upto n.toNat) M1) := by
      cases q : rngD ds with
      | ok es =>
        rw [q] at z
        unfold rngD at q
        split at q
        · rename_i n
          split at q
          · rename_i hn
            cases q
            exact ⟨n, rfl, hn, z⟩
          · cases q
        · cases q
      | exc _ => rw [q] at z; exact z.elim
      | stuck => rw [q] at z; exact z.elim
    obtain ⟨v, r', e2, h1, h2⟩ := rvs
    have e3 : r' = [] := h2
    have e4 : v = .int n := by
      rcases h1 with ⟨_, _, e, _⟩ | h1
      · cases e
      · exact h1
    subst e2 e3 e4
    refine ⟨n, rfl, by omega, by omega, z am1 Hf1 H1 (Pre.refl _) (subR r1.e) r1 _ iterD_range ?_⟩
    simp only [upto, List.length_map, List.length_range]
    rw [sizeLine_eq]
    omega⟩
theorem RelM.stepF {K : PySem.W.Frag} {mg : Str → Option Value} {am0 am : List Addr} {Hf0 H0 Hf H Hf' H' : Hp} {ρ : Rho} {M : List D} {σ : St} (r : RelM K mg T am0 Hf0 H0 ρ M am Hf σ H) (x : ExtF T Hf H Hf' H') : RelM K mg T am0 Hf0 H0 ρ M am Hf' σ H' :=
  ⟨⟨x.inn, x.tab r.e.tab, ⟨r.e.c.len, r.e.c.nod, fun n a d h1 h2 => by
      obtain ⟨k1, k2, o, k3, k4⟩ := r.e.c.cell n a d h1 h2
      exact ⟨x.fr a (Old.of k3 k4.mut) k1, k2, o, x.ext a o k3 k4.mut.ntbl, RepMO.mono (Pre.refl am) x.sub k4⟩⟩, r.e.x.trans x, r.e.pre⟩, r.len, fun i d e => by
    obtain ⟨v, h3, h4⟩ := r.slot i d e
    exact ⟨v, h3, RepM.mono (Pre.refl am) x.sub h4⟩⟩
def forLM (i : Nat) (F : Rho → List D → RSM) : List D → Rho → List D → RSM
  | [], ρ, M => .nx ρ M
  | d :: ds, ρ, M => match F (ρ.set i (some d)) M with
    | .nx ρ2 M2 => forLM i F ds ρ2 M2
    | .ct ρ2 M2 => forLM i F ds ρ2 M2
    | .bk ρ2 M2 => .nx ρ2 M2
    | r => r
def forM (g : Rho → List D → RM (List D)) (i : Nat) (F : Rho → List D → RSM) : Rho → List D → RSM := fun ρ M => RSM.bind (g ρ M) fun ds M1 => forLM i F ds ρ M1
theorem pdsm_for {i : Nat} {x : Str} {q : Pos} {g : Rho → List D → RM (List D)} (hp : PassesOwn (model X.prog X.w) X.A X.env X.xe) (hc : X.calm = true) (hi : PIM X B.T B.W (.Name x q) iter g) (hN : X.N.Nodup) (hx : X.N[i]? = some x) (hl : Loc X.env.scope x) (hf : X.fn x = true ∨ X.env.scope.names.lookup x = some .local) (hb : PDSMs X B body F)
    (hs : ∀ x, foldedSetIterable iter X.env x = pure x := by intro _; rfl) : PDSM X B (.For (.Name x q) iter body [] pos) (forM g i F) := by
  intro am0 Hf0 H0
  refine PS.imp (ps_for (tb := fun De σ H => ∃ am0 Hf0 H0, tSM X.K X.mg B am0 Hf0 H0 F De σ H) hp hc (hi am0 Hf0 H0) (pg_name hN hx hl hf) ⟨fun pins s σ H De I ⟨am0, Hf0, H0, q⟩ => (hb am0 Hf0 H0).run pins s σ H De I q⟩ hs) fun De σ H ⟨Hf, ρ, M, am, r, p⟩ => ⟨Hf, ρ, M, am, r, PostM.mono (PostSM.bind p) fun ds M1 am1 Hf1 H1 e1 p1 s1 r1 z J hJ hz => ?_⟩
  let Wj : Nat → St → Hp → Prop := fun i' σ' H' => ∃ Hf' ρ' M' am', RelM X.K X.mg B.T am0 Hf0 H0 ρ' M' am' Hf' σ' H' ∧ Sub Hf1 Hf' ∧ PostSM X.K X.mg B am0 Hf0 H0 De (forLM i F (ds.drop i') ρ' M')
  refine ⟨fun i' m σ' H' => m = ds.length - i' ∧ i' ≤ ds.length ∧ Wj i' σ' H', ⟨ds.length, by simp, Nat.zero_le _, Hf1, ρ, M1, am1, r1, subR r1.e, z⟩, ?_⟩
  rintro i' m σ' H' ⟨rfl, hi', Hf', ρ', M', am', r2, s2, z2⟩
  by_cases hlt : i' < ds.length
  · refine .inr ?_
    obtain ⟨d, hd⟩ : ∃ d, ds[i']? = some d := ⟨ds[i'], List.getElem?_eq_getElem hlt⟩
    obtain ⟨hgo, hy⟩ := (hJ i' Hf' H' s2 r2.e.sub).1 d hd
    have hdrop : ds.drop i' = d :: ds.drop (i' + 1) := by
      rw [List.drop_eq_getElem_cons hlt]
      have : ds[i'] = d := by
        rw [List.getElem?_eq_getElem hlt] at hd
        exact Option.some.inj hd
      rw [this]
    rw [hdrop] at z2
    unfold forLM at z2
    refine ⟨hgo, Wj (i' + 1), fun σ3 H3 p' => ⟨ds.length - (i' + 1), by omega, rfl, hlt, p'⟩, fun x H3 yl => ?_⟩
    obtain ⟨Hf3, x3, hx3⟩ := hy x H3 yl
    have r3 := (r2.stepF x3).setv i (.inr hx3)
    refine ⟨am', Hf3, H0, Hf3, ρ'.set i (some d), M', am', r3.re, ?_⟩
    cases q : F (ρ'.set i (some d)) M' with
    | nx ρ4 M4 => rw [q] at z2; exact fun am5 Hf5 σ5 H5 r5 => ⟨Hf5, ρ4, M4, am5, r5.un r3.e.x r3.e.pre, s2.trans (x3.sub.trans r5.e.x.sub), z2⟩
    | ct ρ4 M4 => rw [q] at z2; exact fun am5 Hf5 σ5 H5 r5 => ⟨Hf5, ρ4, M4, am5, r5.un r3.e.x r3.e.pre, s2.trans (x3.sub.trans r5.e.x.sub), z2⟩
    | bk ρ4 M4 => rw [q] at z2; exact fun am5 Hf5 σ5 H5 r5 => z2 am5 Hf5 σ5 H5 (r5.un r3.e.x r3.e.pre)
    | rt d M4 => rw [q] at z2; exact PostSM.un (r := .rt d M4) r3.e.x r3.e.pre z2
    | exc e M4 => rw [q] at z2; exact PostSM.un (r := .exc e M4) r3.e.x r3.e.pre z2
    | stuck => rw [q] at z2; exact z2
  · have e : i' = ds.length := by omega
    subst e
    refine .inl ⟨(hJ ds.length Hf' H' s2 r2.e.sub).2 (Nat.le_refl _), ?_⟩
    rw [List.drop_length] at z2
    exact z2 am' Hf' σ' H' r2
def whlLM (c : Rho → List D → RM Bool) (F : Rho → List D → RSM) : Nat → Rho → List D → RSM
  | 0, _, _ => .stuck
  | n + 1, ρ, M => RSM.bind (c ρ M) fun b M1 => if b = true then (match F ρ M1 with
    | .nx ρ2 M2 => whlLM c F n ρ2 M2
    | .ct ρ2 M2 => whlLM c F n ρ2 M2
    | .bk ρ2 M2 => .nx ρ2 M2
    | r => r) else .nx ρ M1
theorem pdsm_while (fuel : Nat) {c : Expr} {ct : Rho → List D → RM Bool} (hp : PassesOwn (model X.prog X.w) X.A X.env X.xe) (hc : PDTM X B.T B.W c ct) (hb : PDSMs X B body F) : PDSM X B (.While c body [] pos) (whlLM ct F fuel) := by
  intro am0 Hf0 H0
  refine PS.imp (ps_while (tb := fun De σ H => ∃ am0 Hf0 H0, tSM X.K X.mg B am0 Hf0 H0 F De σ H) hp (hc am0 Hf0 H0) ⟨fun pins s σ H De I ⟨am0, Hf0, H0, q⟩ => (hb am0 Hf0 H0).run pins s σ H De I q⟩) fun De σ H ⟨Hf, ρ, M, am, r, p⟩ => ?_
  refine ⟨fun m σ' H' => ∃ Hf' ρ' M' am', RelM X.K X.mg B.T am0 Hf0 H0 ρ' M' am' Hf' σ' H' ∧ PostSM X.K X.mg B am0 Hf0 H0 De (whlLM ct F m ρ' M'), ⟨fuel, Hf, ρ, M, am, r, p⟩, ?_⟩
  rintro m σ' H' ⟨Hf', ρ', M', am', r1, p1⟩
  cases m with
  | zero => exact p1.elim
  | succ m =>
    unfold whlLM at p1
    refine ⟨Hf', ρ', M', am', r1, PostM.mono (PostSM.bind p1) fun b M2 am2 Hf2 H2 e2 p2 s2 r2 z => ?_⟩
    cases b with
    | false => exact iteF (z am2 Hf2 σ' H2 r2)
    | true =>
      refine iteT ⟨fun σ4 H4 => ∃ Hf4 ρ4 M4 am4, RelM X.K X.mg B.T am0 Hf0 H0 ρ4 M4 am4 Hf4 σ4 H4 ∧ PostSM X.K X.mg B am0 Hf0 H0 De (whlLM ct F m ρ4 M4), fun σ4 H4 q => ⟨m, Nat.lt_succ_self m, q⟩, am0, Hf0, H0, Hf2, ρ', M2, am2, r2, ?_⟩
      simp only [if_pos] at z
      cases q : F ρ' M2 with
      | nx ρ3 M3 => rw [q] at z; exact fun am4 Hf4 σ4 H4 r4 => ⟨Hf4, ρ3, M3, am4, r4, z⟩
      | ct ρ3 M3 => rw [q] at z; exact fun am4 Hf4 σ4 H4 r4 => ⟨Hf4, ρ3, M3, am4, r4, z⟩
      | bk ρ3 M3 => rw [q] at z; exact z
      | rt d M3 => rw [q] at z; exact z
      | exc e M3 => rw [q] at z; exact z
      | stuck => rw [q] at z; exact z
/-! ### try: suite except C as n: return (n.f1, n.f2) -/
def tryM (C f1 f2 : Str) (F : Rho → List D → RSM) : Rho → List D → RSM := fun ρ M => match F ρ M with
  | .exc e M' => if e.name = C ∧ e.fs = [f2, f1] then (match e.ds with
    | [v, u] => .rt (.tup [u, v]) M'
    | _ => .stuck) else .stuck
  | r => r
/-- the wish is only asked at slots of the right number -/
def lenW (n : Nat) (W : WX) : WX := fun c d σ H => σ.length = n → W c d σ H
theorem takes_len {X : Cx} {W : WX} (t : L2N.Takes X W) : L2N.Takes X (lenW X.N.length W) := fun u s' ⟨a, B, sI, pins, σ, H, cls, d, e, I, nb, up, sky, na, os, ag, w⟩ => t u s' ⟨a, B, sI, pins, σ, H, cls, d, e, I, nb, up, sky, na, os, ag, w I.len⟩
theorem pdsm_try {C f1 f2 n : Str} {i : Nat} {np q1 q2 q3 q4 q5 q6 : Pos} {x1 : Nat} (hk : B.kr ≠ .v) (hs : X.stack = X.env :: X.outer) (hfr : X.env.frame = some X.env.locals) (hN : X.N.Nodup) (hi : X.N[i]? = some n) (hln : X.env.kindOf n = some .local) (g : XcG X.K X.mg C f1 f2) (hg : Gl X C) (tk : L2N.Takes X B.W) (h12 : f1 ≠ f2)
    (hb : ∀ (W : WX) (pn : List (Addr × Obj)) (xe : Value → Shared → Prop), L2N.Takes (X.tr pn xe) W → PassesOwn (model X.prog X.w) X.A X.env xe → PDSMs (X.tr pn xe) { B with W := W } body F)
    (hv : Vis X.env.scope n) (hdC : (C == ("__debug__" : Str)) = false := by decide) (hd : (n == ("__debug__" : Str)) = false := by decide) (hcd : (n == ("__classdict__" : Str)) = false := by decide) :
    PDSM X B (.Try body [.ExceptHandler (some (.Name C np)) (some n) [.Return (some (.Tuple [.Attribute (.Name n q1) f1 q2, .Attribute (.Name n q3) f2 q4] x1 q5)) q6] pos] [] [] p) (tryM C f1 f2 F) := fun am0 Hf0 H0 => by
  refine PS.imp (L2N.ps_try_as (i := i) (tb := fun W => tSM X.K X.mg { B with W := lenW X.N.length W } am0 Hf0 H0 F) hs hfr hN hi hln ⟨hg, hdC, .inl g.m⟩ tk (fun W pn xe tk' ps => hb _ pn xe (takes_len (X := X.tr pn xe) tk') ps am0 Hf0 H0) (fun a oe cls d pn hz hf => pss_one (ps_ret (pe_tup (pa_cons (pe_xf g.x g.n1 hz.zc hf (pe_var hi hv hd hcd)) (pa_cons (pe_xf g.x g.n2 hz.zc hf (pe_var hi hv hd hcd)) pa_nil)))))) fun De σ H ⟨Hf, ρ, M, am, r, p⟩ => ⟨Hf, ρ, M, am, r, ?_⟩
  unfold tryM at p
  cases q : F ρ M with
  | nx ρ' M' => rw [q] at p; exact p
  | bk ρ' M' => rw [q] at p; exact p
  | ct ρ' M' => rw [q] at p; exact p
  | rt d M' => rw [q] at p; exact p
  | stuck => rw [q] at p; exact p
  | exc e M' =>
    rw [q] at p
    intro cls dd am' Hf' σ' H' t rx hlen
    have p : PostSM X.K X.mg B am0 Hf0 H0 De (if e.name = C ∧ e.fs = [f2, f1] then (match e.ds with
      | [v, u] => .rt (.tup [u, v]) M'
      | _ => .stuck) else .stuck) := p
    obtain ⟨⟨hC, hfs⟩, p⟩ := ite_postSM p
    obtain ⟨v, u, hds, p⟩ : ∃ v u, e.ds = [v, u] ∧ PostSM X.K X.mg B am0 Hf0 H0 De (.rt (.tup [u, v]) M') := by
      split at p
      · rename_i v u q
        exact ⟨v, u, q, p⟩
      · exact p.elim
    obtain ⟨Ca, m1, m2, m3⟩ := rx
    rw [hC, g.m] at m1
    cases m1
    subst m2
    rcases m3 with ⟨z, _⟩ | ⟨_, dd', fvs, rfl, h1, h2, h3⟩
    · rw [hfs] at z
      cases z
    rw [hfs] at h2
    rw [hds] at h3
    obtain ⟨vv, r1, e1, k1, uv, r2, e2, k2, e3⟩ := h3
    have e3 : r2 = [] := e3
    subst e3
    have hfv : fvs = [(f2, vv), (f1, uv)] := by
      rw [e2] at e1
      match fvs, h2, e1 with
      | [(x1, y1), (x2, y2)], h2, e1 =>
        simp only [List.map_cons, List.map_nil, List.cons.injEq, and_true] at h2 e1
        rw [h2.1, h2.2, e1.1, e1.2]
    subst hfv
    refine ⟨true, g.e, fun _ a ha => ?_, fun z => by cases z⟩
    have li : i < σ'.length := by rw [hlen]; exact (List.getElem?_eq_some_iff.mp hi).1
    have sa : (σ'.set i (some (V.ref a)))[i]? = some (some (.ref a)) := List.getElem?_set_self li
    refine ⟨.ref a, sa, rfl, rfl, dd', _, uv, rfl, h1, ?_, .ref a, sa, rfl, rfl, dd', _, vv, rfl, h1, ?_, by show 2 ≤ sizeLine; rw [sizeLine_eq]; decide, fun tt htt => ?_⟩
    · rw [List.lookup_cons, show (f1 == f2) = false from beq_eq_false_iff_ne.mpr h12, List.lookup_cons, show (f1 == f1) = true from by simp]
    · rw [List.lookup_cons, show (f2 == f2) = true from by simp]
    have x : ExtF B.T Hf' H' (upd Hf' tt (.tup [uv, vv])) (upd H' tt (.tup [uv, vv])) := ExtF.newF t.sub htt (fun ps z => nomatch z)
    have t2 : EndM X.K X.mg B.T am0 Hf0 H0 M' am' (upd Hf' tt (.tup [uv, vv])) (upd H' tt (.tup [uv, vv])) :=
      (RelM.stepF (ρ := []) (σ := []) ⟨t, rfl, fun i d e => by simp at e⟩ x).e
    exact p.2 hk _ _ _ _ t2 (.inr ⟨tt, [uv, vv], rfl, SqT.of upd_same, by show 2 ≤ sizeLine; rw [sizeLine_eq]; decide, ⟨uv, _, rfl, Rep.sub x.sub k2, vv, _, rfl, Rep.sub x.sub k1, rfl⟩⟩)
/-! ### a def from its body -/
def runM (n : Nat) (F : Rho → List D → RSM) : List D → List D → RM D := fun M ds => match F (ds.map some ++ List.replicate (n - ds.length) none) M with
  | .nx _ M' => .ok .non M'
  | .rt d M' => .ok d M'
  | .exc e M' => .exc e M'
  | _ => .stuck
def runX (n : Nat) (F : Rho → List D → RSM) : List D → R D := fun ds => match F (ds.map some ++ List.replicate (n - ds.length) none) [] with
  | .nx _ _ => .ok .non
  | .rt d _ => .ok d
  | .exc e _ => .exc e
  | _ => .stuck
theorem RepML.start {K : PySem.W.Frag} {mg : Str → Option Value} {am : List Addr} {H : Hp} {ds : List D} {vs : List V} (h : RepML K mg am H ds vs) (n : Nat) (i : Nat) (d : D) (e : (ds.map some ++ List.replicate (n - ds.length) none)[i]? = some (some d)) :
    ∃ v, (vs.map some ++ List.replicate (n - vs.length) none)[i]? = some (some v) ∧ RepM K mg am H d v := by
  by_cases hi : i < ds.length
  · rw [List.getElem?_append_left (by simpa using hi), List.getElem?_map] at e
    cases q : ds[i]? with
    | none => rw [q] at e; cases e
    | some d' =>
      rw [q] at e
      cases e
      obtain ⟨v, h1, h2⟩ := h.get q
      refine ⟨v, ?_, h2⟩
      rw [List.getElem?_append_left (by simpa [h.length] using hi), List.getElem?_map, h1]
      rfl
  · rw [List.getElem?_append_right (by simpa using hi), List.getElem?_replicate] at e
    split at e <;> cases e
section
variable {P : Program} {w : World} {K : PySem.W.Frag} {mg : Str → Option Value} {base : Heap} {lv : Nat} {x qual : Str} {params : Arguments} {scope : Scope} {dvs : List V} {kws : List (Str × V)} {fa : Addr} {fd : FuncData} {N ps : List Str}
theorem fnM_fun (F : Rho → List D → RSM) (n lw : Nat) (R : List D → List D → RM D) (hF : FunD K x qual params body scope dvs kws fa fd) (S : FnScope N ps scope) (hn : N.length = n) (hlw : lw = lv + 1) (hR : R = runM n F)
    (hbody : ∀ (cdv : Value) (A : Around) (outer : List Env) (s : Shared) (H : Hp) (E : XK), Room lv (A.deeper (envOfC qual scope s.heap.objs.size fa cdv)) →
      PDSMs (cxOf (L2N.CX P w) P w K mg base N qual scope fa cdv A outer s H E) ⟨T, .b, fun c d _ H' => E c d H'⟩ body F) : FnM P w K mg base T lw fa fd ps R := by
  subst hn hlw hR
  obtain ⟨oc, od, dV, kV, doc, pm, an, cdv, ct, osl, rfl, lk, hcd, _, _⟩ := hF.ex
  refine fn_of lk hcd S (fun vs H Q E h => h.1) fun A outer s H vs Q E hr ⟨hl, Hf, H0, M, am, ds, t, rd, hp⟩ => ?_
  refine ⟨_, hbody cdv A outer s H E hr am Hf H0, Hf, ds.map some ++ List.replicate (N.length - ds.length) none, M, am, ⟨t, by simp [L2.start, rd.length], fun i d e => rd.start N.length i d e⟩, ?_⟩
  unfold runM at hp
  cases q : F (ds.map some ++ List.replicate (N.length - ds.length) none) M with
  | nx ρ' M' => rw [q] at hp; exact fun am' Hf' σ' H' r' => hp am' Hf' H' .non r'.e (.inr rfl)
  | rt d M' => rw [q] at hp; exact ⟨fun z => (by cases z), fun _ v am' Hf' H' t' rv => hp am' Hf' H' v t' rv⟩
  | exc e M' => rw [q] at hp; exact fun cls dd am' Hf' σ' H' t' rx => hp cls dd am' Hf' H' t' rx
  | bk _ _ => rw [q] at hp; exact hp.elim
  | ct _ _ => rw [q] at hp; exact hp.elim
  | stuck => rw [q] at hp; exact hp.elim
theorem fnM_none (hF : FunD K x qual params body scope dvs kws fa fd) (S : FnScope N ps scope) : FnM P w K mg base T (lv + 1) fa fd ps (fun _ _ => .stuck) :=
  fnM_fun (fun _ _ => .stuck) N.length (lv + 1) _ hF S rfl rfl rfl fun _ _ _ _ _ _ _ => pdsms_stuck
/-- a def that has cells of its own alone, for defs by values -/
theorem fnX_fun (F : Rho → List D → RSM) (n lw : Nat) (R : List D → R D) (hF : FunD K x qual params body scope dvs kws fa fd) (S : FnScope N ps scope) (hn : N.length = n) (hlw : lw = lv + 1) (hR : R = runX n F)
    (hbody : ∀ (cdv : Value) (A : Around) (outer : List Env) (s : Shared) (H : Hp) (E : XK), Room lv (A.deeper (envOfC qual scope s.heap.objs.size fa cdv)) →
      PDSMs (cxOf (L2N.CX P w) P w K mg base N qual scope fa cdv A outer s H E) ⟨T, .v, fun c d _ H' => E c d H'⟩ body F) : FnD P w K mg base T lw fa fd ps .v R := by
  subst hn hlw hR
  obtain ⟨oc, od, dV, kV, doc, pm, an, cdv, ct, osl, rfl, lk, hcd, _, _⟩ := hF.ex
  refine fn_of lk hcd S (fun vs H Q E h => h.1) fun A outer s H vs Q E hr ⟨hl, Hf, ds, hs, ht, rd, hp⟩ => ?_
  have t0 : EndM K mg T [] Hf H [] [] Hf H := ⟨hs, ht, ⟨rfl, List.nodup_nil, fun n a d e _ => by simp at e⟩, ExtF.refl hs, Pre.refl []⟩
  have rd0 : RepML K mg [] Hf ds vs := RepML.of rd
  refine ⟨_, hbody cdv A outer s H E hr [] Hf H, Hf, ds.map some ++ List.replicate (N.length - ds.length) none, [], [], ⟨t0, by simp [L2.start, rd.length], fun i d e => rd0.start N.length i d e⟩, ?_⟩
  unfold runX at hp
  cases q : F (ds.map some ++ List.replicate (N.length - ds.length) none) [] with
  | nx ρ' M' => rw [q] at hp; exact fun am' Hf' σ' H' r' => hp _ H' r'.e.frozen .non rfl
  | rt d M' => rw [q] at hp; exact ⟨fun _ v Hf' H' x rk => hp Hf' H' x v rk, fun z => absurd rfl z⟩
  | exc e M' =>
    rw [q] at hp
    intro cls dd am' Hf' σ' H' t' ⟨C, g1, g2, g3⟩
    refine hp cls dd _ H' t'.frozen ⟨C, g1, g2, ?_⟩
    rcases g3 with g3 | ⟨g4, d, fvs, g5, g6, g7, g8⟩
    · exact .inl g3
    · exact .inr ⟨g4, d, fvs, g5, g6, g7, RepL.sub (t'.c.sub_over t'.sub) g8⟩
  | bk _ _ => rw [q] at hp; exact hp.elim
  | ct _ _ => rw [q] at hp; exact hp.elim
  | stuck => rw [q] at hp; exact hp.elim
end
end
end BV
namespace BV
open PySem PySem.Spec PyProof.Rows L2
/-! ### dicts that are read -/
def dGet : List Key → List D → Key → Option D
  | j :: ks, d :: ds, k => if j = k then some d else dGet ks ds k
  | _, _, _ => none
theorem dGet_ok {K : PySem.W.Frag} {mg : Str → Option Value} {H : Hp} {k : Key} : ∀ {ds : List D} {kvs : List (Key × V)}, RepL K mg H ds (kvs.map (·.2)) →
    (dGet (kvs.map (·.1)) ds k = none ∧ valV kvs k = none) ∨ ∃ d v, dGet (kvs.map (·.1)) ds k = some d ∧ valV kvs k = some v ∧ Rep K mg H d v
  | ds, [], h => by
    have : ds = [] := by cases ds with
      | nil => rfl
      | cons _ _ => obtain ⟨_, _, z, _⟩ := h; cases z
    subst this
    exact .inl ⟨rfl, rfl⟩
  | [], (j, u) :: kvs, h => by cases (show (u :: kvs.map (·.2)) = [] from h)
  | d :: ds, (j, u) :: kvs, h => by
    obtain ⟨v', r', e, q1, q2⟩ := h
    have e' : u :: kvs.map (·.2) = v' :: r' := e
    cases e'
    by_cases z : j = k
    · refine .inr ⟨d, u, ?_, valV_pos z, q1⟩
      show (if j = k then some d else _) = _
      rw [if_pos z]
    · have e1 : dGet (((j, u) :: kvs).map (·.1)) (d :: ds) k = dGet (kvs.map (·.1)) ds k := by
        show (if j = k then some d else _) = _
        rw [if_neg z]
      rw [e1, valV_neg z]
      exact dGet_ok q2
/-- a in b, b a sequence, a text or a dict -/
def inD2 (neg : Bool) : D → D → Option D
  | a, .dic ks ds => (keyD a).map fun k => .bl (xor neg (dGet ks ds k).isSome)
  | a, b => inD neg a b
theorem keyD_v {K : PySem.W.Frag} {mg : Str → Option Value} {Hf H0 H : Hp} {d : D} {v : V} {k : Key} (h : RK K mg .b Hf H0 H d v) (e : keyD d = some k) : v = kV k := by
  cases d with
  | int i => cases e; exact RK.int h
  | str x => cases e; exact (RK.str h).1
  | _ => cases e
section
variable {X : Cx} {T : List (Addr × Str)} {Γ : List Bool} {W : WX} {k : Kd} {e a b : Expr} {f fa fb : Rho → R D} {pos : Pos}
theorem op_inDic (hu : X.A.units + 1 < cLine) : OpR X (compareOp .In) (fun x y H Q => ∃ p o, y = .ref p ∧ DGet H p x o ∧ Q (.bl o.isSome) H) := fun pins s σ H x y v u Q I rx ry ⟨p, o, ey, g, q⟩ => by
  subst ey
  obtain rfl : u = Value.ref p := ry
  exact d_in hu I g rx fun s3 I3 => ⟨.bl o.isSome, H, I3, rfl, q⟩
theorem op_notInDic (hu : X.A.units + 1 < cLine) : OpR X (compareOp .NotIn) (fun x y H Q => ∃ p o, y = .ref p ∧ DGet H p x o ∧ Q (.bl (!o.isSome)) H) := fun pins s σ H x y v u Q I rx ry ⟨p, o, ey, g, q⟩ => by
  subst ey
  obtain rfl : u = Value.ref p := ry
  exact d_notIn hu I g rx fun s3 I3 => ⟨.bl (!o.isSome), H, I3, rfl, q⟩
theorem inD2_ne {neg : Bool} {a b : D} (h : ∀ ks ds, b ≠ .dic ks ds) : inD2 neg a b = inD neg a b := by
  cases b <;> first | rfl | exact absurd rfl (h _ _)
theorem od_in2 : OpD X T (inD2 false) .v (fun x y H Q => rInU X.K x y H Q ∨ ∃ p o, y = .ref p ∧ DGet H p x o ∧ Q (.bl o.isSome) H) := fun Hf H x y a b d Q s r1 r2 e q => by
  by_cases h : ∃ ks ds, b = .dic ks ds
  · obtain ⟨ks, ds, rfl⟩ := h
    obtain ⟨k, hk, rfl⟩ := map_some (show (keyD a).map (fun k => D.bl (xor false (dGet ks ds k).isSome)) = some d from e)
    obtain ⟨p, kvs, rfl, h1, h2, h3⟩ := RK.dic s r2
    subst h2
    rw [keyD_v r1 hk]
    refine .inr ⟨p, valV kvs k, rfl, DGet.k h1, q _ Hf H (ExtF.refl s) ?_⟩
    rcases dGet_ok (k := k) h3 with ⟨g1, g2⟩ | ⟨d', v', g1, g2, _⟩
    · rw [g1, g2]; rfl
    · rw [g1, g2]; rfl
  · rw [inD2_ne (fun ks ds z => h ⟨ks, ds, z⟩)] at e
    exact .inl (od_in Hf H x y a b d Q s r1 r2 e q)
theorem od_notIn2 : OpD X T (inD2 true) .v (fun x y H Q => rNotInU X.K x y H Q ∨ ∃ p o, y = .ref p ∧ DGet H p x o ∧ Q (.bl (!o.isSome)) H) := fun Hf H x y a b d Q s r1 r2 e q => by
  by_cases h : ∃ ks ds, b = .dic ks ds
  · obtain ⟨ks, ds, rfl⟩ := h
    obtain ⟨k, hk, rfl⟩ := map_some (show (keyD a).map (fun k => D.bl (xor true (dGet ks ds k).isSome)) = some d from e)
    obtain ⟨p, kvs, rfl, h1, h2, h3⟩ := RK.dic s r2
    subst h2
    rw [keyD_v r1 hk]
    refine .inr ⟨p, valV kvs k, rfl, DGet.k h1, q _ Hf H (ExtF.refl s) ?_⟩
    rcases dGet_ok (k := k) h3 with ⟨g1, g2⟩ | ⟨d', v', g1, g2, _⟩
    · rw [g1, g2]; rfl
    · rw [g1, g2]; rfl
  · rw [inD2_ne (fun ks ds z => h ⟨ks, ds, z⟩)] at e
    exact .inl (od_notIn Hf H x y a b d Q s r1 r2 e q)
theorem op_inU2 (hu : X.A.units + 65 < cLine) : OpR X (compareOp .In) (fun x y H Q => rInU X.K x y H Q ∨ ∃ p o, y = .ref p ∧ DGet H p x o ∧ Q (.bl o.isSome) H) := (op_inU hu).or (op_inDic (by omega))
theorem op_notInU2 (hu : X.A.units + 65 < cLine) : OpR X (compareOp .NotIn) (fun x y H Q => rNotInU X.K x y H Q ∨ ∃ p o, y = .ref p ∧ DGet H p x o ∧ Q (.bl (!o.isSome)) H) := (op_notInU hu).or (op_notInDic (by omega))
/-- a[b], a a sequence, a text or a dict -/
def ixD2 : D → D → Option D
  | .dic ks ds, b => (keyD b).bind fun k => dGet ks ds k
  | a, b => ixD a b
theorem ixD2_ne {a b : D} (h : ∀ ks ds, a ≠ .dic ks ds) : ixD2 a b = ixD a b := by
  cases a <;> first | rfl | exact absurd rfl (h _ _)
theorem PE.or2 {e : Expr} {t u : TE} (h : PE X e t) (g : PE X e u) : PE X e (fun σ H Q => t σ H Q ∨ u σ H Q) := ⟨fun pins s σ H Q I q => q.elim (h.run pins s σ H Q I) (g.run pins s σ H Q I)⟩
theorem pd_ix2 (hu : X.A.units + 65 < cLine) (ha : PD X T Γ W .b a fa) (hb : PD X T Γ W .b b fb) (hs : PlainIx b) (hn : NoSl b) : PD X T Γ W .v (.Subscript a b pos) (opE ixD2 fa fb) :=
  PE.imp (PE.or2 (pd_op (pe_ix ix_seq ha hb hs) od_ix) (pe_dget (by omega) ha hb hn)) fun σ H Q ⟨Hf, ρ, rel, p⟩ => by
    have p : PostE X.K X.mg T Hf H .v W σ Q ((fa ρ).bind fun a => (fb ρ).bind fun b => R.of (ixD2 a b)) := p
    by_cases h : ∃ ks ds, fa ρ = .ok (.dic ks ds)
    · obtain ⟨ks, ds, q⟩ := h
      rw [q] at p
      refine .inr ⟨Hf, ρ, rel, ?_⟩
      rw [q]
      intro Hf1 H1 x1 v rk
      have p := PostE.shift x1 p
      refine ⟨Hf1, ρ, rel.ext x1, PostE.bind p fun d2 v2 Hf2 H2 e2 x2 rk2 p2 => ?_⟩
      obtain ⟨d3, e3, p3⟩ := of_some p2
      cases hk : keyD d2 with
      | none =>
        have e3 : (keyD d2).bind (fun k => dGet ks ds k) = some d3 := e3
        rw [hk] at e3
        cases e3
      | some k =>
        have e3 : (keyD d2).bind (fun k => dGet ks ds k) = some d3 := e3
        rw [hk] at e3
        have e3 : dGet ks ds k = some d3 := e3
        have rk' := RK.base' (H0 := H2) (by decide) (RK.ext x2 rk)
        obtain ⟨q2, kvs, rfl, h1, h2, h3⟩ := RK.dic x2.inn rk'
        subst h2
        rw [keyD_v rk2 hk]
        rcases dGet_ok (k := k) h3 with ⟨g1, _⟩ | ⟨d', v', g1, g2, g3⟩
        · rw [g1] at e3; cases e3
        · rw [g1] at e3
          cases e3
          exact ⟨q2, v', rfl, by rw [← g2]; exact DGet.k h1, p3 Hf2 H2 (ExtF.refl x2.inn) v' g3⟩
    · refine .inl ⟨Hf, ρ, rel, ?_⟩
      have e : opE ixD fa fb ρ = (fa ρ).bind fun a => (fb ρ).bind fun b => R.of (ixD2 a b) := by
        show ((fa ρ).bind fun a => (fb ρ).bind fun b => R.of (ixD a b)) = _
        cases q : fa ρ with
        | ok d =>
          have : ∀ b, ixD2 d b = ixD d b := fun b => ixD2_ne fun ks ds z => h ⟨ks, ds, by rw [q, z]⟩
          simp only [R.bind, this]
        | exc _ => rfl
        | stuck => rfl
      rw [e]
      exact p
/-- dict(d) -/
def dicB : List D → Option D
  | [.dic ks ds] => some (.dic ks ds)
  | _ => none
theorem fb_dic : FnB X T dicB .o (fun xs H Q => ∃ (a : Addr) (kvs : List (Key × V)), xs = [.ref a] ∧ Rd H a (.dK kvs) ∧ ∀ p, H p = none → Q (.ref p) (upd H p (.dK kvs))) := fun Hf H vs ds d Q s r e q => by
  unfold dicB at e
  split at e
  · cases e
    obtain ⟨v, rfl, rv⟩ := RKL.one r
    obtain ⟨a, kvs, rfl, h1, h2, h3⟩ := RK.dic s rv
    exact ⟨a, kvs, rfl, .inl h1, fun p hp => q _ Hf _ (ExtF.new s hp) ⟨p, .dK kvs, rfl, s.none hp, Old.not hp, upd_same, kvs, rfl, h2, h3⟩⟩
  · cases e
end
/-- a list repeated -/
def repLD : D → D → Option D
  | .lst ds, .int k => if 0 ≤ k ∧ k ≤ 1000 ∧ ds.length ≤ 1000 then some (.lst (List.replicate k.toNat ds).flatten) else none
  | _, _ => none
theorem rep_size {α : Type} {ds : List α} : ∀ n : Nat, (List.replicate n ds).flatten.length = n * ds.length
  | 0 => by simp
  | n + 1 => by rw [List.replicate_succ, List.flatten_cons, List.length_append, rep_size n, Nat.succ_mul, Nat.add_comm]
theorem od_repL {X : Cx} {T : List (Addr × Str)} : OpD X T repLD .o rRep := fun Hf H x y a b d Q s r1 r2 e q => by
  unfold repLD at e
  split at e
  · rename_i ds k
    split at e
    · rename_i hh
      cases e
      obtain ⟨h1, h2, h3⟩ := hh
      obtain ⟨p, vs, rfl, hs, hl, hr⟩ := RK.lst s r1
      have h5 : k.toNat ≤ 1000 := by omega
      have hb : k.toNat * ds.length ≤ 16777216 := calc k.toNat * ds.length ≤ 1000 * 1000 := Nat.mul_le_mul h5 h3
        _ ≤ 16777216 := by decide
      refine ⟨p, k, vs, rfl, RK.int r2, hs, by omega, by omega, by rw [hr.length, sizeLine_eq, Nat.mul_comm]; exact hb, fun l hl2 => ?_⟩
      exact q _ Hf _ (ExtF.new s hl2) ⟨l, _, rfl, s.none hl2, Old.not hl2, upd_same, _, rfl, by rw [rep_size, sizeLine_eq]; exact hb, RepL.rep hr _⟩
    · cases e
  · cases e
theorem units2 {k : Nat} {A : Around} (r : Room k A) : A.units + 1 < cLine := by have := r.un; omega
theorem plus_n {n : Nat} {fs : Rho → R (List D)} (h : ∀ (ρ : Rho) ds, fs ρ = .ok ds → ds.length = n) : ∀ (ρ : Rho) ds, fs ρ = .ok ds → ds.length + 1 = n + 1 := fun ρ ds e => by rw [h ρ ds e]
theorem allF {Γ : List Bool} (h : Γ.all (!·) = true) : ∀ i : Nat, Γ[i]? ≠ some true := fun i e => by
  have := List.all_eq_true.mp h true (List.mem_of_getElem? e)
  cases this
end BV
namespace BV
open PySem PySem.Spec PyProof.Rows L2
section
variable {X : Cx} {T : List (Addr × Str)} {Γ Γ' Γl : List Bool} {W : WX} {B : Fx} {e a b tg : Expr} {f fa fb : Rho → R D} {pos p : Pos}
/-! ### dict displays with written text keys -/
/-- a new object that is not frozen is written -/
theorem ExtF.rewr {Hf H Hf2 H2 : Hp} {q : Addr} {o o' : HO} (x : ExtF T Hf H Hf2 H2) (h0 : H q = none) (hf : Hf2 q = none) (h2 : H2 q = some o) (m : MutO o) : ExtF T Hf H Hf2 (upd H2 q o') := by
  have nD : ∀ b, Old H b → b ≠ q := fun b z e => Old.not h0 (by rw [← e]; exact z)
  refine ⟨x.sub, fun b u z => ⟨by rw [upd_ne (fun e => by rw [e, hf] at z; cases z)]; exact (x.inn b u z).1, (x.inn b u z).2⟩, fun b u z n => ?_, fun tb => ?_, x.fr, fun b z => ?_⟩
  · rw [upd_ne (nD b ⟨u, z, n⟩)]
    exact x.ext b u z n
  · intro pp hp
    obtain ⟨ps, a1, a2, a3⟩ := x.tab tb pp hp
    refine ⟨ps, by rw [upd_ne (fun e => by rw [e, h2] at a1; exact m.ntbl ps (Option.some.inj a1))]; exact a1, a2, fun pos' cv hcv => ?_⟩
    obtain ⟨c0, e1, e2⟩ := a3 pos' cv hcv
    refine ⟨c0, e1, ?_⟩
    rw [upd_ne (fun e => by
      rw [e, h2] at e2
      have e3 := Option.some.inj e2
      rw [e3] at m
      unfold LamX.CodeO at m
      cases m)]
    exact e2
  · obtain ⟨o2, k3, k4⟩ := x.kp b z
    exact ⟨o2, by rw [upd_ne (nD b z)]; exact k3, k4⟩
structure PDP (X : Cx) (T : List (Addr × Str)) (Γ : List Bool) (W : WX) (pos : Pos) (keys : List (Option Expr)) (vals : List Expr) (ks : List Str) (fs : Rho → R (List D)) : Prop where
  ex : ∃ trs, PPs X pos keys vals trs ∧ ∀ (σ : St) (H : Hp) (Q : List (V × V) → Hp → Prop), (∃ Hf ρ, RelE X.K X.mg T Γ ρ Hf σ H ∧ PostG X.K X.mg T Hf H W σ (fun ds Hf' H' => ∀ vs, RepL X.K X.mg Hf' ds vs → vs.length = ks.length → Q (ks.zip vs |>.map fun q => (.str q.1, q.2)) H') (fs ρ)) → tPairs trs σ H Q
theorem pdp_nil : PDP X T Γ W pos [] [] [] nilE := ⟨⟨[], pps_nil, fun σ H Q ⟨Hf, ρ, rel, p⟩ => p Hf H (ExtF.refl rel.sub) [] rfl rfl⟩⟩
theorem pdp_cons {k : Str} {j} {kp : Pos} {keys : List (Option Expr)} {v : Expr} {vals : List Expr} {ks : List Str} {fs : Rho → R (List D)} (hv : PD X T Γ W .v v f) (hs : PDP X T Γ W pos keys vals ks fs) : PDP X T Γ W pos (some (.Constant (.str k) j kp) :: keys) (v :: vals) (k :: ks) (consE f fs) := by
  obtain ⟨trs, h1, h2⟩ := hs.ex
  refine ⟨_, pps_cons pe_str hv h1, fun σ H Q ⟨Hf, ρ, rel, p⟩ => ⟨Hf, ρ, rel, PostG.mono (PostG.bind p) fun d Hf1 H1 e1 x1 z v rk => h2 σ H1 _ ⟨Hf1, ρ, rel.ext x1, PostG.mono (PostG.bind z.2.2) fun ds Hf2 H2 e2 x2 z2 vs rs hl => ?_⟩⟩⟩
  exact z2.2.2 Hf2 H2 (ExtF.refl x2.inn) (v :: vs) ⟨v, vs, rfl, Rep.sub x2.sub rk, rs⟩ (by simp [hl])
def dspE (ks : List Str) (fs : Rho → R (List D)) : Rho → R D := fun ρ => (fs ρ).bind fun ds => if ds.length = ks.length then .ok (.dic (ks.map .inr) ds) else .stuck
theorem mergeK_nodup : ∀ {more kvs : List (Key × V)}, ((kvs ++ more).map (·.1)).Nodup → mergeK kvs more = kvs ++ more
  | [], kvs, _ => by simp [mergeK]
  | (k, v) :: more, kvs, h => by
    have hn : (kvs.any fun kv => decide (kv.1 = k)) = false := by
      rw [Bool.eq_false_iff]
      intro z
      obtain ⟨q, h1, h2⟩ := List.any_eq_true.mp z
      rw [List.map_append, List.map_cons] at h
      exact (List.nodup_append.mp h).2.2 q.1 (List.mem_map.mpr ⟨q, h1, rfl⟩) k List.mem_cons_self (of_decide_eq_true h2)
    have e : putK kvs k v = kvs ++ [(k, v)] := by
      unfold putK
      rw [hn]
      exact if_neg (by decide)
    show mergeK (putK kvs k v) more = _
    rw [e, mergeK_nodup (by rw [List.append_assoc]; exact h), List.append_assoc]
    rfl
theorem pd_dsp {keys : List (Option Expr)} {vals : List Expr} {ks : List Str} {fs : Rho → R (List D)} (h : PDP X T Γ W pos keys vals ks fs) (hall : keys.all (·.isSome) = true) (hl : keys.length = vals.length) (h0 : keys ≠ []) (h15 : keys.length ≤ 15) (hk : ks.length ≤ 15) (hn : ks.Nodup) : PD X T Γ W .o (.Dict keys vals pos) (dspE ks fs) := by
  obtain ⟨trs, h1, h2⟩ := h.ex
  refine PE.imp (pe_disp h1 hall hl h0 h15) fun σ H Q ⟨Hf, ρ, rel, p⟩ q hq => ?_
  have x0 : ExtF T Hf H Hf (upd H q (.dK [])) := ExtF.new rel.sub hq
  refine h2 σ _ _ ⟨Hf, ρ, rel.ext x0, ?_⟩
  have p : PostE X.K X.mg T Hf H .o W σ Q ((fs ρ).bind fun ds => if ds.length = ks.length then .ok (.dic (ks.map .inr) ds) else .stuck) := p
  cases qf : fs ρ with
  | exc e =>
    rw [qf] at p
    exact fun cls dd Hf1 H1 x1 rx => p cls dd Hf1 H1 (x0.trans x1) rx
  | stuck => rw [qf] at p; exact p.elim
  | ok ds =>
  rw [qf] at p
  intro Hf1 H1 x1 vs rs hvs
  have z : PostE X.K X.mg T Hf H .o W σ Q (if ds.length = ks.length then .ok (.dic (ks.map .inr) ds) else .stuck) := p
  by_cases hd : ds.length = ks.length
  · rw [if_pos hd] at z
    have hq1 : H1 q = some (.dK []) := x1.ext q _ upd_same (fun ps z => nomatch z)
    have hf1 : Hf1 q = none := x1.fr q (Old.of upd_same (.dK [])) (rel.sub.none hq)
    refine ⟨hq1, ks.zip vs |>.map fun q => (.inr q.1, q.2), ?_, ?_, ?_⟩
    · rw [List.map_map]
      rfl
    · simp only [List.length_map, List.length_zip]
      omega
    · have hks : ((ks.zip vs).map fun q => ((Sum.inr q.1 : Key), q.2)).map (·.1) = ks.map .inr := by
        rw [List.map_map]
        have : ((fun x : Key × V => x.1) ∘ fun q : Str × V => ((Sum.inr q.1 : Key), q.2)) = (fun s : Str => (Sum.inr s : Key)) ∘ Prod.fst := rfl
        rw [this, ← List.map_map, List.map_fst_zip (by omega)]
      have hvs2 : ((ks.zip vs).map fun q => ((Sum.inr q.1 : Key), q.2)).map (·.2) = vs := by
        rw [List.map_map]
        have : ((fun x : Key × V => x.2) ∘ fun q : Str × V => ((Sum.inr q.1 : Key), q.2)) = Prod.snd := rfl
        rw [this, List.map_snd_zip (by omega)]
      have em := mergeK_nodup (kvs := []) (more := (ks.zip vs).map fun q => ((Sum.inr q.1 : Key), q.2)) (by
        rw [List.nil_append, hks]
        exact List.Pairwise.map _ (fun a b h z => h (Sum.inr.inj z)) hn)
      rw [List.nil_append] at em
      rw [em]
      have xx := (x0.trans x1).rewr (o' := .dK ((ks.zip vs).map fun q => ((Sum.inr q.1 : Key), q.2))) hq hf1 hq1 (.dK [])
      exact z Hf1 _ xx (.ref q) ⟨q, _, rfl, hf1, Old.not hq, upd_same, _, rfl, hks, by rw [hvs2]; exact rs⟩
  · rw [if_neg hd] at z
    exact z.elim
/-! ### several targets -/
def setT (t : Tg) (f : Rho → R D) : Rho → RS := fun ρ => RS.bind (f ρ) fun d => RS.bind (t.set d ρ).calm .nx
theorem pds_setT {t : Tg} (he : PD X B.T Γ B.W .v e f) (hg : PDG X tg t) (hs : swapsWithSole [tg] e pos.line X.env = pure false := by rfl) (hw : swappedStores [tg] e X.env = pure none := by rfl)
    (h1 : (assignEach [tg] X.env).map (·.2) = [assign tg X.env] := by rfl) : PDS X B Γ (t.gam Γ) Γl (.Assign [tg] e pos) (setT t f) := fun Hf0 H0 =>
  PS.imp (ps_asg he hg hs hw h1) fun De σ H ⟨Hf, ρ, r, p⟩ => ⟨Hf, ρ, r.e, PostG.mono (PostS.bind r.x p) fun d Hf1 H1 e1 x1 z v rk => by
    have z := z.2.2
    have r1 := r.ext x1
    cases q : t.set d ρ with
    | exc _ => rw [q] at z; exact z.elim
    | stuck => rw [q] at z; exact z.elim
    | ok ρ' =>
      rw [q] at z
      exact t.ok (H0 := H0) r1.e r1.fr rk q fun σ' _ r2 fr2 => z Hf1 σ' H1 ⟨r2, r1.x, fr2⟩⟩
def parS (i j : Nat) (fs : Rho → R (List D)) : Rho → RS := fun ρ => RS.bind (fs ρ) fun ds => match ds with
  | [c, d] => .nx ((ρ.set i (some c)).set j (some d))
  | _ => .stuck
theorem pds_par {i j : Nat} {x y : Str} {fs : Rho → R (List D)} {px py pt : Pos} {kt k2 pt2} (hc : X.calm = true) (hN : X.N.Nodup) (hi : X.N[i]? = some x) (hj : X.N[j]? = some y) (hij : i ≠ j)
    (hx : X.env.scope.names.lookup x = some .local) (hy : X.env.scope.names.lookup y = some .local) (ha : PDA X B.T Γ B.W .v [a, b] fs)
    (hw : swappedStores [.Tuple [.Name x px, .Name y py] kt pt] (.Tuple [a, b] k2 pt2) X.env = pure (some [x, y]))
    (hs : swapsWithSole [.Tuple [.Name x px, .Name y py] kt pt] (.Tuple [a, b] k2 pt2) pos.line X.env = pure false := by rfl) :
    PDS X B Γ ((Γ.set i false).set j false) Γl (.Assign [.Tuple [.Name x px, .Name y py] kt pt] (.Tuple [a, b] k2 pt2) pos) (parS i j fs) := fun Hf0 H0 =>
  PS.imp (ps_par hc hN hi hj hij hx hy ha hw hs) fun De σ H ⟨Hf, ρ, r, p⟩ => ⟨Hf, ρ, r.e, PostG.mono (PostS.bind r.x p) fun ds Hf1 H1 e1 x1 z vs rks => by
    have z := z.2.2
    have r1 := r.ext x1
    match ds, z with
    | [c, d], z =>
      obtain ⟨u, v, rfl, ru, rv⟩ := RKL.two rks
      exact ⟨u, v, rfl, z Hf1 _ H1 ⟨(r1.e.setv i ru).setv j rv, r1.x, (r1.fr.setv i).setv j⟩⟩
    | [], z => exact z.elim
    | [_], z => exact z.elim
    | _ :: _ :: _ :: _, z => exact z.elim⟩
/-! ### enumerate, zip of lists -/
def enumL (i : Nat) : List D → List D
  | [] => []
  | d :: ds => .tup [.int (i : Nat), d] :: enumL (i + 1) ds
theorem enumL_get {d : D} : ∀ {ds : List D} {i j : Nat}, (enumL i ds)[j]? = some d → ∃ c, ds[j]? = some c ∧ d = .tup [.int ((i + j : Nat) : Int), c]
  | [], _, _, h => by simp [enumL] at h
  | c :: ds, i, 0, h => by
    simp [enumL] at h
    exact ⟨c, by simp, h.symm⟩
  | c :: ds, i, j + 1, h => by
    have h : (enumL (i + 1) ds)[j]? = some d := by simpa [enumL] using h
    obtain ⟨c', h1, h2⟩ := enumL_get h
    exact ⟨c', by simpa using h1, by rw [h2]; congr 4; omega⟩
theorem enumL_len : ∀ {ds : List D} {i : Nat}, (enumL i ds).length = ds.length
  | [], _ => rfl
  | d :: ds, i => by simp [enumL, enumL_len]
theorem pair_new {K : PySem.W.Frag} {mg : Str → Option Value} {Hf H : Hp} {t : Addr} {u v : V} {c d : D} (s : Sub Hf H) (ht : H t = none) (hu : Rep K mg Hf c u) (hv : Rep K mg Hf d v) : ∃ Hf', ExtF T Hf H Hf' (upd H t (.tup [u, v])) ∧ Rep K mg Hf' (.tup [c, d]) (.ref t) := by
  have x : ExtF T Hf H (upd Hf t (.tup [u, v])) (upd H t (.tup [u, v])) := ExtF.newF s ht (fun ps z => nomatch z)
  exact ⟨_, x, t, [u, v], rfl, SqT.of upd_same, by show 2 ≤ sizeLine; rw [sizeLine_eq]; decide, u, _, rfl, Rep.sub x.sub hu, v, _, rfl, Rep.sub x.sub hv, rfl⟩
def enumE (f : Rho → R D) : Rho → R (List D) := fun ρ => (f ρ).bind fun d => match d with
  | .lst ds => .ok (enumL 0 ds)
  | _ => .stuck
theorem pdi_enum {elts : List Expr} {kk : Nat} {tpos : Pos} (hg : Gl X "enumerate") (hm : X.mg "enumerate" = none) (ha : PD X T Γ W .v e f) (hs : starEach [e] X.env = [(false, eval e X.env)] := by rfl) : PDI X T Γ W (.Tuple elts kk tpos) (.Call (.Name "enumerate" p) [e] [] pos) (enumE f) :=
  PI.imp (pi_enum hg hm (pa_cons ha pa_nil (by rw [hs]; rfl)) hs) fun σ H R ⟨Hf, ρ, rel, q⟩ => ⟨Hf, ρ, rel, PostG.mono (PostG.bind q) fun d Hf1 H1 e1 x1 z v rk => by
    have z := z.2.2
    cases d with
    | lst ds =>
      obtain ⟨a, vs, rfl, h1, h2, h3⟩ := rk
      have sq : SqL X.K H1 a vs := SqL.of (x1.inn _ _ h1).1
      refine ⟨a, vs, rfl, sq, z Hf1 H1 (ExtF.refl x1.inn) _ (fun j Hf' H' s1 s2 => ?_) (by rw [enumL_len]; exact h2)⟩
      have lq : SqL X.K H' a vs := SqL.of (s2 _ _ (s1 _ _ h1).1).1
      refine ⟨fun d hd => ?_, fun l => ⟨vs, lq, by rw [h3.length]; rw [enumL_len] at l; exact l⟩⟩
      obtain ⟨c, hc, rfl⟩ := enumL_get hd
      obtain ⟨v, hv, rv⟩ := h3.get hc
      refine ⟨⟨vs, v, lq, hv⟩, fun y H2 ⟨t, y', e3, ht, eH, q2⟩ => ?_⟩
      have q3 := q2 vs lq
      rw [hv] at q3
      cases q3
      subst e3 eH
      rw [Nat.zero_add]
      exact pair_new s2 ht (show Rep X.K X.mg Hf' (.int (j : Nat)) (.int (j : Nat)) from rfl) (Rep.sub s1 rv)
    | _ => exact z.elim⟩
def zipL : List D → List D → List D
  | a :: as, b :: bs => .tup [a, b] :: zipL as bs
  | _, _ => []
theorem zipL_get {d : D} : ∀ {as bs : List D} {j : Nat}, (zipL as bs)[j]? = some d → ∃ a b, as[j]? = some a ∧ bs[j]? = some b ∧ d = .tup [a, b]
  | [], _, _, h => by simp [zipL] at h
  | _ :: _, [], _, h => by simp [zipL] at h
  | a :: as, b :: bs, 0, h => by
    simp [zipL] at h
    exact ⟨a, b, by simp, by simp, h.symm⟩
  | a :: as, b :: bs, j + 1, h => by
    have h : (zipL as bs)[j]? = some d := by simpa [zipL] using h
    obtain ⟨a', b', h1, h2, h3⟩ := zipL_get h
    exact ⟨a', b', by simpa using h1, by simpa using h2, h3⟩
theorem zipL_len : ∀ {as bs : List D}, (zipL as bs).length = min as.length bs.length
  | [], _ => by simp [zipL]
  | _ :: _, [] => by simp [zipL]
  | a :: as, b :: bs => by simp [zipL, zipL_len, Nat.succ_min_succ]
def zipE (fs : Rho → R (List D)) : Rho → R (List D) := fun ρ => (fs ρ).bind fun ds => match ds with
  | [.lst as, .lst bs] => .ok (zipL as bs)
  | _ => .stuck
theorem pdi_zip {elts : List Expr} {kk : Nat} {tpos : Pos} {fs : Rho → R (List D)} (hg : Gl X "zip") (hm : X.mg "zip" = none) (ha : PDA X T Γ W .v [a, b] fs)
    (hs : starEach [a, b] X.env = (false, eval a X.env) :: starEach [b] X.env := by rfl) (hpl : (backTo pos (starEach [b] X.env)).any (·.1) = false := by rfl) : PDI X T Γ W (.Tuple elts kk tpos) (.Call (.Name "zip" p) [a, b] [] pos) (zipE fs) :=
  PI.imp (pi_zip hg hm ha hs hpl) fun σ H R ⟨Hf, ρ, rel, q⟩ => ⟨Hf, ρ, rel, PostG.mono (PostG.bind q) fun ds Hf1 H1 e1 x1 z vs rks => by
    have z := z.2.2
    match ds, z, rks with
    | [.lst as, .lst bs], z, rks =>
    obtain ⟨u, v, rfl, ⟨a1, us, rfl, h1, h2, h3⟩, ⟨b1, ws, rfl, g1, g2, g3⟩⟩ := RKL.two rks
    refine ⟨a1, b1, us, ws, rfl, SqL.of (x1.inn _ _ h1).1, SqL.of (x1.inn _ _ g1).1, z Hf1 H1 (ExtF.refl x1.inn) _ (fun j Hf' H' s1 s2 => ?_) (by rw [zipL_len]; omega)⟩
    have l1 : SqL X.K H' a1 us := SqL.of (s2 _ _ (s1 _ _ h1).1).1
    have l2 : SqL X.K H' b1 ws := SqL.of (s2 _ _ (s1 _ _ g1).1).1
    refine ⟨fun d hd => ?_, fun l => ⟨us, ws, l1, l2, by rw [h3.length, g3.length]; rw [zipL_len] at l; omega⟩⟩
    obtain ⟨c, d', hc, hd', rfl⟩ := zipL_get hd
    obtain ⟨u, hu, ru⟩ := h3.get hc
    obtain ⟨w, hw, rw_⟩ := g3.get hd'
    refine ⟨⟨us, ws, u, w, l1, l2, hu, hw⟩, fun y H2 ⟨t, y1, y2, e3, ht, eH, q2, q3⟩ => ?_⟩
    have q2 := q2 us l1
    have q3 := q3 ws l2
    rw [hu] at q2
    rw [hw] at q3
    cases q2
    cases q3
    subst e3 eH
    exact pair_new s2 ht (Rep.sub s1 ru) (Rep.sub s1 rw_)
    | [], z, _ => exact z.elim
    | [d1], z, _ => cases d1 <;> exact z.elim
    | d1 :: d2 :: _ :: _, z, _ => cases d1 <;> cases d2 <;> exact z.elim
    | [.lst as, .int _], z, _ => exact z.elim⟩
/-! ### slices of texts, tuples and lists, as values -/
def sliV : D → Option Int → Option Int → Option D
  | .lst ds, lo, hi => some (.lst (cutL ds lo hi))
  | .str x, lo, hi => some (.str (cutS x lo hi))
  | .tup ds, lo, hi => some (.tup (cutL ds lo hi))
  | _, _, _ => none
abbrev rSlV (K : PySem.W.Frag) : V → Option Int → Option Int → Hp → VK → Prop := fun x lo hi H Q => rSlU K x lo hi H Q ∨ rSlL K x lo hi H Q
theorem sl_V : SlR X (rSlV X.K) := sl_U.or sl_list
theorem sd_V : SlD X T sliV .v (rSlV X.K) := fun Hf H x a d lo hi Q s r e q => by
  cases a with
  | lst ds =>
    have e : some (D.lst (cutL ds lo hi)) = some d := e
    cases e
    obtain ⟨p, ws, rfl, h1, h2, h3⟩ := RK.lst s r
    refine .inr ⟨p, ws, rfl, SqL.of h1, fun l hl => ?_⟩
    have x2 : ExtF T Hf H (upd Hf l (.lst (cutV ws lo hi))) (upd H l (.lst (cutV ws lo hi))) := ExtF.newF s hl (fun ps z => nomatch z)
    exact q _ _ _ x2 ⟨l, _, rfl, upd_same, Nat.le_trans (cutL_len ds lo hi) h2, RepL.sub x2.sub (h3.cut lo hi)⟩
  | str x => exact .inl (sd_U Hf H _ _ d lo hi Q s r e q)
  | tup ds => exact .inl (sd_U Hf H _ _ d lo hi Q s r e q)
  | _ => cases e
end
end BV
namespace L2
open PySem PySem.Spec PyProof.Rows
theorem tmul_one (l : Addr) (its : Array Value) (n : Nat) (dd : Option Addr) (sl : Array (Option Value)) (u : Tok) :
    Meets (Builtin.«tuple.__mul__» ⟨[.ref l, .int 1 u], []⟩) (fun _ R s => s.heap.get? l = some { cls := .type "tuple", dict := dd, data := .seq its n, slots := sl } ∧ R (.ok (.ret (Value.ref l))) s) :=
  .of_wp fun prog w A R s h => by
    obtain ⟨hp, g, d, tk, os⟩ := s
    obtain ⟨hl, h⟩ := h
    have f1 := AutoSeq1.idx_int
    wp_walk using wpAny_loadPart' hl
    exact ⟨_, rfl, h⟩
def rRep1 (K : PySem.W.Frag) : R2 := fun x y H Q => ∃ l xs, x = .ref l ∧ y = .int 1 ∧ SqT K H l xs ∧ Q (.ref l) H
theorem op_rep1 {X : Cx} : OpR X (binaryOp .Mult) (rRep1 X.K) := fun pins s σ H x y v u Q I rx ry h => by
  obtain ⟨l, xs, rfl, rfl, hT, q⟩ := h
  cases rx
  obtain ⟨t, rfl⟩ := ry
  obtain ⟨its, r, ⟨⟨cls, dd, data, sl⟩, ho, hc, n, hd⟩, _⟩ := I.tuple hT
  have hc : cls = _ := hc
  have hd : data = _ := hd
  subst hc hd
  refine wpAny_binaryOp_repeat_ref (T := "tuple") (U := "int") (by decide)
    ⟨_, ho, rfl⟩ (fun z => typeIs_int z 1 t)
    noFill_tuple_mul F.fills_int_mul F.slot_int_rmul repeat_tuple
    F.slot_int_index.lookup
    (call_meets F.slot_int_rmul (typeIs_int s 1 t) F.entry_int_rmul
      (F.args_int_rmul_2 _ _) (int_rmul_tuple 1 t l its.toArray n dd sl)
      ⟨ho, rfl, ⟨_, ho, rfl⟩, call_meets F.slot_tuple_mul ⟨_, ho, rfl⟩
        F.entry_tuple_mul (F.args_tuple_mul_2 _ _)
        (tmul_one l its.toArray n dd sl t) ⟨ho, ?_⟩⟩)
  exact ⟨.ref l, H, I, rfl, q⟩
end L2
namespace BV
open PySem PySem.Spec PyProof.Rows L2
/-! ### tuple * int, once too -/
def repD2 : D → D → Option D
  | .tup ds, .int k => if ds ≠ [] ∧ 1 ≤ k ∧ k ≤ 1000 ∧ ds.length ≤ 1000 then some (.tup (List.replicate k.toNat ds).flatten) else none
  | _, _ => none
section
variable {X : Cx} {T : List (Addr × Str)}
abbrev rRepU (K : PySem.W.Frag) : R2 := fun x y H Q => rRepT K x y H Q ∨ rRep1 K x y H Q
theorem op_repU : OpR X (binaryOp .Mult) (rRepU X.K) := op_repT.or op_rep1
theorem od_repU : OpD X T repD2 .v (rRepU X.K) := fun Hf H x y a b d Q s r1 r2 e q => by
  unfold repD2 at e
  split at e
  · rename_i ds k
    split at e
    · rename_i hc
      by_cases h1 : k = 1
      · subst h1
        have r' : Rep X.K X.mg Hf (.tup ds) x := by
          rcases r1 with r | ⟨_, _, _, _, z⟩
          · exact r
          · exact z.elim
        obtain ⟨l, vs, rfl, h3, h4, h5⟩ := RK.tup s r1
        obtain rfl : d = .tup ds := by
          have e := Option.some.inj e
          rw [← e]
          simp
        refine .inr ⟨l, vs, rfl, RK.int r2, h3, q _ Hf H (ExtF.refl s) r'⟩
      · refine .inl (od_rep Hf H x y _ _ d Q s r1 r2 ?_ q)
        exact (if_pos ⟨hc.1, by omega, hc.2.2⟩ : (if ds ≠ [] ∧ 2 ≤ k ∧ k ≤ 1000 ∧ ds.length ≤ 1000 then some (D.tup (List.replicate k.toNat ds).flatten) else none) = _).trans e
    · cases e
  · cases e
end
end BV
namespace BV
open PySem PySem.Spec PyProof.Rows L2
/-! ### an exception that leaves a comprehension's block -/
theorem none_in {B B' : Heap} (hs : ∀ b o, B'.get? b = some o → B.get? b = some o) {b : Addr} (h : B.get? b = none) : B'.get? b = none := by
  cases q : B'.get? b with
  | none => rfl
  | some o => rw [hs b o q] at h; cases h
theorem ff_less {h B B' : Heap} (hs : ∀ b o, B'.get? b = some o → B.get? b = some o) : ∀ {l : List Env}, h.FunFrames B l → h.FunFrames B' l
  | [], _ => trivial
  | _ :: _, ⟨hk, ⟨L', o, hf, hb, ho, hd⟩, hr⟩ => ⟨hk, ⟨L', o, hf, none_in hs hb, ho, hd⟩, ff_less hs hr⟩
theorem held_less {B B' h : Heap} {l : List Env} {a : Addr} {Z : Obj → Prop} {L : Addr} (hs : ∀ b o, B'.get? b = some o → B.get? b = some o) (x : HandSPX.HeldZ B l a Z L h) : HandSPX.HeldZ B' l a Z L h := by
  obtain ⟨x1, x2, x3, oe, vs, T, oT, ts, y1, y2, y3, y4, y5, y6⟩ := x
  exact ⟨fun b o e => x1 b o (hs b o e), none_in hs x2, ff_less hs x3, oe, vs, T, oT, ts, y1, y2, y3, y4, none_in hs y5, y6⟩
section
variable {M : Model} {A : Around} {E : Value → Shared → Prop} {s : Shared} {env : Env} {outer : List Env} {B : Heap} {a L L' : Addr} {Z : Obj → Prop} {Q : Unit → Shared → Prop}
/-- a record of another frame: noted as one that flies -/
theorem note_other (hZ : PXN.Steady1 Z) (hfr : A.frames = some (env :: outer)) (hf : env.frame = some L) (hne : L' ≠ L) (x : HandSPX.HeldZ B (env :: outer) a Z L' s.heap)
    (hQ : ∀ h', HandSPX.HeldZ B (env :: outer) a Z L h' → s.heap.UpToSlots h' → Q () { s with heap := h' }) : wpAny M A (noteFrame (.ref a) env) Q E s := by
  obtain ⟨kb, en, fl, oe, vs, T, oT, ts, he, hz, hd, h1, nT, Te, hT, dT, h3⟩ := x
  have nr : ∀ b o, s.heap.get? b = some o → (∀ vs, o.data ≠ .fields vs) → b ≠ T := fun b o hb hn q => by
    subst q
    rw [hT] at hb
    cases hb
    exact hn ts dT
  have oth : ∀ b, b ≠ T →
      (s.heap.update T (Obj.mapFields (·.setIfInBounds 3 Value.none))).get? b = s.heap.get? b :=
    fun b hb => Heap.get?_update_other _ _ (Ne.symm hb)
  unfold noteFrame
  rw [hf]
  refine wpAny_bind (wpAny_field he hd h1 ?_)
  rw [if_pos (by simp)]
  refine wpAny_bind (wpAny_field hT dT h3 ?_)
  have e0 : ¬ ((rawInt L' == rawInt L) = true) := fun z => by
    have z : (L' : Int) = L := by simpa [rawInt] using z
    exact hne (Int.ofNat.inj z)
  rw [if_neg e0]
  refine wpAny_bind (wpAny_setField hT dT (Array.getElem?_eq_some_iff.mp h3).1 ?_)
  refine PXN.wpAny_entryZ hZ hfr
    (fl.of_keeps fun b o hb hn => ⟨o, (oth b (nr b o hb hn)).trans hb, rfl⟩)
    hf ((oth a (Ne.symm Te)).trans he)
    (fun b o hb => (oth b fun q => by rw [q, nT] at hb; cases hb).trans (kb b o hb))
    en hd (Array.getElem?_eq_some_iff.mp h1).1 hz fun h' hN => ?_
  obtain ⟨x1, x2, x3, x4⟩ := hN
  exact hQ h' ⟨x1, en, x2, x3⟩ fun b o hb hn =>
    x4 b o ((oth b (nr b o hb hn)).trans hb) hn
theorem note_any (hZ : PXN.Steady1 Z) (hfr : A.frames = some (env :: outer)) (hf : env.frame = some L) (hne : L' ≠ L) (x : Sky B (env :: outer) a Z L' s.heap)
    (hQ : ∀ h', HandSPX.HeldZ B (env :: outer) a Z L h' → s.heap.UpToSlots h' → Q () { s with heap := h' }) : wpAny M A (noteFrame (.ref a) env) Q E s := by
  rcases x with ⟨hB, hn, hl, oe, vs, he, hz, hd, h1⟩ | fl | hh
  · exact PXN.look_newZ hZ hfr hl hf he hB hn hd h1 hz hQ
  · exact PXN.looks_onZ hZ hfr hf fl hQ
  · exact note_other hZ hfr hf hne hh hQ
end
/-- the state's reading does not look at what exceptions owe -/
theorem Inv.xe {X : Cx} {pins : List (Addr × Obj)} {σ : St} {H : Hp} {s : Shared} {f : Value → Shared → Prop} (I : Inv X pins σ H s) : Inv { X with xe := f } pins σ H s :=
  ⟨⟨I.ok.mod, I.ok.kind, I.ok.glob, I.ok.blt, I.ok.above, I.ok.inj, I.ok.has, I.ok.cab, I.ok.hd, I.ok.frames, I.ok.stk, I.ok.exf, I.ok.bs, I.ok.bsz, I.ok.noex, I.ok.exfs, I.ok.funs, I.ok.frf⟩, I.os, I.bare, I.base, I.loc, I.cell, I.free, I.freeC, I.pin, I.hok, I.len⟩
theorem Inv.unxe {X : Cx} {pins : List (Addr × Obj)} {σ : St} {H : Hp} {s : Shared} {f : Value → Shared → Prop} (I : Inv { X with xe := f } pins σ H s) : Inv X pins σ H s := by
  have := Inv.xe (f := X.xe) I
  exact this
/-- the block whose element may raise -/
abbrev blkX (X : Cx) (s : Shared) (H : Hp) (scope : Scope) (cenv : Env) (fp : List Addr) (W : WX) : Cx := { X.blk s H scope cenv fp with xe := L2N.XE (X.blk s H scope cenv fp) W }
theorem takesB {X : Cx} {s : Shared} {H : Hp} {scope : Scope} {cenv : Env} {fp : List Addr} {W : WX} : L2N.Takes (blkX X s H scope cenv fp W) W := fun u s' ⟨a, B, sI, pins, σ, H', cls, d, e, I, r⟩ => ⟨a, B, sI, pins, σ, H', cls, d, e, Inv.unxe I, r⟩
theorem block_fails {X : Cx} {pins : List (Addr × Obj)} {σ : St} {H3 : Hp} {s3 : Shared} {scope : Scope} {cl : List (Str × Addr)} {ce : Env} {fp : List Addr} {W Wb : WX} {u : Value} {s' : Shared}
    (hs : X.stack = X.env :: X.outer) (hf : X.env.frame = some X.env.locals) (tk : L2N.Takes X W) (I3 : Inv X pins σ H3 s3) (hce : ce = compEnvC scope cl s3.heap.objs.size X.env)
    (f3 : ∀ b ∈ fp, FpOk X pins H3 b ∧ b < s3.heap.objs.size) (hW : ∀ cls d σ' H', Wb cls d σ' H' → W cls d σ H') (hx : L2N.XE (X.blk s3 H3 scope ce fp) Wb u s') :
    notedBy (model X.prog X.w) X.A ce (fun x s'' => CompFails (model X.prog X.w) X.A X.xe ce x s'') u s' := by
  obtain ⟨a, B, sI, pn, σ', H', cls, d, rfl, I, nb, up, sky, na, os, ag, w⟩ := hx
  have cL : ce.locals = s3.heap.objs.size := by rw [hce]; rfl
  have cF : ce.frame = X.env.frame := by rw [hce]; rfl
  have I7 : Inv X pins σ H' sI := I3.call' (ch := fp) I.os I.base I.hok I.bare fun b hb =>
    ⟨(f3 b hb).1.2.2.2.1, (f3 b hb).1.2.1, (f3 b hb).1.2.2.2.2.1, (f3 b hb).1.2.2.2.2.2⟩
  have nC : H' s3.heap.objs.size = none := by
    have z : H' ce.locals = none := I.free
    rw [cL] at z
    exact z
  have fC : FpOk X pins H' s3.heap.objs.size := I3.fpOk (Nat.le_refl _) nC
  obtain ⟨m, hn, _⟩ := I.loc
  have hn : sI.heap.Ns ce.locals m := hn
  show wpAny _ X.A (noteFrame (.ref a) ce) _ _ s'
  rw [noteFrame_env (.ref a) cF]
  have sky : Sky B (X.env :: X.outer) a (L2N.Zn cls d) ce.locals s'.heap := by
    rw [← hs]
    exact sky
  refine note_any L2N.Zn.steady (by rw [I7.ok.frames, hs]) hf (by rw [cL]; exact fC.2.1) sky fun h1 hh up1 => ?_
  have hn1 : h1.Ns ce.locals m := (hn.upToSlots up).upToSlots up1
  refine ⟨m, hn1, fun h2 m2 hn2 sb => ?_⟩
  have lessB : ∀ b o, (PySem.W.hideAll B [ce.locals]).get? b = some o → B.get? b = some o := fun b o e => PySem.W.of_hideAll _ e
  have nB : (PySem.W.hideAll B [ce.locals]).get? ce.locals = none := PySem.W.hideAll_none _ (by simp)
  obtain ⟨k1, k2, k3, oe, vs, T, oT, ts, y1, y2, y3, y4, y5, y6, y7, y8, y9⟩ := held_less lessB hh
  have notC : ∀ {b : Addr} {o : Obj} {vs : Array Value}, h1.get? b = some o → o.data = .fields vs → b ≠ ce.locals := fun {b o vs} e dd q => by
    subst q
    obtain ⟨oL, es, ep, hoL, hdL, _⟩ := hn1
    rw [hoL] at e
    cases e
    rw [hdL] at dd
    cases dd
  have hh2 : HandSPX.HeldZ (PySem.W.hideAll B [ce.locals]) (X.env :: X.outer) a (L2N.Zn cls d) X.env.locals h2 :=
    ⟨fun b o e => (sb.2 b fun q => by rw [q, nB] at e; cases e).trans (k1 b o e), k2, Heap.FunFrames.sameBut sb hn2 k3,
      oe, vs, T, oT, ts, (sb.2 a (notC y1 y3)).trans y1, y2, y3, y4, y5, y6, (sb.2 T (notC y7 y8)).trans y7, y8, y9⟩
  unfold PySem.passOn
  refine wpAny_bind (wpAny_field ((sb.2 a (notC y1 y3)).trans y1) y3 y4 ?_)
  rw [if_neg (by simp), cF, hf]
  refine wpAny_bind (HandSPX.setFlight_onZ hh2 fun h3 hh3 up3 => wpAny_throw (tk _ _ ?_))
  have ne : ∀ {b : Addr} {o : Obj}, (PySem.W.hideAll sI.heap [ce.locals]).get? b = some o → b ≠ ce.locals := fun {b o} e q => by
    rw [q, PySem.W.hideAll_none _ (by simp)] at e
    cases e
  refine ⟨a, PySem.W.hideAll B [ce.locals], { sI with heap := PySem.W.hideAll sI.heap [ce.locals] }, pins, σ, H', cls, d, rfl, ?_, fun b o e hb => ?_, fun b o e hnf => ?_, .inr (.inr (by rw [hs]; exact hh3)), na, os, ag, hW _ _ _ _ w⟩
  · obtain ⟨f0, f1, _, f3', f4, f5⟩ := fC
    refine I7.turned (t' := sI.toks) (it := s3.heap.objs.size) (fun b o hb e => ?_) f0 f1 f3' f4 f5
    exact PySem.W.hideAll_get _ e (by rw [cL]; simpa using hb)
  · exact PySem.W.hideAll_get _ (nb b o (PySem.W.of_hideAll _ e) hb) (by simpa using ne e)
  · obtain ⟨l1, e1⟩ := up b o (PySem.W.of_hideAll _ e) hnf
    obtain ⟨l2, e2⟩ := up1 b _ e1 hnf
    obtain ⟨l3, e3⟩ := up3 b _ ((sb.2 b (ne e)).trans e2) hnf
    exact ⟨l3, e3⟩
end BV
namespace BV
open PySem PySem.Spec PyProof.Rows L2
/-! ### a list comprehension whose element may raise -/
theorem pe_lcX {X : Cx} {W : WX} {elt tg iter : Expr} {ifs : List Expr} {scope : Scope} {own : List (Str × Nat)} {pos : Pos} {wi : TI} {g : TG} {tt : TT} {te : St → TE}
    (hst : X.stack = X.env :: X.outer) (hfr : X.env.frame = some X.env.locals) (tk : L2N.Takes X W) (hc : X.calm = true) (hN : X.N.Nodup)
    (hi : PI X tg iter wi) (ok : BlkOk X.N X.env.scope scope own)
    (hg : ∀ (σ0 : St) (s : Shared) (H : Hp) (C : Addr) (cl : List (Str × Addr)) (fp : List Addr), PG (blkX X s H scope (compEnvC scope cl C X.env) fp fun c d _ H => W c d σ0 H) tg g)
    (ht : ∀ (σ0 : St) (s : Shared) (H : Hp) (C : Addr) (cl : List (Str × Addr)) (fp : List Addr), PTs (blkX X s H scope (compEnvC scope cl C X.env) fp fun c d _ H => W c d σ0 H) ifs tt)
    (he : ∀ (σ0 : St) (s : Shared) (H : Hp) (C : Addr) (cl : List (Str × Addr)) (fp : List Addr), PE (blkX X s H scope (compEnvC scope cl C X.env) fp fun c d _ H => W c d σ0 H) elt (te σ0))
    (hs : ∀ x, foldedSetIterable iter X.env x = pure x := by intro _; rfl) :
    PE X (.ListComp elt [⟨tg, iter, ifs, 0⟩] scope pos) (fun σ H Q => tLc wi g tt (te σ) (own.map (·.2)) σ H Q) := by
  refine ⟨fun pins s σ H Q I h => ?_⟩
  rw [eval_ListComp]
  have hfree : ∀ y ∈ scope.names, y.2 = .free → ∃ c, X.env.cells.lookup y.1 = some c := fun y hy e =>
    (ok.free y hy e).elim (fun k => I.ok.has _ (.inl k)) fun k => I.ok.has _ (.inr k)
  refine comprehension_at (use := none) rfl hs (closure_ok hfree) ok.kind
    (fun y hy e => by rw [ok.uniq y hy, e])
    (thn (hi.run pins s σ H _ I h) fun xv s1 hx => thn hx fun itv s2 h2 => ?_)
  obtain ⟨it, fp, tn, J, H2, e, I2, T, st2, f2, q⟩ := h2
  subst e
  refine wpAny_newObj_type (newEnv_comp ?_) (by show 0 ≤ sizeLine; decide)
  generalize hD : s2.heap.objs.size = D
  have hDn : H2 D = none := I2.hok.fresh (Nat.le_of_eq hD)
  obtain ⟨Wt, ⟨m0, w0⟩, turn⟩ := q D hDn
  generalize hs3 : ({ s2 with heap := s2.heap.push { cls := .type "list", data := .seq ([] : List Value).toArray } } : Shared) = s3
  have h3 : s3.heap = s2.heap.push { cls := .type "list", data := .seq ([] : List Value).toArray } := by rw [← hs3]
  have I3 : Inv X pins σ (upd H2 D (.lst [])) s3 := by
    rw [← hs3]
    refine I2.laid (t' := s2.toks) (fun b o e => Heap.get?_push_of_some _ e) (Nat.le_of_eq hD) ⟨Nat.zero_le _, [], 0, .nil, ?_⟩
    rw [← hD]
    exact Heap.get?_push_size _ rfl
  have f3 : ∀ b ∈ fp, FpOk X pins (upd H2 D (.lst [])) b ∧ b < s3.heap.objs.size := fun b hb => by
    obtain ⟨o, e, _⟩ := T.obj _ _ st2 b hb
    have lt := Heap.lt_size e
    refine ⟨⟨?_, (f2 b hb).2⟩, by rw [h3, Heap.size_push]; exact Nat.lt_succ_of_lt lt⟩
    rw [upd_ne (by rw [← hD]; exact Nat.ne_of_lt lt)]
    exact (f2 b hb).1
  have st3 : tn 0 s3.heap := T.keep _ _ _ st2 fun b _ o e => by
    rw [h3]
    exact Heap.get?_push_of_some _ e
  have I4 := block_start I3 ok hN f3
  generalize hcl : cellsFrom (s3.heap.objs.size + 1) scope.names (cloFrom X.env.cells scope.names []) = clo at I4
  have pg := hg σ s3 (upd H2 D (.lst [])) s3.heap.objs.size clo fp
  have pt := ht σ s3 (upd H2 D (.lst [])) s3.heap.objs.size clo fp
  have pe := he σ s3 (upd H2 D (.lst [])) s3.heap.objs.size clo fp
  have nfp : ∀ b ∈ fp, (upd H2 D (.lst [])) b = none := fun b hb => (f3 b hb).1.1
  subst hcl
  show codeAny _ _ (.compStart (.ListComp elt [⟨tg, iter, ifs, 0⟩] scope pos) 0 (.ref it) (.ref D)
      (compEnvC scope (cellsFrom (s3.heap.objs.size + 1) scope.names (cloFrom X.env.cells scope.names [])) s3.heap.objs.size X.env))
    (compEnds (model X.prog X.w) X.A X.xe none (EP X pins σ Q) (.ref D)
      (compEnvC scope (cellsFrom (s3.heap.objs.size + 1) scope.names (cloFrom X.env.cells scope.names [])) s3.heap.objs.size X.env))
    { s3 with heap := pushCells (s3.heap.push { cls := .type "dict", data := .dict #[] }) scope.names }
  generalize hce : compEnvC scope (cellsFrom (s3.heap.objs.size + 1) scope.names (cloFrom X.env.cells scope.names [])) s3.heap.objs.size X.env = ce at I4 pg pt pe ⊢
  have cL : ce.locals = s3.heap.objs.size := by subst hce; rfl
  generalize hH3 : upd H2 D (.lst []) = H3 at I3 I4 pg pt pe w0 nfp f3
  generalize hs4 : ({ s3 with heap := pushCells (s3.heap.push { cls := .type "dict", data := .dict #[] }) scope.names } : Shared) = s4 at I4 ⊢
  have st4 : tn 0 s4.heap := T.keep _ _ _ st3 fun b _ o e => by
    rw [← hs4]
    exact pushCells_keeps _ _ _ _ (Heap.get?_push_of_some _ e)
  have bad : ∀ u s', L2N.XE (X.blk s3 H3 scope ce fp) (fun c d _ H => W c d σ H) u s' → notedBy (model X.prog X.w) X.A ce (fun e s'' => compEnds (model X.prog X.w) X.A X.xe none (EP X pins σ Q) (.ref D) ce (.error e) s'') u s' :=
    fun u s' x => block_fails hst hfr tk I3 hce.symm f3 (fun _ _ _ _ z => z) x
  obtain ⟨Wb, hWb⟩ : ∃ Wb : WX, (fun c d _ H => W c d σ H) = Wb := ⟨_, rfl⟩
  rw [hWb] at bad pg pt pe
  have stat : ∀ {σ' : L2.St} {H' : Hp} {s' : Shared}, Inv (X.blk s3 H3 scope ce fp) [] σ' H' s' → (∀ b ∈ fp, H' b = none) → ∀ b ∈ fp, FpOk (X.blk s3 H3 scope ce fp) [] H' b :=
    fun {σ' H' s'} J hn b hb => ⟨hn b hb, (J.ok.exf b hb).1, J.ok.exfs b hb, .inl hb,
      fun x c e => (J.ok.exf b hb).2 x c e, fun p hp => by cases hp⟩
  have loop : codeAny (model X.prog X.w) X.A (.compLoop (.ListComp elt [⟨tg, iter, ifs, 0⟩] scope pos) 0 (.ref it) (.ref D) ce)
      (compEnds (model X.prog X.w) X.A X.xe none (EP X pins σ Q) (.ref D) ce) s4 := by
    refine compLoop_any (fun n s' => ∃ i H', Inv (X.blk s3 H3 scope ce fp) [] (wipe σ (own.map (·.2))) H' s' ∧
      tn i s'.heap ∧ (∀ b ∈ fp, H' b = none) ∧ Wt i n H') ?_ m0 ⟨0, H3, I4, st4, nfp, w0⟩
    rintro n s5 ⟨i, H5, I5, st5, n5, w5⟩
    rcases turn i n H5 w5 with ⟨stop, qq⟩ | ⟨go, Nx, hNx, step⟩
    · refine thnF (T.done (X.blk s3 H3 scope ce fp) rfl rfl rfl hc i [] s5 _ H5 (fun _ _ => False)
        I5 (stat I5 n5) st5 stop) fun r s6 ⟨hr, I6⟩ => ?_
      subst hr
      have I7 : Inv X pins σ H5 s6 := I3.call' (ch := fp) I6.os I6.base I6.hok I6.bare fun b hb =>
        ⟨(f3 b hb).1.2.2.2.1, (f3 b hb).1.2.1, (f3 b hb).1.2.2.2.2.1, (f3 b hb).1.2.2.2.2.2⟩
      have nC : H5 s3.heap.objs.size = none := by
        have z : H5 ce.locals = none := I6.free
        rw [cL] at z
        exact z
      obtain ⟨m, hn, _⟩ := I6.loc
      have hn : s6.heap.Ns ce.locals m := hn
      obtain ⟨f0, f1, _, g3, g4, g5⟩ := I3.fpOk (Nat.le_refl _) nC
      refine ⟨m, hn, fun h'' sb => ⟨.ref D, H5, ?_, rfl, qq⟩⟩
      exact I7.turned (t' := s6.toks) (fun b o hb e => (sb.2 b (by rw [cL]; exact hb)).trans e) f0 f1 g3 g4 g5
    · refine thnF (T.item (X.blk s3 H3 scope ce fp) rfl rfl rfl hc i [] s5 _ H5 (fun _ _ => False)
        I5 (stat I5 n5) st5 go) fun r s6 ⟨u, hr, h6⟩ => ?_
      subst hr
      refine thnF h6 fun _ s7 ⟨x, H7, I7, r7, y7, st7, n7⟩ => ?_
      have I7' := I7.pinned (stat I7 n7) (T.obj _ _ st7)
      refine wpAny_mono (pg.run _ s7 _ H7 x u _ (Inv.xe I7') r7 (step x H7 y7)) (fun _ s8 ⟨σ8, H8, I8, hw8, q8⟩ => ?_) bad
      refine wpAny_mono (pt.run _ s8 σ8 H8 _ I8 q8) (fun b s9 ⟨H9, I9, q9⟩ => ?_) bad
      have fin : ∀ {s' : Shared} {H' : Hp}, Inv (blkX X s3 H3 scope ce fp Wb) ([] ++ pinsAt fp s7.heap) σ8 H' s' → Nx H' →
          ∃ m, m < n ∧ ∃ i H', Inv (X.blk s3 H3 scope ce fp) [] (wipe σ (own.map (·.2))) H' s' ∧ tn i s'.heap ∧ (∀ b ∈ fp, H' b = none) ∧ Wt i m H' := fun {s' H'} J0 nx => by
        have J := Inv.unxe J0
        obtain ⟨m', hm, w'⟩ := hNx H' nx
        have pin' : ∀ b ∈ fp, ∀ o, s7.heap.get? b = some o → s'.heap.get? b = some o ∧ H' b = none := fun b hb o e =>
          let z := J.pin (b, o) (List.mem_append_right _ (List.mem_append_right _ (mem_pinsAt hb e)))
          ⟨z.1, z.2.1⟩
        have hl : (wipe σ (own.map (·.2))).length = σ8.length := by rw [← hw8, wipe_length]
        refine ⟨m', hm, i + 1, H', (J.unpinned (pins := [])).weak hl (fun j v e => ?_),
          T.keep _ _ _ st7 fun b hb o e => (pin' b hb o e).1, fun b hb => ?_, w'⟩
        · rw [← hw8] at e
          exact (wipe_some e).1
        · obtain ⟨o, e, _⟩ := T.obj _ _ st7 b hb
          exact (pin' b hb o e).2
      cases b with
      | false => exact fin I9 q9
      | true =>
        refine wpAny_mono (pe.run _ s9 σ8 H9 _ I9 q9) (fun z s10 ⟨yv, H10, I10, r10, acc, hD10, hz10, nx⟩ => ?_) bad
        exact L2.app_ok (X := blkX X s3 H3 scope ce fp Wb) I10 hD10 hz10 r10 fun s11 I11 => fin I11 nx
  exact codeAny_compStart_list loop (T.self X.A 0 _ _ _ st4 loop)
end BV
namespace BV
open PySem PySem.Spec PyProof.Rows L2
/-! ### by value: a comprehension whose element may raise -/
def compLX (t : Tg) (c : Rho → R Bool) (f : Rho → R D) (ρ : Rho) : List D → R (List D)
  | [] => .ok []
  | d :: ds => (t.set d ρ).calm.bind fun ρ' => (c ρ').calm.bind fun b => if b = true then (f ρ').bind fun y => (compLX t c f ρ ds).bind fun ys => .ok (y :: ys) else compLX t c f ρ ds
def compEX (g : Rho → R (List D)) (vs : List Nat) (t : Tg) (c : Rho → R Bool) (f : Rho → R D) : Rho → R D := fun ρ => (g ρ).bind fun ds => (compLX t c f (wipeR ρ vs) ds).bind fun ys => .ok (.lst ys)
section
variable {X : Cx} {T : List (Addr × Str)} {Γ : List Bool} {W : WX} {k : Kd} {e a b : Expr} {f fa fb : Rho → R D} {pos : Pos} {tg : Expr}
theorem lc_impX {g : Rho → R (List D)} {t : Tg} {c : Rho → R Bool} {own : List (Str × Nat)} {σ : St} {H : Hp} {Q : VK} (hsl : (t.slots.all fun i => (own.map (·.2)).contains i) = true) (hq : tD X.K X.mg T Γ W .o (compEX g (own.map (·.2)) t c f) σ H Q) :
    tLc (fun σ H R => ∃ Hf ρ, RelE X.K X.mg T Γ ρ Hf σ H ∧ PostG X.K X.mg T Hf H W σ (fun ds Hf' H' => ∀ J, IterD X.K X.mg T J Hf' ds → ds.length ≤ sizeLine → R J H') (g ρ)) (t.g X.K) (tDT X.K X.mg T (t.gam Γ) W0 c) (tD X.K X.mg T (t.gam Γ) (fun c d _ H => W c d σ H) .v f) (own.map (·.2)) σ H Q := by
  obtain ⟨Hf, ρ, rel, p⟩ := hq
  refine ⟨Hf, ρ, rel, PostG.mono (PostG.bind p) fun ds Hf1 H1 e1 x1 z J hJ hz D hD => ?_⟩
  have z := z.2.2
  generalize hr : compLX t c f (wipeR ρ (own.map (·.2))) ds = r at z
  have h0 : ¬ Old H D := fun z => Old.not hD (x1.kp D z)
  have sub : ∀ i ∈ t.slots, i ∈ own.map (·.2) := fun i hi => by
    have := List.all_eq_true.mp hsl i hi
    simpa using this
  let Pv : Nat → Hp → Prop := fun i H' => ∃ Hf' acc done rest, RelE X.K X.mg T Γ (wipeR ρ (own.map (·.2))) Hf' (wipe σ (own.map (·.2))) H' ∧ ExtF T Hf1 H1 Hf' H' ∧ Hf' D = none ∧ H' D = some (.lst acc) ∧ RepL X.K X.mg Hf' done acc ∧ done.length ≤ i ∧
    compLX t c f (wipeR ρ (own.map (·.2))) (ds.drop i) = rest ∧ r = rest.bind fun l => .ok (done ++ l)
  have P0 : Pv 0 (upd H1 D (.lst [])) := by
    have xn : ExtF T Hf1 H1 Hf1 (upd H1 D (.lst [])) := ExtF.new x1.inn hD
    exact ⟨Hf1, [], [], r, ((rel.ext x1).ext xn).wiped _, xn, x1.inn.none hD, upd_same, rfl, Nat.le_refl _, hr, by cases r <;> rfl⟩
  refine ⟨fun i m H' => m = ds.length - i ∧ i ≤ ds.length ∧ Pv i H', ⟨ds.length, by simp, Nat.zero_le _, P0⟩, ?_⟩
  rintro i m H' ⟨rfl, hi, Hf', acc, done, rest, r1, x2, hfD, hD', hacc, hdl, hrest, hys'⟩
  by_cases hlt : i < ds.length
  · refine .inr ?_
    obtain ⟨d, hd⟩ : ∃ d, ds[i]? = some d := ⟨ds[i], List.getElem?_eq_getElem hlt⟩
    obtain ⟨hgo, hy⟩ := (hJ i Hf' H' x2.sub x2.inn).1 d hd
    refine ⟨hgo, Pv (i + 1), fun H'' p' => ⟨ds.length - (i + 1), by omega, rfl, hlt, p'⟩, fun x H2 yl => ?_⟩
    obtain ⟨Hf2, x3, hx⟩ := hy x H2 yl
    have hdrop : ds.drop i = d :: ds.drop (i + 1) := by
      rw [List.drop_eq_getElem_cons hlt]
      have : ds[i] = d := by
        rw [List.getElem?_eq_getElem hlt] at hd
        exact Option.some.inj hd
      rw [this]
    rw [hdrop] at hrest
    unfold compLX at hrest
    obtain ⟨ρ', e2⟩ : ∃ ρ', t.set d (wipeR ρ (own.map (·.2))) = .ok ρ' := by
      cases q : t.set d (wipeR ρ (own.map (·.2))) with
      | ok ρ' => exact ⟨ρ', rfl⟩
      | exc _ => rw [q] at hrest; rw [← hrest] at hys'; rw [hys'] at z; exact z.elim
      | stuck => rw [q] at hrest; rw [← hrest] at hys'; rw [hys'] at z; exact z.elim
    rw [e2] at hrest
    have hrest : ((c ρ').calm.bind fun b => if b = true then (f ρ').bind fun y => (compLX t c f (wipeR ρ (own.map (·.2))) (ds.drop (i + 1))).bind fun ys => .ok (y :: ys) else compLX t c f (wipeR ρ (own.map (·.2))) (ds.drop (i + 1))) = rest := hrest
    obtain ⟨bb, e3⟩ : ∃ bb, c ρ' = .ok bb := by
      cases q : c ρ' with
      | ok bb => exact ⟨bb, rfl⟩
      | exc _ => rw [q] at hrest; rw [← hrest] at hys'; rw [hys'] at z; exact z.elim
      | stuck => rw [q] at hrest; rw [← hrest] at hys'; rw [hys'] at z; exact z.elim
    rw [e3] at hrest
    have hrest : (if bb = true then (f ρ').bind fun y => (compLX t c f (wipeR ρ (own.map (·.2))) (ds.drop (i + 1))).bind fun ys => .ok (y :: ys) else compLX t c f (wipeR ρ (own.map (·.2))) (ds.drop (i + 1))) = rest := hrest
    have keepD : ∀ {Hfa Ha}, ExtF T Hf' H' Hfa Ha → Ha D = some (.lst acc) ∧ Hfa D = none := fun {Hfa Ha} xx => ⟨xx.ext D _ hD' (fun ps z => by cases z), xx.fr D ⟨_, hD', fun ps z => by cases z⟩ hfD⟩
    refine t.ok (H0 := fun _ => none) (r1.ext x3) (fun _ _ _ _ _ => Old.not rfl) hx e2 fun σ2 hw r2 _ => ⟨?_, ?_⟩
    · rw [hw _ sub, wipe_wipe]
    · refine ⟨Hf2, ρ', r2, PostG.okW (fun Hf3 H3 x4 => ?_) e3⟩
      split at hrest
      · rename_i hb
        rw [hb]
        refine iteT ⟨Hf3, ρ', r2.ext x4, ?_⟩
        cases e4 : f ρ' with
        | stuck =>
          rw [e4] at hrest
          rw [← hrest] at hys'
          rw [hys'] at z
          exact z.elim
        | exc e =>
          rw [e4] at hrest
          rw [← hrest] at hys'
          rw [hys'] at z
          exact fun cls dd Hf4 H4 x5 rx => z cls dd Hf4 H4 (x2.trans (x3.trans (x4.trans x5))) rx
        | ok y =>
        rw [e4] at hrest
        refine fun Hf4 H4 x5 yv ry => ?_
        have xx := x3.trans (x4.trans x5)
        obtain ⟨k1, k2⟩ := keepD xx
        have xall := x2.trans xx
        have hlen : acc.length < sizeLine := by
          rw [hacc.length]
          omega
        refine ⟨acc, k1, hlen, ?_⟩
        -- the new list is written: all that is older stands
        have xw : ExtF T Hf1 H1 Hf4 (upd H4 D (.lst (acc ++ [yv]))) := by
          have nD : ∀ b, Old H1 b → b ≠ D := fun b q z => Old.not hD (by rw [← z]; exact q)
          refine ⟨xall.sub, fun b u q => ⟨?_, (xall.inn b u q).2⟩, fun b u q n => ?_, fun tb => ?_, xall.fr, fun b q => ?_⟩
          · rw [upd_ne (fun z => by rw [z, k2] at q; cases q)]
            exact (xall.inn b u q).1
          · rw [upd_ne (nD b ⟨u, q, n⟩)]
            exact xall.ext b u q n
          · have tb4 := xall.tab tb
            intro pp hp
            obtain ⟨ps, a1, a2, a3⟩ := tb4 pp hp
            refine ⟨ps, ?_, a2, fun pos' cv hcv => ?_⟩
            · rw [upd_ne (fun z => by rw [z, k1] at a1; cases a1)]
              exact a1
            · obtain ⟨c0, e1, e2⟩ := a3 pos' cv hcv
              refine ⟨c0, e1, ?_⟩
              rw [upd_ne (fun z => by rw [z, k1] at e2; exact absurd e2 (by unfold LamX.CodeO; intro z; cases z))]
              exact e2
          · obtain ⟨o2, k3, k4⟩ := xall.kp b q
            exact ⟨o2, by rw [upd_ne (nD b q)]; exact k3, k4⟩
        refine ⟨Hf4, acc ++ [yv], done ++ [y], _, ?_, xw, k2, upd_same, RepL.append (RepL.sub xx.sub hacc) (RepL.one ry), by simp; omega, rfl, ?_⟩
        · exact ((rel.ext x1).ext xw).wiped _
        · rw [hys', ← hrest]
          show ((compLX t c f (wipeR ρ (own.map (·.2))) (ds.drop (i + 1))).bind fun ys => R.ok (y :: ys)).bind (fun l => R.ok (done ++ l)) = _
          cases compLX t c f (wipeR ρ (own.map (·.2))) (ds.drop (i + 1)) with
          | ok l => show R.ok (done ++ (y :: l)) = R.ok ((done ++ [y]) ++ l); simp
          | exc _ => rfl
          | stuck => rfl
      · rename_i hb
        rw [Bool.not_eq_true] at hb
        rw [hb]
        refine iteF ?_
        have xx := x3.trans x4
        obtain ⟨k1, k2⟩ := keepD xx
        exact ⟨Hf3, acc, done, rest, r1.ext xx, x2.trans xx, k2, k1, RepL.sub xx.sub hacc, by omega, hrest, hys'⟩
  · have e : i = ds.length := by omega
    subst e
    refine .inl ⟨(hJ ds.length Hf' H' x2.sub x2.inn).2 (Nat.le_refl _), ?_⟩
    rw [List.drop_length] at hrest
    have hrest : R.ok [] = rest := hrest
    rw [← hrest] at hys'
    have hys' : r = .ok (done ++ []) := hys'
    rw [List.append_nil] at hys'
    rw [hys'] at z
    exact z Hf' H' x2 (.ref D) ⟨D, .lst acc, rfl, hfD, h0, hD', acc, rfl, by omega, hacc⟩
theorem pd_compX {elt tg iter : Expr} {ifs : List Expr} {scope : Scope} {own : List (Str × Nat)} {g : Rho → R (List D)} {t : Tg} {c : Rho → R Bool} (hst : X.stack = X.env :: X.outer) (hfr : X.env.frame = some X.env.locals) (tk : L2N.Takes X W) (hc : X.calm = true) (hN : X.N.Nodup) (hi : PDI X T Γ W tg iter g) (ok : BlkOk X.N X.env.scope scope own)
    (hg : ∀ (W' : WX) (s : Shared) (H : Hp) (C : Addr) (cl : List (Str × Addr)) (fp : List Addr), PDG (blkX X s H scope (compEnvC scope cl C X.env) fp W') tg t)
    (ht : ∀ (W' : WX) (s : Shared) (H : Hp) (C : Addr) (cl : List (Str × Addr)) (fp : List Addr), PDTs (blkX X s H scope (compEnvC scope cl C X.env) fp W') T (t.gam Γ) W0 ifs c)
    (he : ∀ (W' : WX) (s : Shared) (H : Hp) (C : Addr) (cl : List (Str × Addr)) (fp : List Addr), PD (blkX X s H scope (compEnvC scope cl C X.env) fp W') T (t.gam Γ) W' .v elt f)
    (hsl : (t.slots.all fun i => (own.map (·.2)).contains i) = true) (hs : ∀ x, foldedSetIterable iter X.env x = pure x := by intro _; rfl) :
    PD X T Γ W .o (.ListComp elt [⟨tg, iter, ifs, 0⟩] scope pos) (compEX g (own.map (·.2)) t c f) :=
  PE.imp (pe_lcX (g := t.g X.K) (tt := tDT X.K X.mg T (t.gam Γ) W0 c) (te := fun σ0 => tD X.K X.mg T (t.gam Γ) (fun c d _ H => W c d σ0 H) .v f) hst hfr tk hc hN hi ok
    (fun _ s H C cl fp => hg _ s H C cl fp) (fun _ s H C cl fp => ht _ s H C cl fp) (fun _ s H C cl fp => he _ s H C cl fp) hs) fun σ H Q h => lc_impX hsl h
end
end BV
namespace BV
open PySem PySem.Spec PyProof.Rows L2
section
variable {X : Cx} {T : List (Addr × Str)} {Γ : List Bool} {W : WX} {a b c : Expr} {fa fb fc : Rho → R D} {pos : Pos}
/-! ### a chain of two comparisons as a test -/
theorem chn_imp {g g' : D → D → Option D} {r r' : R2} (hg : OpD X T g .v r) (hg' : OpD X T g' .v r') {σ : St} {H : Hp} {Q : VK} (h : tD X.K X.mg T Γ W .v (chnE g g' fa fb fc) σ H Q) :
    tChain r r' (tD X.K X.mg T Γ W .b fa) (tD X.K X.mg T Γ W .b fb) (tD X.K X.mg T Γ W .b fc) σ H Q := by
  obtain ⟨Hf, ρ, rel, p⟩ := h
  exact ⟨Hf, ρ, rel, PostE.bind p fun d v Hf1 H1 e1 x1 rk p1 => ⟨Hf1, ρ, rel.ext x1, PostE.bind p1 fun d2 v2 Hf2 H2 e2 x2 rk2 p2 => by
    have rel2 := (rel.ext x1).ext x2
    cases q : g d d2 with
    | none => rw [q] at p2; exact p2.elim
    | some d3 =>
      rw [q] at p2
      refine hg Hf2 H2 v v2 d d2 d3 _ x2.inn (RK.ext x2 rk) rk2 q fun v3 Hf3 H3 x3 rk3 => ?_
      obtain ⟨cc, rfl, p3⟩ := asB_bind (show PostG X.K X.mg T Hf2 H2 W σ _ (d3.asB.bind _) from p2)
      refine ⟨cc, rk3, ?_⟩
      cases cc with
      | false =>
        refine iteF ?_
        exact p3 Hf3 H3 x3 _ rfl
      | true =>
        refine iteT ⟨Hf3, ρ, rel2.ext x3, ?_⟩
        have p3 : PostE X.K X.mg T Hf2 H2 .v W σ Q ((fc ρ).bind fun z => R.of (g' d2 z)) := p3
        refine PostE.bind (PostE.shift x3 p3) fun z v4 Hf4 H4 e4 x4 rk4 p4 => ?_
        obtain ⟨d5, e5, p5⟩ := of_some p4
        exact hg' Hf4 H4 v2 v4 d2 z d5 Q x4.inn (RK.ext x4 (RK.ext x3 rk2)) rk4 e5 fun v6 Hf6 H6 x6 rk6 => p5 Hf6 H6 x6 v6 rk6⟩⟩
theorem pdt_chn {op op' : CmpOp} {g g' : D → D → Option D} {r r' : R2} (ho : OpR X (compareOp op) r) (ho' : OpR X (compareOp op') r') (ha : PD X T Γ W .b a fa) (hb : PD X T Γ W .b b fb) (hc : PD X T Γ W .b c fc) (hg : OpD X T g .v r) (hg' : OpD X T g' .v r')
    (hm : lastMarks [op, op'] [b, c] = false := by with_unfolding_all rfl) : PDT X T Γ W (.Compare a [op, op'] [b, c] pos) (tstE (chnE g g' fa fb fc)) :=
  PT.imp (pt_chain ho ho' ha hb hc hm) fun σ H Q ⟨Hf, ρ, rel, p⟩ => chn_imp hg hg' ⟨Hf, ρ, rel, PostG.mono (PostG.bind p) fun d Hf1 H1 e1 x1 z v rk => by
    obtain ⟨k, rfl, q⟩ := asB_ok z.2.2
    exact ⟨k, rk, q Hf1 H1 (ExtF.refl x1.inn)⟩⟩
end
end BV
namespace BV
open PySem PySem.Spec PyProof.Rows L2
section
variable {X : Cx} {B : Fx} {Γ Γl : List Bool} {e : Expr} {f : Rho → R D} {pos : Pos}
/-! ### a, b = a list -/
def setU (is : List Nat) (f : Rho → R D) : Rho → RS := fun ρ => RS.bind (f ρ) fun d => match d with
  | .lst ds => RS.bind (R.of (setsR is ds ρ)) .nx
  | _ => .stuck
theorem pds_setU {es : List Expr} {kk : Nat} {tp : Pos} {is : List Nat} (he : PD X B.T Γ B.W .v e f) (hc : X.calm = true) (h : PGs X es (gNames is)) (hn : (assignEach es X.env).length = is.length) (hst : (assignEach es X.env).findIdx? (·.1) = none)
    (hs : swapsWithSole [.Tuple es kk tp] e pos.line X.env = pure false := by rfl) (hw : swappedStores [.Tuple es kk tp] e X.env = pure none := by rfl)
    (h1 : (assignEach [.Tuple es kk tp] X.env).map (·.2) = [assign (.Tuple es kk tp) X.env] := by rfl) : PDS X B Γ ((Tg.many is).gam Γ) Γl (.Assign [.Tuple es kk tp] e pos) (setU is f) := fun Hf0 H0 =>
  PS.imp (ps_asg he (pg_lst hc h hn hst) hs hw h1) fun De σ H ⟨Hf, ρ, r, p⟩ => ⟨Hf, ρ, r.e, PostG.mono (PostS.bind r.x p) fun d Hf1 H1 e1 x1 z v rk => by
    have z := z.2.2
    have r1 := r.ext x1
    cases d with
    | lst ds =>
      obtain ⟨a, vs, rfl, h1, h2, h3⟩ := rk
      cases q : setsR is ds ρ with
      | none =>
        have z : PostS X.K X.mg B Hf0 H0 _ Γl De (RS.bind (R.of (setsR is ds ρ)) .nx) := z
        rw [q] at z
        exact z.elim
      | some ρ' =>
        have z : PostS X.K X.mg B Hf0 H0 _ Γl De (RS.bind (R.of (setsR is ds ρ)) .nx) := z
        rw [q] at z
        exact ⟨a, vs, rfl, SqL.of (x1.inn _ _ h1).1, by rw [h3.length]; exact setsR_len is q, gNames_ok is r1.e r1.fr h3 q fun σ' _ r2 fr2 => z Hf1 σ' H1 ⟨r2, r1.x, fr2⟩⟩
    | _ => exact z.elim⟩
end
end BV
namespace BV
open PySem PySem.Spec PyProof.Rows L2
section
variable {X : Cx} {T : List (Addr × Str)} {Γ : List Bool} {W : WX} {o e e2 : Expr} {fo fa fb : Rho → R D} {apos pos : Pos}
/-! ### d.get(k, x) -/
def getD2 : D → D → D → Option D
  | .dic ks ds, k, z => (keyD k).map fun kk => (dGet ks ds kk).getD z
  | _, _, _ => none
def getE (fo fa fb : Rho → R D) : Rho → R D := fun ρ => (fo ρ).bind fun d => match d with
  | .dic _ _ => (fa ρ).bind fun k => (fb ρ).bind fun z => R.of (getD2 d k z)
  | _ => .stuck
theorem pd_get2 (hu : X.A.units + 1 < cLine) (ho : PD X T Γ W .b o fo) (ha : PD X T Γ W .b e fa) (hb : PD X T Γ W .v e2 fb) (m : M2 X o "get" apos e e2 pos) : PD X T Γ W .v (.Call (.Attribute o "get" apos) [e, e2] [] pos) (getE fo fa fb) :=
  PE.imp (pe_dget2 hu ho ha hb m) fun σ H Q ⟨Hf, ρ, rel, p⟩ => ⟨Hf, ρ, rel, PostE.bind p fun d v Hf1 H1 e1 x1 rk p1 => by
    cases d with
    | dic ks ds =>
      obtain ⟨a, kvs, rfl, h1, h2, h3⟩ := RK.dic x1.inn rk
      refine ⟨a, rfl, .inl ⟨kvs, .inl h1⟩, Hf1, ρ, rel.ext x1, PostE.bind p1 fun k vk Hf2 H2 e3 x2 rk2 p2 => ⟨Hf2, ρ, (rel.ext x1).ext x2, PostE.bind p2 fun z vz Hf3 H3 e4 x3 rk3 p3 => ?_⟩⟩
      obtain ⟨d3, e5, p4⟩ := of_some p3
      obtain ⟨kk, hk, rfl⟩ := map_some (show (keyD k).map (fun kk => (dGet ks ds kk).getD z) = some d3 from e5)
      obtain ⟨a', kvs', e6, g1, g2, g3⟩ := RK.dic x3.inn (RK.ext x3 (RK.ext x2 rk))
      cases e6
      refine ⟨valV kvs' kk, ?_, ?_⟩
      · rw [keyD_v (RK.ext x3 rk2) hk]
        exact DGet.k g1
      · subst g2
        refine p4 Hf3 H3 (ExtF.refl x3.inn) _ ?_
        rcases dGet_ok (k := kk) g3 with ⟨q1, q2⟩ | ⟨d', v', q1, q2, q3⟩
        · rw [q1, q2]
          exact rk3
        · rw [q1, q2]
          exact q3
    | _ => exact p1.elim⟩
end
end BV
namespace BV
open PySem PySem.Spec PyProof.Rows L2
/-! ### dict != dict -/
section
variable {prog : Program} {w : World} {K : Type} [DecidableEq K] {knd : KeyKind prog w K} {A : Around} {s : Shared}
theorem ne_dicts {a b : Addr} {ka kb : List (K × Value)} {r : Bool} (ha : (a == sysModules) = false) (hb : (b == sysModules) = false)
    (da : s.heap.DictOf knd a ka) (db : s.heap.DictOf knd b kb) (hu : A.units < cLine)
    (hits : ka.length = kb.length → PySem.W.KeqHitsP prog w A.in1 s kb ka r) (E Q : Value → Shared → Prop)
    (h : Q (.bool (!(ka.length == kb.length && r))) s) :
    wpAny (model prog w) A (richCompare .NotEq (.ref a) (.ref b)) Q E s := by
  refine wpAny_richCompare_same_room (op := .NotEq) da.typeIs db.typeIs PySem.F.slot_dict_ne
    (wpAny_call_entry PySem.F.slot_dict_ne da.typeIs PySem.F.entry_dict_ne ?_ (PySem.F.args_dict_ne_2 _ _)) hu
  show wpAny _ _ (Builtin.Dict.dictSlotArgs "__ne__" ⟨[.ref a, .ref b], []⟩ >>= _) _ _ s
  refine wpAny_bind ?_
  unfold Builtin.Dict.dictSlotArgs
  refine wpAny_bind (wpAny_notOrdered_dict da.typeIs ?_)
  show wpAny _ _ (pure (Value.ref a, Value.ref b)) _ _ s
  refine wpAny_pure (wpAny_bind (wpAny_isInstance (T := "dict")
    db.typeIs PySem.F.sub_dict_dict ?_))
  rw [if_neg (by simp)]
  refine wpAny_bind (wpAny_pure (wpAny_bind (wpAny_pure
    (wpAny_bind (PySem.W.samePairsP ha hb da db hits ?_)))))
  refine wpAny_pure ⟨_, rfl, (by intro x; cases x), ?_⟩
  cases q : (ka.length == kb.length && r) with
  | true => rw [q] at h; exact h
  | false => rw [q] at h; exact h
end
section
variable {X : Cx} {T : List (Addr × Str)}
/-- two dicts of one reading -/
def rNeS (K : PySem.W.Frag) : R2 := fun x y H Q => ∃ a b ks ls, x = .ref a ∧ y = .ref b ∧ H a = some (.dK ks) ∧ H b = some (.dK ls) ∧ ks.length = ls.length ∧
  (∀ p ∈ ks, ∃ u d e, valV ls p.1 = some u ∧ Dp K H p.2 d ∧ Dp K H u e ∧ SeqAt.shaped d = true ∧ SeqAt.shaped e = true ∧ PyData.eqv d e = true) ∧ Q (.bl false) H
theorem op_neS (hu : X.A.units + 65 < cLine) : OpR X (compareOp .NotEq) (rNeS X.K) := fun pins s σ H x y v u Q I rx ry ⟨a, b, ks, ls, ex, ey, ha, hb, hl, hp, q⟩ => by
  subst ex ey
  obtain rfl : v = Value.ref a := rx
  obtain rfl : u = Value.ref b := ry
  obtain ⟨_, ya, va, ra, da⟩ := (show ObjOk X.prog X.w H s.heap a (.dK ks) from I.hok a _ ha)
  obtain ⟨_, yb, vb, rb, db⟩ := (show ObjOk X.prog X.w H s.heap b (.dK ls) from I.hok b _ hb)
  have e : va.length = vb.length := by rw [← ra.length, ← rb.length]; exact hl
  refine ne_dicts (knd := mixKind X.prog X.w) (r := true) ya yb da db (by omega) (fun _ => hits_run (F := fun x y => ∃ d e, Dp X.K H x d ∧ Dp X.K H y e ∧ SeqAt.shaped d = true ∧ SeqAt.shaped e = true ∧ PyData.eqv d e = true) (fun x y v u ⟨d, e, h1, h2, h3, h4, h5⟩ rx ry => ?_) rb ra fun p hm => ?_) _ _ ?_
  · obtain ⟨as, r1⟩ := Dp.reads I d x v h1 rx
    obtain ⟨bs, r2⟩ := Dp.reads I e y u h2 ry
    have k := SeqAt.eqAt_reads d e X.A.in1 s v u as bs r1 r2 (SeqAt.canLay_of_shaped h3) (SeqAt.canLay_of_shaped h4) (SeqAt.room_of_shaped h3 (by show X.A.units + 1 + 64 < cLine; omega))
    rw [h5] at k
    exact k.eqP
  · obtain ⟨u, d, e, h1, h2⟩ := hp p hm
    exact ⟨u, h1, d, e, h2⟩
  · rw [show (!(va.length == vb.length && true)) = false from by rw [e]; simp]
    exact ⟨.bl false, H, I, rfl, q⟩
def sameL : List D → List D → Bool
  | [], [] => true
  | a :: as, b :: bs => (okD a && okD b && eqv a b) && sameL as bs
  | _, _ => false
/-- != : of dicts, where they are alike -/
def neDD : D → D → Option D
  | .dic ks ds, .dic js es => if ks = js ∧ ks.Nodup ∧ sameL ds es = true then some (.bl false) else none
  | a, b => neD a b
theorem valV_in : ∀ {kvs : List (Key × V)} {p : Key × V}, (kvs.map (·.1)).Nodup → p ∈ kvs → valV kvs p.1 = some p.2
  | [], p, _, h => by cases h
  | (k, u) :: kvs, p, hn, h => by
    rw [List.map_cons, List.nodup_cons] at hn
    rcases List.mem_cons.mp h with rfl | h
    · exact valV_pos rfl
    · rw [valV_neg (fun z => hn.1 (by rw [show k = p.1 from z]; exact List.mem_map.mpr ⟨p, h, rfl⟩))]
      exact valV_in hn.2 h
theorem same_find {Hf H : Hp} (s : Sub Hf H) : ∀ {ks ls : List (Key × V)} {ds es : List D}, ks.map (·.1) = ls.map (·.1) → RepL X.K X.mg Hf ds (ks.map (·.2)) → RepL X.K X.mg Hf es (ls.map (·.2)) → sameL ds es = true →
    ∀ p ∈ ks, ∃ u d e, (p.1, u) ∈ ls ∧ Dp X.K H p.2 d ∧ Dp X.K H u e ∧ SeqAt.shaped d = true ∧ SeqAt.shaped e = true ∧ PyData.eqv d e = true
  | [], _, _, _, _, _, _, _, p, hp => by cases hp
  | (k, v) :: ks, [], _, _, hk, _, _, _, p, hp => by cases hk
  | (k, v) :: ks, (j, u) :: ls, ds, es, hk, h1, h2, hs, p, hp => by
    rw [List.map_cons, List.map_cons] at hk
    have hkj := (List.cons.inj hk).1
    have hk2 := (List.cons.inj hk).2
    have hkj : k = j := hkj
    subst hkj
    cases ds with
    | nil => cases (show (v :: ks.map (·.2)) = [] from h1)
    | cons d ds =>
    cases es with
    | nil => cases (show (u :: ls.map (·.2)) = [] from h2)
    | cons e es =>
    obtain ⟨v', r', q1, rv, h1⟩ := h1
    obtain ⟨u', r2', q2, ru, h2⟩ := h2
    have q1 : v :: ks.map (·.2) = v' :: r' := q1
    have q2 : u :: ls.map (·.2) = u' :: r2' := q2
    cases q1
    cases q2
    have hs : ((okD d && okD e && eqv d e) && sameL ds es) = true := hs
    simp only [Bool.and_eq_true] at hs
    rcases List.mem_cons.mp hp with rfl | hp
    · obtain ⟨a1, a2⟩ := dat (H0 := H) s (.inl rv) hs.1.1.1
      obtain ⟨b1, b2⟩ := dat (H0 := H) s (.inl ru) hs.1.1.2
      exact ⟨u, _, _, List.mem_cons_self, a1, b1, a2, b2, hs.1.2⟩
    · obtain ⟨u2, d2, e2, m, r⟩ := same_find s hk2 h1 h2 hs.2 p hp
      exact ⟨u2, d2, e2, List.mem_cons_of_mem _ m, r⟩
theorem od_neDD : OpD X T neDD .v (fun x y H Q => rNeD X.K x y H Q ∨ rNeS X.K x y H Q) := fun Hf H x y a b d Q s r1 r2 e q => by
  by_cases h : ∃ ks ds js es, a = .dic ks ds ∧ b = .dic js es
  · obtain ⟨ks, ds, js, es, rfl, rfl⟩ := h
    have e : (if ks = js ∧ ks.Nodup ∧ sameL ds es = true then some (D.bl false) else none) = some d := e
    split at e
    · rename_i hh
      cases e
      obtain ⟨rfl, hn, hs⟩ := hh
      obtain ⟨p, kvs, rfl, h1, h2, h3⟩ := RK.dic s r1
      obtain ⟨p', kvs', rfl, g1, g2, g3⟩ := RK.dic s r2
      have hk : kvs.map (·.1) = kvs'.map (·.1) := by rw [h2, g2]
      refine .inr ⟨p, p', kvs, kvs', rfl, rfl, h1, g1, by simpa using congrArg List.length hk, fun z hz => ?_, q _ Hf H (ExtF.refl s) rfl⟩
      obtain ⟨u, d, e, m, r⟩ := same_find s hk h3 g3 hs z hz
      exact ⟨u, d, e, valV_in (p := (z.1, u)) (by rw [g2]; exact hn) m, r⟩
    · cases e
  · refine .inl (od_ne Hf H x y a b d Q s r1 r2 ?_ q)
    cases a with
    | dic ks ds =>
      cases b with
      | dic js es => exact absurd ⟨ks, ds, js, es, rfl, rfl⟩ h
      | _ => exact e
    | _ => exact e
end
end BV
/-! max(xs, default=d), xs a list of whole numbers -/
namespace BV
open PySem PySem.Spec PyProof.Rows L2
section
variable {prog : Program} {w : World} {A : Around} {R : Result → Shared → Prop} {J S : Addr} {rd wr : List Addr} {n : Nat} {P : Nat → Value → Prop} {St : Nat → Heap → Prop} {kw : List (Str × Value)}
def bestO (S : Addr) (its : Array Value) (ep : Nat) : Obj := { cls := .type "list", dict := none, data := .seq its ep, slots := #[] }
theorem mx_name : (toString "max" ++ toString ".loop" : String) = "max.loop" := by decide
/-- the turns behind the first one, whatever keywords are kept -/
theorem mx_turns (W : Walks prog w A.in1 J rd wr n P St) (bt : Nat → Nat → Bool) (cmp : CmpOf prog w A.in1 .Gt P bt) (apart : S ∉ rd) :
    ∀ (left i : Nat) (s : Shared) (b : Value) (ep : Nat), n - (i + 1) = left → i + 1 ≤ n → St (i + 1) s.heap → P (argBest bt i) b → s.heap.get? S = some (bestO S #[b, b] ep) →
    (∀ v h' tk, P (argBest bt (n - 1)) v → (∀ c o, c ∉ wr → c ≠ S → s.heap.get? c = some o → h'.get? c = some o) → R (.ok (.ret v)) { s with heap := h', toks := tk }) →
    codeAny (model prog w) A (.builtin "max.loop" ⟨[.ref J, .none, .ref S], kw⟩) R s
  | 0, i, s, b, ep, hl, hi, st, hb, at_, fin => by
    have en : i + 1 = n := by omega
    have nw : S ∉ wr := fun z => apart (W.sub _ z)
    refine codeAny_builtin F.entry_max_loop (by
      rw [Around.under_plainId F.plain_max_loop _]
      refine wpAny_bind (wpAny_seqItems at_ rfl ?_)
      refine wpAny_bind (m := tryCatch (pyNext (.ref J)) _) (wpAny_tryCatch (W.done s _ _ (en ▸ st) fun h' tk kp => ?_))
      have at2 := kp S _ nw at_
      refine wpAny_bind (m := updateSeq S (fun _ => #[])) (wpAny_updateSeq at2 rfl (wpAny_bind (wpAny_letGo (wpAny_pure ?_))))
      exact fin b _ tk (by rw [← en]; exact hb) fun c o h1 h2 e => (Heap.get?_update_other _ _ (Ne.symm h2)).trans (kp c o h1 e))
  | left + 1, i, s, b, ep, hl, hi, st, hb, at_, fin => by
    have lt : i + 1 < n := by omega
    have nw : S ∉ wr := fun z => apart (W.sub _ z)
    refine codeAny_builtin F.entry_max_loop (by
      rw [Around.under_plainId F.plain_max_loop _]
      refine wpAny_bind (wpAny_seqItems at_ rfl ?_)
      refine wpAny_bind (m := tryCatch (pyNext (.ref J)) _) (wpAny_tryCatch (W.item (i + 1) s _ _ lt st fun v h' tk hv st2 kp => ?_))
      have at2 := kp S _ nw at_
      refine wpAny_bind (m := tryCatch (holding [v, v] (richCompare .Gt v b >>= _)) _) (wpAny_tryCatch (wpAny_holding (wpAny_bind (cmp (i + 1) (argBest bt i) v b _ _ _ hv hb ?_))))
      refine wpAny_bind (wpAny_holding (wpAny_truthy_bool ?_))
      refine wpAny_bind (wpAny_letGo (wpAny_pure ?_))
      cases q : bt (i + 1) (argBest bt i) with
      | true =>
        simp only [if_true]
        refine wpAny_bind (wpAny_updateSeq at2 rfl (wpAny_bind (wpAny_letGo ?_)))
        rw [mx_name]
        refine wpAny_pure ⟨plainId_quiet F.plain_max_loop _, mx_turns W bt cmp apart left (i + 1) _ v _ (by omega) lt (W.frame _ _ _ st2 fun c hc o e => ?_) (by simp only [argBest, q, if_true]; exact hv) (Heap.get?_update_self _ at2 rfl) fun v2 h2 tk2 hv2 k2 => ?_⟩
        · exact (Heap.get?_update_other _ _ (fun z : S = c => apart (by rw [z]; exact hc))).trans e
        · exact fin v2 h2 tk2 hv2 fun c o h1 h3 e => k2 c o h1 h3 ((Heap.get?_update_other _ _ (Ne.symm h3)).trans (kp c o h1 e))
      | false =>
        simp only [Bool.false_eq_true, if_false]
        refine wpAny_bind (wpAny_letGo ?_)
        rw [mx_name]
        refine wpAny_pure ⟨plainId_quiet F.plain_max_loop _, mx_turns W bt cmp apart left (i + 1) _ b ep (by omega) lt st2 (by simp only [argBest, q, Bool.false_eq_true, if_false]; exact hb) at2 fun v2 h2 tk2 hv2 k2 => ?_⟩
        exact fin v2 h2 tk2 hv2 fun c o h1 h3 e => k2 c o h1 h3 (kp c o h1 e))
/-- from the first turn on -/
theorem mx_first (W : Walks prog w A.in1 J rd wr n P St) (bt : Nat → Nat → Bool) (cmp : CmpOf prog w A.in1 .Gt P bt) (apart : S ∉ rd) (hn : 0 < n) {s : Shared} {ep : Nat} (st : St 0 s.heap) (at_ : s.heap.get? S = some (bestO S #[] ep))
    (fin : ∀ v h' tk, P (argBest bt (n - 1)) v → (∀ c o, c ∉ wr → c ≠ S → s.heap.get? c = some o → h'.get? c = some o) → R (.ok (.ret v)) { s with heap := h', toks := tk }) :
    codeAny (model prog w) A (.builtin "max.loop" ⟨[.ref J, .none, .ref S], kw⟩) R s := by
  have nw : S ∉ wr := fun z => apart (W.sub _ z)
  refine codeAny_builtin F.entry_max_loop (by
    rw [Around.under_plainId F.plain_max_loop _]
    refine wpAny_bind (wpAny_seqItems at_ rfl ?_)
    refine wpAny_bind (m := tryCatch (pyNext (.ref J)) _) (wpAny_tryCatch (W.item 0 s _ _ hn st fun v h' tk hv st2 kp => ?_))
    have at2 := kp S _ nw at_
    refine wpAny_bind (m := updateSeq S (fun _ => #[v, v])) (wpAny_updateSeq at2 rfl ?_)
    rw [mx_name]
    refine wpAny_pure ⟨plainId_quiet F.plain_max_loop _, mx_turns W bt cmp apart _ 0 _ v _ rfl hn (W.frame _ _ _ st2 fun c hc o e => ?_) hv (Heap.get?_update_self _ at2 rfl) fun v2 h2 tk2 hv2 k2 => ?_⟩
    · exact (Heap.get?_update_other _ _ (fun z : S = c => apart (by rw [z]; exact hc))).trans e
    · exact fin v2 h2 tk2 hv2 fun c o h1 h3 e => k2 c o h1 h3 ((Heap.get?_update_other _ _ (Ne.symm h3)).trans (kp c o h1 e)))
/-- nothing to be walked: the default -/
theorem mx_none (W : Walks prog w A.in1 J rd wr 0 P St) (apart : S ∉ rd) {s : Shared} {ep : Nat} {x : Str} {d : Value} (st : St 0 s.heap) (at_ : s.heap.get? S = some (bestO S #[] ep))
    (fin : ∀ h' tk, (∀ c o, c ∉ wr → s.heap.get? c = some o → h'.get? c = some o) → R (.ok (.ret d)) { s with heap := h', toks := tk }) :
    codeAny (model prog w) A (.builtin "max.loop" ⟨[.ref J, .none, .ref S], [(x, d)]⟩) R s := by
  refine codeAny_builtin F.entry_max_loop (by
    rw [Around.under_plainId F.plain_max_loop _]
    refine wpAny_bind (wpAny_seqItems at_ rfl ?_)
    refine wpAny_bind (m := tryCatch (pyNext (.ref J)) _) (wpAny_tryCatch (W.done s _ _ st fun h' tk kp => ?_))
    exact wpAny_bind (wpAny_rule (wpAny_pure (fin h' tk kp))))
end
theorem mx_args (a d : Value) : argsOk "max" ⟨[a], [(Str.ofString "default", d)]⟩ := by unfold argsOk; kernel_rfl
section
variable {prog : Program} {w : World} {A : Around} {E : Value → Shared → Prop} {s : Shared} {l : Addr} {xs : Array (Int × Tok)}
theorem max_dflt {d : Value} {Q : Value → Shared → Prop} (hh : A.handled = none) (hl : s.heap.IsList l (intItems xs))
    (h0 : xs.size = 0 → ∀ h' tk, (∀ b o, s.heap.get? b = some o → h'.get? b = some o) → Q d { s with heap := h', toks := tk })
    (h1 : 0 < xs.size → ∀ v h' tk, (intItems xs)[argBest (fun i j => decide (numAt xs i > numAt xs j)) (xs.size - 1)]? = some v → (∀ b o, s.heap.get? b = some o → h'.get? b = some o) → Q v { s with heap := h', toks := tk }) :
    wpAny (model prog w) A (call (.builtin "max") [.ref l] [(Str.ofString "default", d)]) Q E s := by
  refine kmk_tree PySem.F.kind_max PySem.F.plain_max PySem.F.entry_max (mx_args _ _) ?_
  refine wpAny_bind (m := Builtin.Builtins.bindParams "max" ["key", "default"] 0 ⟨[], [(Str.ofString "default", d)]⟩) (wpAny_of_eq (a := [none, some d]) (by rfl) ?_)
  refine wpAny_bind (wpAny_pure ?_)
  refine wpAny_bind (iter_intList hl fun s2 e st hfp hlJ => ?_)
  subst e
  have W := Walks.list (prog := prog) (w := w) (A := A.in1) hh _ l hlJ (intItems xs)
  refine wpAny_bind (wpAny_newObj_type ?_)
  rw [mx_name]
  have ap : (s.heap.push { cls := .type "list_iterator", data := .fields #[.ref l, .int 0 0] }).objs.size ∉ [s.heap.objs.size, l] := fun hm => Nat.lt_irrefl _ (hfp _ hm)
  refine wpAny_pure ⟨plainId_quiet PySem.F.plain_max_loop _, ?_⟩
  by_cases hz : xs.size = 0
  · have hz2 : (intItems xs).size = 0 := by simpa [intItems] using hz
    rw [hz2] at W
    refine mx_none W ap (W.frame _ _ _ st fun b _ o e => Heap.get?_push_of_some _ e) (Heap.get?_push_size _ rfl) fun h' tk kp => ?_
    exact h0 hz h' tk fun b o e => kp b o (fun z => by rw [List.mem_singleton.mp z] at e; exact absurd (Heap.lt_size e) (Nat.lt_irrefl _)) (Heap.get?_push_of_some _ (Heap.get?_push_of_some _ e))
  · have hz2 : 0 < (intItems xs).size := by simpa [intItems] using Nat.pos_of_ne_zero hz
    refine mx_first W _ (CmpOf.ints_gt (numAt xs) (fun _ _ => intItems_at)) ap hz2 (W.frame _ _ _ st fun b _ o e => Heap.get?_push_of_some _ e) (Heap.get?_push_size _ rfl) fun v h' tk hP kp => ?_
    refine h1 (Nat.pos_of_ne_zero hz) v h' tk (by simpa [intItems] using hP) fun b o e => kp b o (fun z => by rw [List.mem_singleton.mp z] at e; exact absurd (Heap.lt_size e) (Nat.lt_irrefl _)) ?_ (Heap.get?_push_of_some _ (Heap.get?_push_of_some _ e))
    have lt : b < s.heap.objs.size := Heap.lt_size e
    intro z
    have e2 : b = s.heap.objs.size + 1 := z.trans (Heap.size_push _ _)
    rw [e2] at lt
    exact Nat.not_succ_lt_self lt
end
section
variable {X : Cx} {T : List (Addr × Str)} {Γ : List Bool} {W : WX} {pos p : Pos}
def rMaxD (K : PySem.W.Frag) (d : Int) : List V → List V → Hp → VK → Prop := fun vs zs H Q => ∃ (a : Addr) (ns : List Int), vs = [V.ref a] ∧ zs = [V.int d] ∧ SqL K H a (ns.map V.int) ∧ (ns = [] → Q (.int d) H) ∧ (0 < ns.length → ∀ m, m ∈ ns → (∀ y, y ∈ ns → y ≤ m) → Q (.int m) H)
theorem cr_maxD {d : Int} (hc : X.calm = true) : CallRK X (.builtin "max") [Str.ofString "default"] (rMaxD X.K d) := by
  intro pins s σ H vs zs us ws Q I r rz h
  obtain ⟨a, ns, rfl, rfl, hs, q0, q1⟩ := h
  obtain rfl := Vals.ref1 r
  obtain ⟨w1, rfl, t0, rfl⟩ := vals1 rz
  obtain ⟨its, rv, hl, _⟩ := I.list hs
  obtain ⟨xs, e⟩ := rv.ints.allInts.items
  have hn : numsOf (intItems xs).toList = ns := by rw [← e]; exact rv.ints.numsOf
  rw [nums_intItems] at hn
  subst hn
  have hl2 := hl.isList
  rw [e] at hl2
  refine max_dflt (I.ok.hd hc) hl2 (fun hz h' tk hk => ⟨.int d, H, I.kept hk, ⟨_, rfl⟩, q0 (by rw [List.map_eq_nil_iff]; apply List.eq_nil_of_length_eq_zero; simpa using hz)⟩) fun hz v h' tk hv hk => ?_
  obtain ⟨t, rfl⟩ := intItems_at hv
  obtain ⟨k1, k2⟩ := argBest_gt (numAt xs) (xs.size - 1)
  refine ⟨.int _, H, I.kept hk, ⟨_, rfl⟩, q1 (by simpa using hz) _ ?_ fun b hb => ?_⟩
  · rw [numAt_eq]; exact PySem.getD_mem (by rw [List.length_map, Array.length_toList]; omega)
  · obtain ⟨j, hj, rfl⟩ := mem_getD hb
    rw [List.length_map, Array.length_toList] at hj
    rw [← numAt_eq]; exact k2 j (by omega)
/-- the greatest, or d of none -/
def maxI (d : Int) : List Int → Int
  | [] => d
  | i :: r => r.foldl (fun a b => if b > a then b else a) i
theorem maxI_mem {d : Int} : ∀ (ns : List Int), 0 < ns.length → maxI d ns ∈ ns ∧ ∀ y ∈ ns, y ≤ maxI d ns := by
  intro ns h
  match ns, h with
  | i :: r, _ =>
    show r.foldl (fun a b => if b > a then b else a) i ∈ i :: r ∧ ∀ y ∈ i :: r, y ≤ r.foldl (fun a b => if b > a then b else a) i
    clear h
    induction r generalizing i with
    | nil => simp
    | cons j r ih =>
      simp only [List.foldl]
      obtain ⟨h1, h2⟩ := ih (if j > i then j else i) (by simp)
      by_cases q : j > i
      · rw [if_pos q] at h1 h2 ⊢
        refine ⟨by rcases List.mem_cons.mp h1 with e | e <;> simp [e], fun y hy => ?_⟩
        rcases List.mem_cons.mp hy with rfl | hy
        · exact Int.le_trans (Int.le_of_lt q) (h2 _ (by simp))
        · exact h2 y hy
      · rw [if_neg q] at h1 h2 ⊢
        refine ⟨by rcases List.mem_cons.mp h1 with e | e <;> simp [e], fun y hy => ?_⟩
        rcases List.mem_cons.mp hy with rfl | hy
        · exact h2 _ (by simp)
        · rcases List.mem_cons.mp hy with rfl | hy
          · exact Int.le_trans (Int.not_lt.mp q) (h2 _ (by simp))
          · exact h2 y (by simp [hy])
def maxDB (d : Int) : D → Option D
  | .lst ds => (intsOf ds).map fun ns => .int (maxI d ns)
  | _ => none
theorem pd_maxD {e : Expr} {d : Int} {f : Rho → R D} {kp dp : Pos} {j : Nat} (hc : X.calm = true) (hg : Gl X "max") (hm : X.mg "max" = none) (h : PD X T Γ W .b e f)
    (hs : starEach [e] X.env = (false, eval e X.env) :: starEach [] X.env := by rfl) (he : backTo pos (starEach [e] X.env) = (false, eval e X.env) :: backTo pos (starEach [] X.env) := by rfl) (hpl : (backTo pos (starEach [e] X.env)).any (·.1) = false := by rfl) :
    PD X T Γ W .v (.Call (.Name "max" p) [e] [⟨some "default", .Constant (.int d) j dp, kp⟩] pos) (unE (maxDB d) f) :=
  pd_un (r := fun x H Q => rMaxD X.K d [x] [.int d] H Q) (pe_callBK (cr_maxD hc) hg hm bt_max (pa_cons h pa_nil hs) (pk_cons pe_int pk_nil) (by decide) (by decide) he hpl) (fun σ H Q h => h) fun Hf H x a dd Q s r e q => by
    unfold maxDB at e
    split at e
    · obtain ⟨ns, e1, e2⟩ := map_some e
      subst e2
      obtain ⟨p, ws, rfl, h1, h2, h3⟩ := RK.lst s r
      have e3 := intsOf_ok e1 h3
      subst e3
      refine ⟨p, ns, rfl, rfl, SqL.of h1, fun z => ?_, fun z m m1 m2 => ?_⟩
      · subst z
        exact q _ Hf H (ExtF.refl s) rfl
      · obtain ⟨k1, k2⟩ := maxI_mem (d := d) ns z
        have : m = maxI d ns := Int.le_antisymm (k2 m m1) (m2 _ k1)
        subst this
        exact q _ Hf H (ExtF.refl s) rfl
    · cases e
def maxB : List D → Option D
  | [.lst ds] => (intsOf ds).bind fun ns => match ns with
    | [] => none
    | i :: r => some (.int (maxI 0 (i :: r)))
  | _ => none
theorem fb_max : FnB X T maxB .v (rMax X.K) := fun Hf H vs ds d Q s r e q => by
  unfold maxB at e
  split at e
  · rename_i ds'
    cases e1 : intsOf ds' with
    | none => rw [e1] at e; cases e
    | some ns =>
      rw [e1] at e
      match ns, e1, e with
      | i :: rr, e1, e =>
        obtain ⟨v, rfl, h⟩ := r.one
        obtain ⟨p, ws, rfl, h1, h2, h3⟩ := RK.lst s h
        have e3 := intsOf_ok e1 h3
        subst e3
        have e4 : D.int (maxI 0 (i :: rr)) = d := Option.some.inj e
        subst e4
        obtain ⟨k1, k2⟩ := maxI_mem (d := 0) (i :: rr) (by simp)
        exact ⟨p, i :: rr, rfl, SqL.of h1, by simp, fun m m1 m2 => q _ Hf H (ExtF.refl s) (by rw [show m = maxI 0 (i :: rr) from Int.le_antisymm (k2 m m1) (m2 _ k1)]; rfl)⟩
      | [], e1, e => cases e
  · cases e
/-- the least of some -/
def minI : List Int → Int
  | [] => 0
  | i :: r => r.foldl (fun a b => if b < a then b else a) i
theorem minI_mem : ∀ (ns : List Int), 0 < ns.length → minI ns ∈ ns ∧ ∀ y ∈ ns, minI ns ≤ y := by
  intro ns h
  match ns, h with
  | i :: r, _ =>
    show r.foldl (fun a b => if b < a then b else a) i ∈ i :: r ∧ ∀ y ∈ i :: r, r.foldl (fun a b => if b < a then b else a) i ≤ y
    clear h
    induction r generalizing i with
    | nil => simp
    | cons j r ih =>
      simp only [List.foldl]
      obtain ⟨h1, h2⟩ := ih (if j < i then j else i) (by simp)
      by_cases q : j < i
      · rw [if_pos q] at h1 h2 ⊢
        refine ⟨by rcases List.mem_cons.mp h1 with e | e <;> simp [e], fun y hy => ?_⟩
        rcases List.mem_cons.mp hy with rfl | hy
        · exact Int.le_trans (h2 _ (by simp)) (Int.le_of_lt q)
        · exact h2 y hy
      · rw [if_neg q] at h1 h2 ⊢
        refine ⟨by rcases List.mem_cons.mp h1 with e | e <;> simp [e], fun y hy => ?_⟩
        rcases List.mem_cons.mp hy with rfl | hy
        · exact h2 _ (by simp)
        · rcases List.mem_cons.mp hy with rfl | hy
          · exact Int.le_trans (h2 _ (by simp)) (Int.not_lt.mp q)
          · exact h2 y (by simp [hy])
def minB : List D → Option D
  | [.lst ds] => (intsOf ds).bind fun ns => match ns with
    | [] => none
    | i :: r => some (.int (minI (i :: r)))
  | _ => none
theorem fb_min : FnB X T minB .v (rMin X.K) := fun Hf H vs ds d Q s r e q => by
  unfold minB at e
  split at e
  · rename_i ds'
    cases e1 : intsOf ds' with
    | none => rw [e1] at e; cases e
    | some ns =>
      rw [e1] at e
      match ns, e1, e with
      | i :: rr, e1, e =>
        obtain ⟨v, rfl, h⟩ := r.one
        obtain ⟨p, ws, rfl, h1, h2, h3⟩ := RK.lst s h
        have e3 := intsOf_ok e1 h3
        subst e3
        have e4 : D.int (minI (i :: rr)) = d := Option.some.inj e
        subst e4
        obtain ⟨k1, k2⟩ := minI_mem (i :: rr) (by simp)
        exact ⟨p, i :: rr, rfl, SqL.of h1, by simp, fun m m1 m2 => q _ Hf H (ExtF.refl s) (by rw [show m = minI (i :: rr) from Int.le_antisymm (m2 _ k1) (k2 m m1)]; rfl)⟩
      | [], e1, e => cases e
  · cases e
end
end BV
namespace BV
open PySem PySem.Spec PyProof.Rows L2
/-! ### x = f(..), a pair with a new list behind; if ..: return ..; x[1].append(..) : the list is new, so it may be changed, and x is forgotten -/
mutual
/-- no list in it -/
def noLst : D → Bool
  | .scr _ => false
  | .lst _ => false
  | .loc _ => false
  | .tup ds => noLstL ds
  | .dic _ ds => noLstL ds
  | .obj _ _ ds => noLstL ds
  | _ => true
def noLstL : List D → Bool
  | [] => true
  | d :: ds => noLst d && noLstL ds
end
/-- what is frozen, without its lists -/
def noL (Hf : Hp) : Hp := fun b => match Hf b with
  | some (.lst _) => none
  | o => o
theorem noL_sub (Hf : Hp) : ∀ b o, noL Hf b = some o → Hf b = some o := fun b o h => by
  unfold noL at h
  cases q : Hf b with
  | none => rw [q] at h; cases h
  | some u =>
    rw [q] at h
    cases u <;> first | (cases h; done) | exact h
theorem noL_of {Hf : Hp} {b : Addr} {o : HO} (h : Hf b = some o) (n : ∀ vs, o ≠ .lst vs) : noL Hf b = some o := by
  unfold noL
  rw [h]
  cases o <;> first | rfl | exact absurd rfl (n _)
theorem noL_lst {Hf : Hp} {b : Addr} {vs : List V} (h : noL Hf b = some (.lst vs)) : False := by
  unfold noL at h
  cases q : Hf b with
  | none => rw [q] at h; cases h
  | some u =>
    rw [q] at h
    cases u <;> cases h
section
variable {K : PySem.W.Frag} {mg : Str → Option Value}
mutual
theorem Rep.noL {Hf : Hp} : ∀ {d : D} {v : V}, noLst d = true → Rep K mg Hf d v → Rep K mg (noL Hf) d v
  | .non, _, _, h => h
  | .bl _, _, _, h => h
  | .int _, _, _, h => h
  | .str _, _, _, h => h
  | .scr _, _, n, _ => by cases n
  | .lst _, _, n, _ => by cases n
  | .loc _, _, n, _ => by cases n
  | .tup ds, v, n, h => by
    obtain ⟨a, vs, e, h1, h2, h3⟩ := h
    refine ⟨a, vs, e, ?_, h2, RepL.noL n h3⟩
    rcases h1 with (h1 | ⟨o, h1⟩) | h1
    · exact .inl (.inl (noL_of h1 fun _ z => by cases z))
    · exact .inl (.inr ⟨o, noL_of h1 fun _ z => by cases z⟩)
    · exact .inr h1
  | .dic ks ds, v, n, h => by
    obtain ⟨a, kvs, e, h1, h2, h3⟩ := h
    exact ⟨a, kvs, e, noL_of h1 (fun _ z => by cases z), h2, RepL.noL n h3⟩
  | .obj C fs ds, v, n, h => by
    obtain ⟨a, Ca, dx, fvs, e, h1, h2, h3, h4⟩ := h
    exact ⟨a, Ca, dx, fvs, e, h1, noL_of h2 (fun _ z => by cases z), h3, RepL.noL n h4⟩
theorem RepL.noL {Hf : Hp} : ∀ {ds : List D} {vs : List V}, noLstL ds = true → RepL K mg Hf ds vs → RepL K mg (noL Hf) ds vs
  | [], _, _, h => h
  | d :: ds, vs, n, h => by
    have n : (noLst d && noLstL ds) = true := n
    rw [Bool.and_eq_true] at n
    obtain ⟨v, r, e, h1, h2⟩ := h
    exact ⟨v, r, e, Rep.noL n.1 h1, RepL.noL n.2 h2⟩
end
end
/-- the slots that hold values without lists -/
def maskR (Γ : List Bool) (ρ : Rho) : Rho := (List.range ρ.length).map fun i => if (Γ[i]? == some true) = true then none else match ρ[i]? with
  | some (some d) => if noLst d = true then some d else none
  | _ => none
theorem maskR_at {Γ : List Bool} {ρ : Rho} {i : Nat} {d : D} (h : (maskR Γ ρ)[i]? = some (some d)) : Γ[i]? ≠ some true ∧ ρ[i]? = some (some d) ∧ noLst d = true := by
  unfold maskR at h
  rw [List.getElem?_map] at h
  by_cases hi : i < ρ.length
  · rw [List.getElem?_range hi] at h
    have h : (if (Γ[i]? == some true) = true then none else match ρ[i]? with
      | some (some d) => if noLst d = true then some d else none
      | _ => none) = some d := Option.some.inj h
    by_cases q : (Γ[i]? == some true) = true
    · rw [if_pos q] at h; cases h
    · rw [if_neg q] at h
      refine ⟨fun z => q (by rw [z]; rfl), ?_⟩
      split at h
      · rename_i d' e
        by_cases n : noLst d' = true
        · rw [if_pos n] at h
          cases h
          exact ⟨e, n⟩
        · rw [if_neg n] at h; cases h
      · cases h
  · rw [List.getElem?_eq_none (by simpa using hi)] at h
    cases h
theorem maskR_len (Γ : List Bool) (ρ : Rho) : (maskR Γ ρ).length = ρ.length := by simp [maskR]
theorem RelE.mask {K : PySem.W.Frag} {mg : Str → Option Value} {T : List (Addr × Str)} {Γ Δ : List Bool} {ρ : Rho} {Hf H : Hp} {σ : St} (r : RelE K mg T Γ ρ Hf σ H) (hΔ : ∀ i : Nat, Δ[i]? ≠ some true) : RelE K mg T Δ (maskR Γ ρ) (noL Hf) σ H where
  sub := fun b o h => r.sub b o (noL_sub Hf b o h)
  tab := r.tab
  len := by rw [maskR_len]; exact r.len
  val := fun i d e _ => by
    obtain ⟨h1, h2, h3⟩ := maskR_at e
    obtain ⟨v, h4, h5⟩ := r.val i d h2 h1
    exact ⟨v, h4, Rep.noL h3 h5⟩
  own := fun i d e g => absurd g (hΔ i)
  apart := fun i j a n g1 => absurd g1 (hΔ i)
def spK (i : Nat) (c : Rho → R Bool) (F G : Rho → RS) (ρ : Rho) : D → RS
  | .tup [p, .lst ds] => if i < ρ.length then RS.bind (c (ρ.set i (some (.tup [p, .lst ds])))) fun b => if b = true then F (ρ.set i (some (.tup [p, .lst ds]))) else if ds.length < sizeLine then G (ρ.set i none) else .stuck else .stuck
  | _ => .stuck
def spoilS (i : Nat) (Γ : List Bool) (f : Rho → R D) (c : Rho → R Bool) (F G : Rho → RS) : Rho → RS := fun ρ => RS.bind (f (maskR Γ ρ)) (spK i c F G ρ)
theorem spK_cases {i : Nat} {c : Rho → R Bool} {F G : Rho → RS} {ρ : Rho} (d : D) : (∃ p ds, d = .tup [p, .lst ds]) ∨ spK i c F G ρ d = .stuck := by
  cases d with
  | tup xs =>
    match xs with
    | [p, q] =>
      cases q with
      | lst ds => exact .inl ⟨p, ds, rfl⟩
      | _ => exact .inr rfl
    | [] => exact .inr rfl
    | [_] => exact .inr rfl
    | a :: b :: c :: r => exact .inr (by cases b <;> rfl)
  | _ => exact .inr rfl
theorem RX.sub {K : PySem.W.Frag} {mg : Str → Option Value} {Hf Hf' H : Hp} {e : Exc} {cls : Value} {dd : Option Addr} (s : Sub Hf Hf') (h : RX K mg Hf H e cls dd) : RX K mg Hf' H e cls dd := by
  obtain ⟨C, h1, h2, h3⟩ := h
  refine ⟨C, h1, h2, ?_⟩
  rcases h3 with h3 | ⟨h4, d, fvs, h5, h6, h7, h8⟩
  · exact .inl h3
  · exact .inr ⟨h4, d, fvs, h5, h6, h7, RepL.sub s h8⟩
section
variable {K : PySem.W.Frag} {mg : Str → Option Value} {T : List (Addr × Str)} {Hf H Hf1 H1 : Hp}
/-- both heaps of frozen things -/
def both (Hf Hf1 : Hp) : Hp := fun b => match Hf b with
  | some o => some o
  | none => Hf1 b
theorem both_l {b : Addr} {o : HO} (h : Hf b = some o) : both Hf Hf1 b = some o := by unfold both; rw [h]
theorem both_n {b : Addr} (h : Hf b = none) : both Hf Hf1 b = Hf1 b := by unfold both; rw [h]
theorem ExtF.join (s : Sub Hf H) (x : ExtF T (noL Hf) H Hf1 H1) : ExtF T Hf H (both Hf Hf1) H1 ∧ Sub Hf1 (both Hf Hf1) := by
  have s1 : Sub Hf H1 := s.ext x.ext
  have q : ∀ b o, both Hf Hf1 b = some o → H1 b = some o ∧ ∀ ps, o ≠ .tbl ps := fun b o h => by
    cases e : Hf b with
    | some u =>
      rw [both_l e] at h
      cases h
      exact s1 b _ e
    | none =>
      rw [both_n e] at h
      exact x.inn b o h
  refine ⟨⟨fun b o h => ⟨both_l h, (s b o h).2⟩, q, x.ext, x.tab, fun b h1 h2 => ?_, x.kp⟩, fun b o h => ?_⟩
  · rw [both_n h2]
    refine x.fr b h1 ?_
    cases e : noL Hf b with
    | none => rfl
    | some u => rw [noL_sub Hf b u e] at h2; cases h2
  · refine ⟨?_, (x.inn b o h).2⟩
    cases e : Hf b with
    | some u =>
      rw [both_l e]
      have h3 := (s1 b u e).1
      have h4 := (x.inn b o h).1
      rw [h3] at h4
      exact h4
    | none => rw [both_n e]; exact h
/-- an object that is new and not kept is written -/
theorem ExtF.rewr2 {q : Addr} {o o' : HO} (x : ExtF T Hf H Hf1 H1) (h0 : ¬ Old H q) (hf : Hf1 q = none) (h2 : H1 q = some o) (m : MutO o) : ExtF T Hf H Hf1 (upd H1 q o') := by
  have nD : ∀ b, Old H b → b ≠ q := fun b z e => h0 (by rw [← e]; exact z)
  refine ⟨x.sub, fun b u z => ⟨by rw [upd_ne (fun e => by rw [e, hf] at z; cases z)]; exact (x.inn b u z).1, (x.inn b u z).2⟩, fun b u z n => ?_, fun tb => ?_, x.fr, fun b z => ?_⟩
  · rw [upd_ne (nD b ⟨u, z, n⟩)]
    exact x.ext b u z n
  · intro pp hp
    obtain ⟨ps, a1, a2, a3⟩ := x.tab tb pp hp
    refine ⟨ps, by rw [upd_ne (fun e => by rw [e, h2] at a1; exact m.ntbl ps (Option.some.inj a1))]; exact a1, a2, fun pos' cv hcv => ?_⟩
    obtain ⟨c0, e1, e2⟩ := a3 pos' cv hcv
    refine ⟨c0, e1, ?_⟩
    rw [upd_ne (fun e => by
      rw [e, h2] at e2
      have e3 := Option.some.inj e2
      rw [e3] at m
      unfold LamX.CodeO at m
      cases m)]
    exact e2
  · obtain ⟨o2, k3, k4⟩ := x.kp b z
    exact ⟨o2, by rw [upd_ne (nD b z)]; exact k3, k4⟩
/-- what is frozen besides is forgotten -/
theorem ExtF.forget (s : Sub Hf H) (x : ExtF T Hf H Hf1 H1) : ExtF T Hf H Hf H1 := ⟨s.self, s.ext x.ext, x.ext, x.tab, fun _ _ h => h, x.kp⟩
theorem RelE.drop {Γ : List Bool} {ρ : Rho} {σ : St} (r : RelE K mg T Γ ρ Hf σ H) (i : Nat) (v : Option V) (hi : Γ[i]? ≠ some true) : RelE K mg T Γ (ρ.set i none) Hf (σ.set i v) H := by
  have at_ : ∀ (j : Nat) (d : D), (ρ.set i none)[j]? = some (some d) → i ≠ j ∧ ρ[j]? = some (some d) := fun j d e => by
    rw [get_set] at e
    by_cases q : i = j
    · rw [if_pos q] at e
      split at e <;> cases e
    · rw [if_neg q] at e
      exact ⟨q, e⟩
  refine ⟨r.sub, r.tab, by simp [r.len], fun j d e g => ?_, fun j d e g => ?_, fun j l a n g1 g2 o1 o2 => ?_⟩
  · obtain ⟨q, e⟩ := at_ j d e
    rw [get_set, if_neg q]
    exact r.val j d e g
  · obtain ⟨q, e⟩ := at_ j d e
    rw [get_set, if_neg q]
    exact r.own j d e g
  · obtain ⟨d1, o1⟩ := o1
    obtain ⟨d2, o2⟩ := o2
    obtain ⟨q1, o1⟩ := at_ j d1 o1
    obtain ⟨q2, o2⟩ := at_ l d2 o2
    rw [get_set, if_neg q1, get_set, if_neg q2]
    exact r.apart j l a n g1 g2 ⟨d1, o1⟩ ⟨d2, o2⟩
theorem Fr.drop {Γ : List Bool} {ρ : Rho} {σ : St} {H0 : Hp} (r : Fr Γ ρ σ H0) (i : Nat) (v : Option V) (hi : Γ[i]? ≠ some true) : Fr Γ (ρ.set i none) (σ.set i v) H0 := fun j a g o e => by
  have q : i ≠ j := fun z => hi (by rw [z]; exact g)
  obtain ⟨d, o⟩ := o
  rw [get_set, if_neg q] at o e
  exact r j a g ⟨d, o⟩ e
end
section
variable {X : Cx} {B : Fx} {Γ Γ' Γl Δ : List Bool} {e c : Expr} {sa sb rest : List Stmt} {f : Rho → R D} {ct : Rho → R Bool} {F G : Rho → RS} {pos1 pos2 pos3 : Pos}
theorem pdss_spoil {i : Nat} {x : Str} {ea : Expr} {px : Pos} {y : Str} (hN : X.N.Nodup) (hi : X.N[i]? = some x) (hx : Loc X.env.scope x) (hf : X.fn x = true ∨ X.env.scope.names.lookup x = some .local) (hΔ : ∀ i : Nat, Δ[i]? ≠ some true) (hΓ : Γ[i]? ≠ some true) (hΓ2 : Γ.set i false = Γ)
    (he : PD X B.T Δ B.W .v e f) (hc : PDT X B.T Γ B.W c ct) (hsa : PDSs X B Γ Γ' Γl sa F) (hsb : sb = []) (h3 : PE X ea (tBM X.K "list" rAppend (tOp (rIx X.K) (tVar i) (tC (.int 1))) (tCons (tC (.str y)) tNil))) (hr : PDSs X B Γ Γ' Γl rest G)
    (hnx : NoNx F) (hs : swapsWith e (some (.Name x px)) pos1.line X.env = pure false := by rfl) (hs3 : swapsWith ea none pos3.line X.env = pure false := by rfl) :
    PDSs X B Γ Γ' Γl (.Assign [.Name x px] e pos1 :: .If c sa sb pos2 :: .Expr ea pos3 :: rest) (spoilS i Γ f ct F G) := fun Hf0 H0 => by
  subst hsb
  refine PSs.imp (pss_cons (ps_set hN hi hx he hs hf) (pss_cons (ps_if hc (hsa Hf0 H0) pss_nil) (pss_cons (ps_expr h3 hs3) (hr Hf0 H0)))) fun De σ H ⟨Hf, ρ, r, p⟩ => ?_
  refine ⟨noL Hf, maskR Γ ρ, r.e.mask hΔ, ?_⟩
  unfold spoilS at p
  cases q : f (maskR Γ ρ) with
  | exc ex =>
    rw [q] at p
    exact fun cls dd Hf1 H1 x1 rx => p cls dd σ _ H1 (r.x.trans (ExtF.join r.e.sub x1).1) (RX.sub (ExtF.join r.e.sub x1).2 rx)
  | stuck => rw [q] at p; exact p.elim
  | ok d =>
    rw [q] at p
    have p : PostS X.K X.mg B Hf0 H0 Γ' Γl De (spK i ct F G ρ d) := p
    intro Hf1 H1 x1 v rk
    rcases spK_cases (i := i) (c := ct) (F := F) (G := G) (ρ := ρ) d with ⟨d1, ds, rfl⟩ | z
    · have p : PostS X.K X.mg B Hf0 H0 Γ' Γl De (if i < ρ.length then RS.bind (ct (ρ.set i (some (.tup [d1, .lst ds])))) fun b => if b = true then F (ρ.set i (some (.tup [d1, .lst ds]))) else if ds.length < sizeLine then G (ρ.set i none) else .stuck else .stuck) := p
      obtain ⟨il, p⟩ := if_post p
      obtain ⟨xj, sj⟩ := ExtF.join r.e.sub x1
      obtain ⟨t, vs, rfl, k1, k2, v1, w1, ew, k3, v2, w2, ew2, k4, ew3⟩ := rk
      subst ew ew2 ew3
      obtain ⟨a, us, rfl, k5, k6, k7⟩ := k4
      have na : ¬ Old H a := fun z => by
        have h0 : noL Hf a = none := by
          cases e : noL Hf a with
          | none => rfl
          | some o =>
            have := (x1.sub a o e).1
            rw [k5] at this
            cases this
            exact (noL_lst e).elim
        rw [x1.fr a z h0] at k5
        cases k5
      have r1 := r.ext xj
      have rp : Rep X.K X.mg (both Hf Hf1) (.tup [d1, .lst ds]) (.ref t) := Rep.sub sj ⟨t, _, rfl, k1, k2, v1, _, rfl, k3, .ref a, [], rfl, ⟨a, us, rfl, k5, k6, k7⟩, rfl⟩
      have r2 : RelS X.K X.mg B.T Hf0 H0 Γ (ρ.set i (some (.tup [d1, .lst ds]))) (both Hf Hf1) (σ.set i (some (.ref t))) H1 := by
        have z : RelS X.K X.mg B.T Hf0 H0 (Γ.set i false) (ρ.set i (some (.tup [d1, .lst ds]))) (both Hf Hf1) (σ.set i (some (.ref t))) H1 := ⟨r1.e.setv i rp, r1.x, r1.fr.setv i⟩
        rw [hΓ2] at z
        exact z
      refine ⟨both Hf Hf1, _, r2.e, ?_⟩
      cases qc : ct (ρ.set i (some (.tup [d1, .lst ds]))) with
      | exc ex =>
        rw [qc] at p
        exact fun cls dd Hf2 H2 x2 rx => p cls dd _ Hf2 H2 (r2.x.trans x2) rx
      | stuck => rw [qc] at p; exact p.elim
      | ok b =>
        rw [qc] at p
        have p : PostS X.K X.mg B Hf0 H0 Γ' Γl De (if b = true then F (ρ.set i (some (.tup [d1, .lst ds]))) else if ds.length < sizeLine then G (ρ.set i none) else .stuck) := p
        intro Hf2 H2 x2
        cases b with
        | true =>
          rw [if_pos rfl] at p
          refine iteT ⟨Hf2, _, r2.ext x2, ?_⟩
          cases qF : F (ρ.set i (some (.tup [d1, .lst ds]))) with
          | nx ρ' => exact absurd qF (hnx _ _)
          | bk ρ' => rw [qF] at p; exact p
          | ct ρ' => rw [qF] at p; exact p
          | rt d => rw [qF] at p; exact p
          | exc e => rw [qF] at p; exact p
          | stuck => rw [qF] at p; exact p
        | false =>
          rw [if_neg (by decide)] at p
          refine iteF ?_
          have pl : ds.length < sizeLine ∧ PostS X.K X.mg B Hf0 H0 Γ' Γl De (G (ρ.set i none)) := by
            by_cases hl : ds.length < sizeLine
            · rw [if_pos hl] at p; exact ⟨hl, p⟩
            · rw [if_neg hl] at p; exact p.elim
          -- what was told is there still
          have ha2 : H2 a = some (.lst us) := (x2.inn a _ (x2.sub a _ (sj a _ k5).1).1).1
          have st2 : SqT X.K H2 t [v1, .ref a] := SqT.sub x2.inn (SqT.sub x2.sub (SqT.sub sj k1))
          have xx : ExtF B.T Hf H Hf H2 := ExtF.forget r.e.sub (xj.trans x2)
          have hfa : Hf a = none := by
            cases e : Hf a with
            | none => rfl
            | some o => exact absurd ⟨o, r.e.sub a o e⟩ na
          have x3 : ExtF B.T Hf H Hf (upd H2 a (.lst (us ++ [.str y]))) := xx.rewr2 na hfa ha2 (.lst _)
          have hσ : (σ.set i (some (V.ref t)))[i]? = some (some (V.ref t)) := List.getElem?_set_self (by rw [← r.e.len]; exact il)
          have e5 := r.e.ext xx
          have r5 : RelE X.K X.mg B.T Γ (ρ.set i none) Hf (σ.set i (some (.ref t))) (upd H2 a (.lst (us ++ [.str y]))) := RelE.drop (r.e.ext x3) i _ hΓ
          refine ⟨.ref t, hσ, .inr (.inl ⟨t, [v1, .ref a], 1, .ref a, rfl, rfl, st2, rfl, .inl ⟨rfl, us, SqL.of ha2⟩, a, us, .str y, rfl, rfl, ha2, by rw [k7.length]; exact pl.1, ?_⟩)⟩
          exact ⟨Hf, ρ.set i none, ⟨r5, r.x.trans x3, Fr.drop r.fr i _ hΓ⟩, pl.2⟩
    · rw [z] at p
      exact p.elim
end
end BV
namespace BV
open PySem PySem.Spec PyProof.Rows L2
/-! ### an own list, read for a while by a def whose answer holds no list -/
def thwNR : R D → R D
  | .ok d => if noLst d = true then .ok d else .stuck
  | .exc e => if noLstL e.ds = true then .exc e else .stuck
  | .stuck => .stuck
def thwN (i : Nat) (f : Rho → R D) : Rho → R D := fun ρ => match ρ[i]? with
  | some (some (.lst _)) => thwNR (f ρ)
  | _ => .stuck
theorem RelE.freeze {K : PySem.W.Frag} {mg : Str → Option Value} {T : List (Addr × Str)} {Γ : List Bool} {ρ : Rho} {Hf H : Hp} {σ : St} (r : RelE K mg T Γ ρ Hf σ H) {i : Nat} {ds : List D} (hi : Γ[i]? = some true) (hd : ρ[i]? = some (some (.lst ds))) :
    ∃ a vs, Hf a = none ∧ H a = some (.lst vs) ∧ RelE K mg T (Γ.set i false) ρ (upd Hf a (.lst vs)) σ H ∧ Sub Hf (upd Hf a (.lst vs)) := by
  obtain ⟨a, o, h1, h2, h3, vs, rfl, h4, h5⟩ := r.own i _ hd hi
  have s1 : Sub Hf (upd Hf a (.lst vs)) := fun b o q => ⟨by rw [upd_ne (fun z => by rw [z, h2] at q; cases q)]; exact q, (r.sub b o q).2⟩
  have s2 : Sub (upd Hf a (.lst vs)) H := fun b o q => by
    by_cases z : b = a
    · subst z
      rw [upd_same] at q
      cases q
      exact ⟨h3, fun ps z => nomatch z⟩
    · rw [upd_ne z] at q
      exact r.sub b o q
  have gΓ : ∀ j : Nat, (Γ.set i false)[j]? = some true → i ≠ j ∧ Γ[j]? = some true := fun j q => by
    rw [get_set] at q
    by_cases h : i = j
    · rw [if_pos h] at q
      split at q <;> cases q
    · rw [if_neg h] at q
      exact ⟨h, q⟩
  refine ⟨a, vs, h2, h3, ⟨s2, r.tab, r.len, fun j d e g => ?_, fun j d e g => ?_, fun j l b n g1 g2 o1 o2 => ?_⟩, s1⟩
  · by_cases q : i = j
    · subst q
      rw [hd] at e
      cases e
      exact ⟨.ref a, h1, a, vs, rfl, upd_same, h4, RepL.sub s1 h5⟩
    · obtain ⟨v, e1, e2⟩ := r.val j d e (fun z => g (by rw [get_set, if_neg q]; exact z))
      exact ⟨v, e1, Rep.sub s1 e2⟩
  · obtain ⟨q, g⟩ := gΓ j g
    obtain ⟨b, o, e1, e2, e3, e4⟩ := r.own j d e g
    have ne : b ≠ a := fun z => r.apart i j a q hi g ⟨_, hd⟩ ⟨d, e⟩ h1 (by rw [← z]; exact e1)
    exact ⟨b, o, e1, by rw [upd_ne ne]; exact e2, e3, RepO.sub s1 e4⟩
  · obtain ⟨q1, g1⟩ := gΓ j g1
    obtain ⟨q2, g2⟩ := gΓ l g2
    exact r.apart j l b n g1 g2 o1 o2
section
variable {X : Cx} {T : List (Addr × Str)} {Γ : List Bool} {W : WX} {e : Expr} {f : Rho → R D}
theorem pd_thawN (i : Nat) (hi : Γ[i]? = some true) (h : PD X T (Γ.set i false) W .v e f) : PD X T Γ W .v e (thwN i f) :=
  PE.imp h fun σ H Q ⟨Hf, ρ, rel, p⟩ => by
    have p : PostE X.K X.mg T Hf H .v W σ Q (match ρ[i]? with
      | some (some (.lst _)) => thwNR (f ρ)
      | _ => .stuck) := p
    split at p
    · rename_i ds hd
      obtain ⟨a, vs, h1, h2, r', s1⟩ := rel.freeze hi hd
      refine ⟨_, ρ, r', ?_⟩
      have go : ∀ {Hf2 H2 : Hp}, ExtF T (upd Hf a (.lst vs)) H Hf2 H2 → ExtF T Hf H (cut [a] Hf2) H2 ∧ Sub (noL Hf2) (cut [a] Hf2) := fun {Hf2 H2} x => by
        have ha : Hf2 a = some (.lst vs) := (x.sub a _ upd_same).1
        refine ⟨⟨fun b o q => ?_, fun b o q => ?_, x.ext, x.tab, fun b q1 q2 => ?_, x.kp⟩, fun b o q => ?_⟩
        · have ne : b ≠ a := fun z => by rw [z, h1] at q; cases q
          rw [cut_out (by simpa using ne)]
          exact ⟨(x.sub b o (s1 b o q).1).1, (s1 b o q).2⟩
        · by_cases z : b ∈ [a]
          · rw [cut_in z] at q; cases q
          · rw [cut_out z] at q
            exact x.inn b o q
        · by_cases z : b ∈ [a]
          · exact cut_in z
          · rw [cut_out z]
            exact x.fr b q1 (by rw [upd_ne (by simpa using z)]; exact q2)
        · have q2 := noL_sub Hf2 b o q
          have ne : b ≠ a := fun z => by
            subst z
            rw [ha] at q2
            cases q2
            exact noL_lst q
          rw [cut_out (by simpa using ne)]
          exact ⟨q2, (x.inn b o q2).2⟩
      cases q : f ρ with
      | ok d =>
        rw [q] at p
        intro Hf2 H2 x v rk
        have p : PostE X.K X.mg T Hf H .v W σ Q (if noLst d = true then .ok d else .stuck) := p
        split at p
        · rename_i n
          obtain ⟨y, s⟩ := go x
          exact p _ H2 y v (Rep.sub s (Rep.noL n rk))
        · exact p.elim
      | exc ex =>
        rw [q] at p
        intro cls dd Hf2 H2 x ⟨C, g1, g2, g3⟩
        have p : PostE X.K X.mg T Hf H .v W σ Q (if noLstL ex.ds = true then .exc ex else .stuck) := p
        split at p
        · rename_i n
          obtain ⟨y, s⟩ := go x
          refine p cls dd _ H2 y ⟨C, g1, g2, ?_⟩
          rcases g3 with g3 | ⟨g4, d, fvs, g5, g6, g7, g8⟩
          · exact .inl g3
          · exact .inr ⟨g4, d, fvs, g5, g6, g7, RepL.sub s (RepL.noL n g8)⟩
        · exact p.elim
      | stuck => rw [q] at p; exact p.elim
    · exact p.elim
end
end BV
namespace BV
open PySem PySem.Spec PyProof.Rows L2
/-! ### str of a whole number -/
def strIB : List D → Option D
  | [.int i] => if i.natAbs.log2 < 1920 ∧ PyData.strOk (toString i : String) = true ∧ ((toString i : String) : Str).length ≤ sizeLine then some (.str (toString i : String)) else none
  | _ => none
section
variable {X : Cx} {T : List (Addr × Str)} {Γ : List Bool} {W : WX} {k : Kd} {e a b : Expr} {f fa fb : Rho → R D} {pos : Pos}
theorem fb_strI : FnB X T strIB .v (fun xs H Q => ∃ i, xs = [.int i] ∧ i.natAbs.log2 < 1920 ∧ Q (.str (toString i)) H) := fun Hf H vs ds d Q s r e q => by
  unfold strIB at e
  split at e
  · split at e
    · rename_i h
      cases e
      obtain ⟨v, rfl, h2⟩ := r.one
      exact ⟨_, by rw [RK.int h2], h.1, q _ Hf H (ExtF.refl s) ⟨rfl, h.2.1, h.2.2⟩⟩
    · cases e
  · cases e
/-! ### text.split(sign) -/
def okStrs (ys : List Str) : Bool := ys.all fun y => PyData.strOk y && decide (y.length ≤ sizeLine)
def splD (x y : Str) : Option D := if (y.length == 0) = false ∧ x.length + 2 ≤ sizeLine ∧ okStrs (Txt.split x y) = true ∧ (Txt.split x y).length ≤ sizeLine then some (.lst ((Txt.split x y).map .str)) else none
def splE (fa fb : Rho → R D) : Rho → R D := fun ρ => (fa ρ).bind fun a => a.asS.bind fun x => (fb ρ).bind fun b => b.asS.bind fun y => R.of (splD x y)
theorem RepL.strs {K : PySem.W.Frag} {mg : Str → Option Value} {H : Hp} : ∀ {ys : List Str}, okStrs ys = true → RepL K mg H (ys.map .str) (ys.map V.str)
  | [], _ => rfl
  | y :: ys, h => by
    have h : ((PyData.strOk y && decide (y.length ≤ sizeLine)) && okStrs ys) = true := h
    simp only [Bool.and_eq_true, decide_eq_true_eq] at h
    exact ⟨.str y, ys.map V.str, rfl, ⟨rfl, h.1.1, h.1.2⟩, RepL.strs h.2⟩
theorem pd_split (h : PE X e (tM1 (fun x xs H Q => ∃ a b, x = .str a ∧ xs = [.str b] ∧ (b.length == 0) = false ∧ a.length + 2 ≤ sizeLine ∧ rNewStrs (Txt.split a b) H Q) (tD X.K X.mg T Γ W .b fa) (tD X.K X.mg T Γ W .b fb))) : PD X T Γ W .o e (splE fa fb) :=
  PE.imp h fun σ H Q ⟨Hf, ρ, rel, p⟩ => ⟨Hf, ρ, rel, PostE.bind p fun d v Hf1 H1 e1 x1 rk p1 => by
    obtain ⟨z, rfl, p1⟩ := asS_bind p1
    obtain ⟨rfl, o1, l1⟩ := RK.str rk
    refine ⟨⟨z, rfl⟩, Hf1, ρ, rel.ext x1, PostE.bind p1 fun d2 v2 Hf2 H2 e2 x2 rk2 p2 => ?_⟩
    obtain ⟨y, rfl, p2⟩ := asS_bind p2
    obtain ⟨rfl, o2, l2⟩ := RK.str rk2
    obtain ⟨d3, e3, p3⟩ := of_some p2
    unfold splD at e3
    split at e3
    · rename_i hc
      cases e3
      refine ⟨z, y, rfl, rfl, hc.1, hc.2.1, fun l hl => ?_⟩
      exact p3 Hf2 _ (ExtF.new x2.inn hl) _ ⟨l, _, rfl, x2.inn.none hl, Old.not hl, upd_same, _, rfl, by rw [List.length_map]; exact hc.2.2.2, RepL.strs hc.2.2.1⟩
    · cases e3⟩
end
/-! ### texts.count(text) -/
def eqs (k : Str) (v : Value) : Bool := match v with
  | .str y _ => y.cps.toList == k.cps.toList
  | _ => false
theorem eqs_gives {k : Str} {t : Tok} : ∀ {us : List Value} {ys : List Str}, StrsAre us ys → ∀ y ∈ us, MeetsSeq.EqGives y (.str k t) (eqs k y)
  | _, _, .nil => fun y hy => by cases hy
  | _, _, .cons n t' h => fun y hy => by
    rcases List.mem_cons.mp hy with e | e
    · rw [e]
      exact SeqRoads2.EqGives.str n k t' t
    · exact eqs_gives h y e
theorem eqs_count {k : Str} : ∀ {us : List Value} {ys : List Str}, StrsAre us ys → us.countP (eqs k) = ys.countP fun y => y.cps.toList == k.cps.toList
  | _, _, .nil => rfl
  | _, _, .cons n t h => by
    have ih := eqs_count (k := k) h
    rw [List.countP_cons, List.countP_cons, ih] <;> rfl
def rCntS (K : PySem.W.Frag) : V → List V → Hp → VK → Prop := fun x xs H Q => ∃ (p : Addr) (ys : List Str) (k : Str), x = .ref p ∧ xs = [.str k] ∧ SqL K H p (ys.map V.str) ∧ Q (.int ((ys.countP fun y => y.cps.toList == k.cps.toList : Nat))) H
section
variable {X : Cx} {T : List (Addr × Str)} {Γ : List Bool} {W : WX} {k : Kd} {e a b : Expr} {f fa fb : Rho → R D} {pos : Pos}
theorem mt_scount : MtR X "list.count" (rCntS X.K) := by
  intro pins s σ H x xs v us Q I rx rxs h
  obtain ⟨p, ns, k, rfl, rfl, hs, q⟩ := h
  cases rx
  obtain ⟨u, rfl, ru⟩ := rxs.one
  obtain ⟨t, rfl⟩ := ru
  obtain ⟨its, rv, ⟨⟨cls, dd, data, sl⟩, n, ho, hc, hdn, hd⟩, hlen⟩ := I.list hs
  simp only at hc hd
  subst hc hd
  have hi := strs_of_vals rv
  refine call_meets PySem.F.slot_list_count ⟨_, ho, rfl⟩ PySem.F.entry_list_count (PySem.F.args_list_count_2 _ _)
    (SeqAt.list_countAt p its.toArray n dd sl (.str k t) (eqs k)) ⟨ho, fun y hy => (eqs_gives hi y (by simpa using hy)).at _ _, ?_⟩
  have ec : its.toArray.toList.countP (eqs k) = ns.countP fun y => y.cps.toList == k.cps.toList := eqs_count hi
  refine ⟨.int ((ns.countP fun y => y.cps.toList == k.cps.toList : Nat)), H, I.tok _, ⟨s.toks, ?_⟩, q⟩
  show Value.int ((its.toArray.toList.countP (eqs k) : Nat) : Int) s.toks = Value.int _ s.toks
  rw [ec]
def D.asL : D → R (List D)
  | .lst ds => .ok ds
  | _ => .stuck
def cntD (ds : List D) : D → Option D
  | .str k => (strsOf ds).map fun ys => .int ((ys.countP fun y => y.cps.toList == k.cps.toList : Nat))
  | _ => none
def cntE (fa fb : Rho → R D) : Rho → R D := fun ρ => (fa ρ).bind fun a => (D.asL a).bind fun ds => (fb ρ).bind fun b => R.of (cntD ds b)
theorem asL_bind {K : PySem.W.Frag} {mg : Str → Option Value} {Hf H : Hp} {σ : St} {α : Type} {good : α → Hp → Hp → Prop} {d : D} {g : List D → R α} (p : PostG K mg T Hf H W σ good ((D.asL d).bind g)) : ∃ c, d = .lst c ∧ PostG K mg T Hf H W σ good (g c) := by
  cases d with
  | lst c => exact ⟨c, rfl, p⟩
  | _ => exact p.elim
theorem pd_count (h : PE X e (tBM X.K "list" (rCntS X.K) (tD X.K X.mg T Γ W .b fa) (tCons (tD X.K X.mg T Γ W .b fb) tNil))) : PD X T Γ W .v e (cntE fa fb) :=
  PE.imp h fun σ H Q ⟨Hf, ρ, rel, p⟩ => ⟨Hf, ρ, rel, PostE.bind p fun d v Hf1 H1 e1 x1 rk p1 => by
    obtain ⟨ds, rfl, p1⟩ := asL_bind p1
    obtain ⟨q, ws, rfl, h1, h2, h3⟩ := RK.lst x1.inn rk
    refine ⟨.inl ⟨rfl, ws, SqL.of h1⟩, Hf1, ρ, rel.ext x1, PostE.bind p1 fun d2 v2 Hf2 H2 e2 x2 rk2 p2 => ?_⟩
    obtain ⟨d3, e3, p3⟩ := of_some p2
    cases d2 with
    | str k =>
      have e3 : (strsOf ds).map (fun ys => D.int ((ys.countP fun y => y.cps.toList == k.cps.toList : Nat))) = some d3 := e3
      cases qs : strsOf ds with
      | none => rw [qs] at e3; cases e3
      | some ys =>
        rw [qs] at e3
        cases e3
        obtain ⟨q', ws', e4, h1', h2', h3'⟩ := RK.lst x2.inn (RK.ext x2 rk)
        cases e4
        obtain ⟨rfl, _⟩ := strsOf_ok qs h3'
        obtain ⟨rfl, _⟩ := RK.str rk2
        exact ⟨q, ys, k, rfl, rfl, SqL.of h1', p3 Hf2 H2 (ExtF.refl x2.inn) _ rfl⟩
    | _ => cases e3⟩
end
end BV
/-! set(xs) of a list whose members are keys of one kind, told by the list of the keys; len of it -/
namespace SS
open PySem PySem.Spec PyProof.Rows
/-- the keys that are met among the first i, each once -/
def met {K : Type} [DecidableEq K] (kf : Nat → K) : Nat → List K
  | 0 => []
  | i + 1 => if kf i ∈ met kf i then met kf i else met kf i ++ [kf i]
theorem met_le {K : Type} [DecidableEq K] (kf : Nat → K) : ∀ i, (met kf i).length ≤ i
  | 0 => Nat.le_refl _
  | i + 1 => by
    have h := met_le kf i
    show (if kf i ∈ met kf i then met kf i else met kf i ++ [kf i]).length ≤ i + 1
    split
    · omega
    · simp; exact h
theorem met_mem {K : Type} [DecidableEq K] (kf : Nat → K) (i : Nat) (k : K) : decide (k ∈ met kf (i + 1)) = (decide (k ∈ met kf i) || decide (k = kf i)) := by
  show decide (k ∈ (if kf i ∈ met kf i then met kf i else met kf i ++ [kf i])) = _
  rw [← Bool.decide_or]
  congr 1
  split
  · rename_i h
    exact propext ⟨fun z => .inl z, fun z => z.elim id fun z => by rw [z]; exact h⟩
  · simp
theorem met_len {K : Type} [DecidableEq K] (kf : Nat → K) (i : Nat) : (met kf (i + 1)).length = if decide (kf i ∈ met kf i) = true then (met kf i).length else (met kf i).length + 1 := by
  show (if kf i ∈ met kf i then met kf i else met kf i ++ [kf i]).length = _
  by_cases h : kf i ∈ met kf i
  · rw [if_pos h, if_pos (decide_eq_true h)]
  · rw [if_neg h, if_neg (by simpa using h)]
    simp
section
variable {P : Program} {w : World} {K : Type} [DecidableEq K] {kd : KeyKind P w K}
def Is (kd : KeyKind P w K) (h : Heap) (S : Addr) (kf : Nat → K) (i : Nat) : Prop := h.SetOf kd S (fun k => decide (k ∈ met kf i)) (met kf i).length
theorem Is.keep {h h' : Heap} {S : Addr} {kf : Nat → K} {i : Nat} (q : Is kd h S kf i) (e : ∀ o, h.get? S = some o → h'.get? S = some o) : Is kd h' S kf i := by
  obtain ⟨o, x⟩ := q
  obtain ⟨es, ep, t, ho, r⟩ := x
  exact ⟨o, es, ep, t, e o ho, r⟩
theorem Is.cong {h : Heap} {S : Addr} {f g : K → Bool} {n m : Nat} (q : h.SetOf kd S f n) (e : ∀ k, f k = g k) (en : n = m) : h.SetOf kd S g m := by
  obtain rfl : f = g := funext e
  rw [← en]
  exact q
variable {A : Around} {R : Result → Shared → Prop} {J : Addr} {fp wr : List Addr} {G : Array GenState → Array GenState → Prop} {N : Nat} {Pv : Nat → Value → Prop} {St : Nat → Shared → Prop}
theorem loop (wk : WalksS P w A.in1 J fp wr G N Pv St) (S : Addr) (sf : S ∉ fp) (kf : Nat → K) (kv : ∀ i v, Pv i v → kd.is (kf i) v = true ∧ v.scannable = true) (few : N + 1 < scanBound) :
    ∀ (left i : Nat) (z : Shared), N - i = left → i ≤ N → St i z → Is kd z.heap S kf i → (∀ z', Moved (S :: wr) G z z' → Is kd z'.heap S kf N → R (.ok (.ret .none)) z') → codeAny (model P w) A (.builtin "set.update.loop" ⟨[.ref S, .ref J], []⟩) R z := by
  have sw : S ∉ wr := fun q => sf (wk.sub _ q)
  have inc : ∀ b ∈ wr, b ∈ S :: wr := fun b q => List.mem_cons.mpr (.inr q)
  intro left
  induction left with
  | zero =>
    intro i z e1 e2 st is fin
    obtain rfl : i = N := by omega
    refine codeAny_builtin F.entry_set_update_loop ?_; rw [Around.under_plainId F.plain_set_update_loop _]
    show wpAny _ A.in1 (pyNext (.ref J) >>= _) _ _ z
    refine wpAny_bind (wk.done z _ _ st fun z' mv => ?_)
    show wpAny _ A.in1 (ret Value.none) _ _ z'
    exact wpAny_pure (fin z' (mv.mono inc) (is.keep fun o ho => mv.heap S o sw ho))
  | succ left ih =>
    intro i z e1 e2 st is fin
    have lt : i < N := by omega
    refine codeAny_builtin F.entry_set_update_loop ?_; rw [Around.under_plainId F.plain_set_update_loop _]
    show wpAny _ A.in1 (pyNext (.ref J) >>= _) _ _ z
    refine wpAny_bind (wk.item i z _ _ lt st fun v z1 pv st1 mv => ?_)
    obtain ⟨k1, k2⟩ := kv i v pv
    have is1 : Is kd z1.heap S kf i := is.keep fun o ho => mv.heap S o sw ho
    show wpAny _ A.in1 (holding [v] (setAdd S v) >>= _) _ _ z1
    refine wpAny_bind (wpAny_holding ?_)
    unfold setAdd
    refine wpAny_holding ?_
    refine wpAny_bind (kd.pyHash (k := kf i) k1 ?_)
    have room : (met kf i).length + 1 < scanBound := by have := met_le kf i; omega
    refine wpAny_setAddHashed_of (knd := kd) (s := { z1 with toks := z1.toks + 1 }) k1 k2 is1 room fun h2 but is2 => ?_
    have is3 : Is kd h2 S kf (i + 1) := Is.cong is2 (fun k => (met_mem kf i k).symm) (met_len kf i).symm
    refine wpAny_pure ⟨plainId_quiet F.plain_set_update_loop _, ih (i + 1) _ (by omega) lt (wk.frame _ z1 _ _ st1 (Nat.le_succ _) fun b hb o e => ?_) is3 fun z2 mv2 is4 => ?_⟩
    · rw [but.2 b fun q => sf (q ▸ hb)]
      exact e
    · refine fin z2 (Moved.trans wk.gtrans ((mv.mono inc).then_heap (Nat.le_succ _) fun b o hb e => ?_) mv2) is4
      rw [but.2 b fun q => hb (by rw [q]; exact List.mem_cons.mpr (.inl rfl))]
      exact e
end
/-! ### the call -/
section
variable {P : Program} {w : World} {K : Type} [DecidableEq K] {kd : KeyKind P w K} {A : Around} {E : Value → Shared → Prop} {z : Shared}
/-- a new set -/
abbrev no (led : Bool) : Obj := { cls := .type "set", dict := none, data := .set #[] 0 (.fresh 0 0 led) }
theorem start (kd : KeyKind P w K) {h : Heap} {S : Addr} {led : Bool} (kf : Nat → K) (e : h.get? S = some (no led)) : Is kd h S kf 0 :=
  Is.cong ((setObjOf_fresh (knd := kd) led).setOf e (by unfold scanBound; omega)) (fun _ => by show false = decide (_ ∈ []); simp) rfl
theorem call_set {l : Addr} {its : Array Value} {kf : Nat → K} {Q : Value → Shared → Prop} (hA : A.handled = none) (hl : z.heap.IsList l its) (kv : ∀ (i : Nat) (v : Value), its[i]? = some v → kd.is (kf i) v = true ∧ v.scannable = true) (few : its.size + 1 < scanBound)
    (fin : ∀ (h : Heap) (tk : Nat), Is kd h z.heap.objs.size kf its.size → (∀ b o, b < z.heap.objs.size → z.heap.get? b = some o → h.get? b = some o) → Q (.ref z.heap.objs.size) { z with heap := h, toks := tk }) :
    wpAny (model P w) A (call (.type "set") [.ref l]) Q E z := by
  obtain ⟨c0, tl0, mro0⟩ := F.called_set.mro
  have made0 := F.called_set.made
  have sub0 := F.called_set.sub
  refine wpAny_call (codeAny_of_tree ?_); show wpAny _ _ (callAny (.type "set") _) _ _ _
  refine wpAny_pure ⟨Code.quiet_builtin _ (by decide +kernel), codeAny_builtin F.entry_type_call ?_⟩; rw [Around.under_plain (weight_type_call_type "set" [.ref l] []) rfl]
  have g1 := F.called_set.notType
  have g2 := F.called_set.canCreate
  have g3 := F.typeCall_set_1 (.ref l)
  repeat (any_goals (first | assumption | wp_step))
  refine codeAny_mono (code_set_new_1 (.ref l) (E := E) (Q₁ := fun x z1 => ∃ led : Bool, x = .ref z.heap.objs.size ∧ z1 = { z with heap := z.heap.push (no led) }) fun led => ⟨led, rfl, rfl⟩) fun r z1 hr => ?_
  cases r with
  | error e => exact hr
  | ok fl =>
    cases fl with
    | ret x =>
      obtain ⟨led, rfl, rfl⟩ := hr
      have gS : (z.heap.push (no led)).get? z.heap.objs.size = some (no led) := Heap.get?_push_size _ rfl
      have tS : Shared.TypeIs { z with heap := z.heap.push (no led) } (.ref z.heap.objs.size) "set" := ⟨_, gS, rfl⟩
      have li := F.called_set.init.lookup
      have bi := F.called_set.init.bind (.ref z.heap.objs.size)
      repeat (any_goals (first | assumption | wp_step))
      refine codeAny_mono (codeAny_call_builtin (R := wants (fun r z2 => r = .none ∧ ∃ h tk, z2 = { z with heap := h, toks := tk } ∧ Is kd h z.heap.objs.size kf its.size ∧ (∀ b o, b < z.heap.objs.size → z.heap.get? b = some o → h.get? b = some o)) E) F.called_set.init.plain F.entry_set_init (check_set_init_1 tS ?_)) fun r2 z2 hr2 => ?_
      · obtain ⟨ol, gl, cl, nl, dl⟩ := hl
        obtain ⟨oc, od, ot, os⟩ := ol
        simp only at cl dl
        subst cl dl
        have gl' : (z.heap.push (no led)).get? l = some { cls := .type "list", dict := od, data := .seq its nl, slots := os } := Heap.get?_push_of_some _ gl
        have s1 := F.sub_list_set
        have s2 := F.sub_list_frozenset
        have ne : (Value.type "list" == Value.type "dict") = false := by decide
        have il : (z.heap.push (no led)).IsList l its := ⟨_, gl', rfl, nl, rfl⟩
        unfold Builtin.«set.__init__» noKeywords Builtin.Frozenset.updateFrom
        generalize hp : pyIter = PI; wp_walk; subst hp
        refine wpAny_pyIter_list il ?_; refine wpAny_bind (wpAny_runValue ?_)
        have lS : l < z.heap.objs.size := Heap.lt_size gl
        have hA3 : A.in1.in1.in1.handled = none := by simp [hA]
        have sz : (z.heap.push (no led)).objs.size = z.heap.objs.size + 1 := Heap.size_push _ _
        have lI : l ≠ (z.heap.push (no led)).objs.size := by rw [sz]; exact Nat.ne_of_lt (Nat.lt_succ_of_lt lS)
        have sf : z.heap.objs.size ∉ [(z.heap.push (no led)).objs.size, l] := by
          rw [sz]
          simp only [List.mem_cons, List.not_mem_nil, or_false]
          exact fun h => h.elim (fun e => Nat.ne_of_lt (Nat.lt_succ_self _) e) fun e => Nat.ne_of_gt lS e
        refine loop (kd := kd) ((Walks.list hA3 _ l lI its).toS) z.heap.objs.size sf kf kv few (its.size - 0) 0 _ (by omega) (Nat.zero_le _) ⟨⟨_, Heap.get?_push_size _ rfl, rfl, rfl⟩, il.push _⟩ (start kd kf (Heap.get?_push_of_some _ gS)) fun z3 mv is => ?_
        obtain ⟨h3, ge, dr, tk3, os3⟩ := z3
        obtain rfl : ge = z.gens := mv.gens
        obtain rfl : dr = z.drawn := mv.drawn
        obtain rfl : os3 = z.os := mv.os
        show wpAny _ _ _ _ _ _
        refine wpAny_pure ?_
        show wpAny _ _ (ret Value.none) _ _ _
        refine wpAny_pure ⟨rfl, h3, tk3, rfl, is, fun b o hb e => mv.heap b o ?_ (Heap.get?_push_of_some _ (Heap.get?_push_of_some _ e))⟩
        simp only [List.mem_cons, List.not_mem_nil, or_false]
        rw [sz]
        exact fun h => h.elim (fun e => Nat.ne_of_lt hb e) fun e => Nat.ne_of_lt (Nat.lt_succ_of_lt hb) e
      · cases r2 with
        | error e => exact hr2
        | ok fl2 =>
          cases fl2 with
          | ret r =>
            obtain ⟨rfl, h3, tk, rfl, is, kp⟩ := hr2
            repeat (any_goals (first | assumption | wp_step))
            exact fin _ _ is kp
          | _ => exact hr2.elim
    | _ => exact hr.elim
end
end SS
namespace BV
open PySem PySem.Spec PyProof.Rows L2
/-! ### len(set(texts)) -/
def manyS (ys : List Str) : Nat := (SS.met (fun i => ys.getD i Str.empty) ys.length).length
section
variable {X : Cx} {T : List (Addr × Str)} {Γ : List Bool} {W : WX} {e a : Expr} {fa : Rho → R D}
theorem strs_at {us : List Value} {ys : List Str} (h : StrsAre us ys) : ∀ (i : Nat) (v : Value), us[i]? = some v → ∃ t, v = .str (ys.getD i Str.empty) t := by
  induction h with
  | nil => intro i v q; cases q
  | cons y t h ih =>
    intro i v q
    cases i with
    | zero => cases q; exact ⟨t, rfl⟩
    | succ i => exact ih i v q
def tLenSetS (K : PySem.W.Frag) (ta : TE) : TE := fun σ H Q => ta σ H fun x H1 => ∃ (l : Addr) (ys : List Str), x = V.ref l ∧ SqL K H1 l (ys.map V.str) ∧ ys.length + 1 < 4096 ∧ Q (.int (manyS ys)) H1
theorem pe_lenSetS {ta : TE} {p p2 q pos : Pos} (hc : X.calm = true) (g1 : Gl X "len") (m1 : X.mg "len" = none) (g2 : Gl X "set") (m2 : X.mg "set" = none) (ha : PE X a ta)
    (st : starEach [a] X.env = (false, eval a X.env) :: starEach [] X.env := by rfl) : PE X (.Call (.Name "len" p) [.Call (.Name "set" p2) [a] [] q] [] pos) (tLenSetS X.K ta) := ⟨fun pins z σ H Q I h => by
  refine Call_ (ld_blt I g1 m1 PySem.boot_len ?_); refine PyProof.Rows.callWith_builtin1 (PyProof.Rows.args_cons ?_ rfl) rfl rfl
  refine Call_ (ld_blt I g2 m2 PyProof.Rows.boot_set ?_); refine PyProof.Rows.callWith_type1 (PyProof.Rows.args_cons (thn (ha.run pins z σ H _ I h) fun v z1 ⟨x, H1, I1, r1, q1⟩ => PyProof.Rows.args_nil ?_) st) st rfl
  obtain ⟨l, ys, rfl, hq, few, q1⟩ := q1
  cases r1
  obtain ⟨its, rv, pl, hz⟩ := I1.list hq
  have hs := strs_of_vals rv
  have hl : its.length = ys.length := by have := rv.length; rw [List.length_map] at this; exact this.symm
  have hl2 : its.toArray.size = ys.length := by rw [List.size_toArray, hl]
  refine SS.call_set (kd := strKind X.prog X.w) (kf := fun i => ys.getD i Str.empty) (I1.ok.hd hc) pl.isList (fun i v e => ?_) (by unfold scanBound; omega) fun h2 tk is kp => ?_
  · obtain ⟨t, rfl⟩ := strs_at hs i v (by rw [← e]; simp)
    exact ⟨beq_self_eq_true (ys.getD i Str.empty), rfl⟩
  · refine PyProof.Rows.args_nil ?_
    obtain ⟨o, es, ep, t, ho, hex, hd, _, _, _, hf, hn⟩ := is
    rw [hl2] at hn
    have I2 : Inv X pins σ H1 { z1 with heap := h2, toks := tk } := I1.kept fun b o e => kp b o (Heap.lt_size e) e
    have hb : manyS ys ≤ ys.length := SS.met_le _ _
    have hn : es.size = manyS ys := hn
    exact call_len_set ho hex hd hf (by rw [hn]; omega) ⟨.int (manyS ys), H1, I2.tok _, ⟨_, by rw [hn]⟩, q1⟩⟩
def lnsD : D → Option D
  | .lst ds => (strsOf ds).bind fun ys => if ys.length + 1 < 4096 then some (.int (manyS ys)) else none
  | _ => none
theorem pd_lenSet (h : PE X e (tLenSetS X.K (tD X.K X.mg T Γ W .b fa))) : PD X T Γ W .v e (unE lnsD fa) :=
  PE.imp h fun σ H Q ⟨Hf, ρ, rel, p⟩ => ⟨Hf, ρ, rel, PostE.bind p fun d v Hf1 H1 e1 x1 rk p1 => by
    obtain ⟨d3, e3, p3⟩ := of_some p1
    cases d with
    | lst ds =>
      have e3 : ((strsOf ds).bind fun ys => if ys.length + 1 < 4096 then some (D.int (manyS ys)) else none) = some d3 := e3
      cases qs : strsOf ds with
      | none => rw [qs] at e3; cases e3
      | some ys =>
        rw [qs] at e3
        have e3 : (if ys.length + 1 < 4096 then some (D.int (manyS ys)) else none) = some d3 := e3
        split at e3
        · rename_i hc
          cases e3
          obtain ⟨q, ws, rfl, h1, h2, h3⟩ := RK.lst x1.inn rk
          obtain ⟨rfl, _⟩ := strsOf_ok qs h3
          exact ⟨q, ys, rfl, SqL.of h1, hc, p3 Hf1 H1 (ExtF.refl x1.inn) _ rfl⟩
        · cases e3
    | _ => cases e3⟩
end
end BV
/-! a set of texts as it lies, with the order of its places: grown, collected, sorted -/
namespace SS
open PySem PySem.Spec PyProof.Rows L2
def tOf : Value → Str
  | .str y _ => y
  | _ => Str.empty
def tE (e : Int × Value) : Str := tOf e.2
def GoodT (w : World) (e : Int × Value) : Prop := ∃ y t, e.2 = .str y t ∧ e.1 = hashStr w y
/-- the set at S holds these texts, each once -/
def Rd (w : World) (h : Heap) (S : Addr) (L : List Str) : Prop :=
  ∃ o es ep t, h.get? S = some o ∧ o.ExactSet ∧ o.data = .set es ep t ∧ (∀ e ∈ es.toList, GoodT w e) ∧ (es.toList.map tE).Perm L ∧ L.Nodup ∧ es.size < scanBound ∧ t.fits es.size = true ∧ Ris t.place.toList ∧ (w.params.followText "set-order" = true ∨ t.led = true)
theorem Rd.keep {w : World} {h h' : Heap} {S : Addr} {L : List Str} (q : Rd w h S L) (e : ∀ o, h.get? S = some o → h'.get? S = some o) : Rd w h' S L := by
  obtain ⟨o, es, x⟩ := q
  obtain ⟨ep, t, ho, r⟩ := x
  exact ⟨o, es, ep, t, e o ho, r⟩
section
variable {P : Program} {w : World} {A : Around} {E : Value → Shared → Prop} {z : Shared} {S : Addr} {L : List Str}
theorem goodT_el {l : List (Int × Value)} (g : ∀ e ∈ l, GoodT w e) : ElemsOf (strKind P w) l := fun e he => by
  obtain ⟨y, t, h1, h2⟩ := g e he
  exact ⟨⟨y, by rw [h1]; exact beq_self_eq_true y, h2⟩, by rw [h1]; rfl⟩
theorem goodT_is {e : Int × Value} (g : GoodT w e) (k : Str) : (strKind P w).is k e.2 = true ↔ tE e = k := by
  obtain ⟨y, t, h1, _⟩ := g
  unfold tE
  rw [h1]
  show ((y == k) = true) ↔ y = k
  exact beq_iff_eq
theorem goodT_mem {l : List (Int × Value)} (g : ∀ e ∈ l, GoodT w e) (k : Str) : k ∈ l.map tE ↔ ∃ e ∈ l, (strKind P w).is k e.2 = true := by
  rw [List.mem_map]
  exact ⟨fun ⟨e, he, q⟩ => ⟨e, he, (goodT_is (g e he) k).2 q⟩, fun ⟨e, he, q⟩ => ⟨e, he, (goodT_is (g e he) k).1 q⟩⟩
/-- the end of an add: stored, and laid anew where it is too full -/
theorem rd_tail {gv : Bool → Sem Unit} (hg : ∀ (b : Bool) (z1 : Shared) (Q1 : Unit → Shared → Prop), Q1 () z1 → wpAny (model P w) A (gv b) Q1 E z1)
    {o : Obj} {es e1 : Array (Int × Value)} {ep : Nat} {t t2 : SetTable} (ho : z.heap.get? S = some o) (ox : o.ExactSet) (od : o.data = .set es ep t) (g1 : ∀ e ∈ e1.toList, GoodT w e) (pm : (e1.toList.map tE).Perm L) (nd : L.Nodup)
    (few : e1.size < scanBound) (fit : t2.fits e1.size = true) (ris : Ris t2.place.toList) (led : w.params.followText "set-order" = true ∨ t2.led = true) {dum : Bool} {R : Option Bool → Shared → Prop} (fin : ∀ h2, Heap.SameBut S z.heap h2 → Rd w h2 S L → R (some true) { z with heap := h2 }) :
    wpAny (model P w) A (do
      storeSet S e1 t2
      if (!dum && t2.tooFull) = true then do
        gv (relayAll t2 e1 (SetTable.grown e1.size)).2.2
        storeSet S (relayAll t2 e1 (SetTable.grown e1.size)).1 (relayAll t2 e1 (SetTable.grown e1.size)).2.1
        pure (some true)
      else pure (some true)) R E z := by
  refine wpAny_bind (wpAny_storeSet_of ho od ?_ (fits_of_scanBound few))
  have a1 := store_at (es' := e1) (t' := t2) ho od
  have b1 := Heap.SameBut.update z.heap S (Obj.putSet e1 t2)
  split
  · have r1 := relayAll_perm t2 e1 (SetTable.grown e1.size)
    have r2 := relayAll_fits t2 e1 (SetTable.grown e1.size)
    have r3 := relayAll_ris t2 e1 (SetTable.grown e1.size)
    have r4 := relayAll_led t2 e1 (SetTable.grown e1.size)
    generalize relayAll t2 e1 (SetTable.grown e1.size) = Y at r1 r2 r3 r4 ⊢
    obtain ⟨e2, t3, gave⟩ := Y
    dsimp only at r1 r2 r3 r4 ⊢
    have sz : e2.size = e1.size := by rw [← Array.length_toList, r1.length_eq, Array.length_toList]
    have few2 : e2.size < scanBound := by rw [sz]; exact few
    refine wpAny_bind (hg _ _ _ ?_); refine wpAny_bind (wpAny_storeSet_of a1 rfl ?_ (fits_of_scanBound few2))
    have a2 := store_at (es' := e2) (t' := t3) a1 rfl
    exact wpAny_pure (fin _ (b1.trans (Heap.SameBut.update _ S _)) ⟨_, e2, _, t3, a2, ox, rfl, fun e he => g1 e (r1.mem_iff.mp he), (r1.map tE).trans pm, nd, few2, r2, r3, led.imp id fun q => by rw [r4]; exact q⟩)
  · exact wpAny_pure (fin _ b1 ⟨_, e1, _, t2, a1, ox, rfl, g1, pm, nd, few, fit, ris, led⟩)
theorem rd_add {k : Str} {u : Tok} {Q : Bool → Shared → Prop} (rd : Rd w z.heap S L) (room : L.length + 1 < scanBound)
    (fin : ∀ (b : Bool) h2, Heap.SameBut S z.heap h2 → Rd w h2 S (if k ∈ L then L else L ++ [k]) → Q b { z with heap := h2 }) :
    wpAny (model P w) A (setAddHashed S (.str k u) ((strKind P w).hash k)) Q E z := by
  obtain ⟨o, es, ep, t, ho, ox, od, g, pm, nd, few, fit, ris, led⟩ := rd
  have k1 : (strKind P w).is k (.str k u) = true := beq_self_eq_true k
  have k2 : (Value.str k u).scannable = true := rfl
  have el : ElemsOf (strKind P w) es.toList := goodT_el g
  have sz : es.size = L.length := by rw [← Array.length_toList, ← pm.length_eq, List.length_map]
  unfold setAddHashed setAddHashedIn
  refine wpAny_holding (wpAny_bind (wpAny_setState_of ho od fit ?_)); dsimp only
  rw [byScan_of k2 few el]; simp only [↓reduceIte]
  unfold setAddByScan
  refine wpAny_bind ?_; refine wpAny_bind (wpAny_rule ?_); refine wpAny_bind (wpAny_setScan_of k1 ho od fit el ?_)
  cases hf : List.findIdx? (fun e => (strKind P w).is k e.2) es.toList with
  | some j =>
    dsimp only
    obtain ⟨hj, pj, _⟩ := List.findIdx?_eq_some_iff_getElem.mp hf
    have hk : k ∈ L := pm.mem_iff.mp ((goodT_mem (P := P) g k).2 ⟨es.toList[j], List.getElem_mem hj, pj⟩)
    refine wpAny_pure (wpAny_pure ?_); exact fin _ z.heap (Heap.SameBut.refl S z.heap) (by rw [if_pos hk]; exact ⟨o, es, ep, t, ho, ox, od, g, pm, nd, few, fit, ris, led⟩)
  | none =>
    dsimp only
    have hn : k ∉ L := fun q => by
      obtain ⟨e, he, q2⟩ := (goodT_mem (P := P) g k).1 (pm.mem_iff.mpr q)
      have c := List.findIdx?_eq_none_iff.mp hf e he
      rw [q2] at c
      cases c
    have gw : ∀ (b : Bool) {z1 : Shared} {Q1 : Unit → Shared → Prop}, Q1 () z1 → wpAny (model P w) A (match b with | true => rule "set.scan.the-table-gave-way" | false => pure ()) Q1 E z1 := fun b z1 Q1 q => by cases b <;> first | exact wpAny_pure q | exact wpAny_rule q
    have r1 := layNew_perm t es ((strKind P w).hash k) (.str k u)
    have r2 := layNew_fits t es ((strKind P w).hash k) (.str k u)
    have r3 := layNew_ris t es ((strKind P w).hash k) (.str k u) ris
    have r4 := layNew_led t es ((strKind P w).hash k) (.str k u)
    generalize layNew t es ((strKind P w).hash k) (.str k u) = Y at r1 r2 r3 r4 ⊢
    obtain ⟨e1, t1, dum, gave⟩ := Y
    dsimp only at r1 r2 r3 r4 ⊢
    rw [Array.toList_push] at r1
    have c1 : e1.toList.Perm (es.toList ++ [((strKind P w).hash k, Value.str k u)]) := r1
    have pk : (e1.toList.map tE).Perm (L ++ [k]) := by
      have q := c1.map tE
      rw [List.map_append] at q
      exact q.trans (pm.append_right _)
    have g1 : ∀ e ∈ e1.toList, GoodT w e := fun e he => by
      rcases List.mem_append.mp (c1.mem_iff.mp he) with q | q
      · exact g e q
      · rw [List.mem_singleton.mp q]; exact ⟨k, u, rfl, rfl⟩
    have nd1 : (L ++ [k]).Nodup := List.nodup_append.mpr ⟨nd, by simp, fun a ha b hb e => hn (by rw [← List.mem_singleton.mp hb, ← e]; exact ha)⟩
    have sz1 : e1.size = L.length + 1 := by rw [← Array.length_toList, c1.length_eq, List.length_append, Array.length_toList, sz]; rfl
    have few1 : e1.size < scanBound := by rw [sz1]; exact room
    have led1 : w.params.followText "set-order" = true ∨ t1.led = true := led.imp id fun q => by rw [r4]; exact q
    have fin2 : ∀ h2, Heap.SameBut S z.heap h2 → Rd w h2 S (L ++ [k]) → Q true { z with heap := h2 } := fun h2 sb q => fin true h2 sb (by rw [if_neg hn]; exact q)
    refine wpAny_bind (gw _ ?_)
    split
    · refine wpAny_bind ?_
      rw [hashByValue_scannable 8 k2]
      refine wpAny_pure ?_
      refine rd_tail ?_ ho ox od g1 pk nd1 few1 ?_ ?_ ?_ ?_
      · intro b z1 Q1 q; cases b <;> first | exact wpAny_pure q | exact wpAny_rule q
      · first | (split <;> first | exact r2 | exact SetTable.fits_plain_off r2) | exact r2
      · first | (split <;> exact r3) | exact r3
      · first | (split <;> exact led1) | exact led1
      · intro h2 sb q; dsimp only; exact wpAny_pure (fin2 h2 sb q)
    · refine wpAny_bind (wpAny_pure ?_)
      simp only [↓reduceIte]
      refine rd_tail ?_ ho ox od g1 pk nd1 few1 r2 r3 led1 ?_
      · intro b z1 Q1 q; cases b <;> first | exact wpAny_pure q | exact wpAny_rule q
      · intro h2 sb q; dsimp only; exact wpAny_pure (fin2 h2 sb q)
end
end SS
namespace SS
open PySem PySem.Spec PyProof.Rows L2
section
variable {P : Program} {w : World}
variable {A : Around} {R : Result → Shared → Prop} {J : Addr} {fp wr : List Addr} {G : Array GenState → Array GenState → Prop} {N : Nat} {Pv : Nat → Value → Prop} {St : Nat → Shared → Prop}
theorem loopR (wk : WalksS P w A.in1 J fp wr G N Pv St) (S : Addr) (sf : S ∉ fp) (kf : Nat → Str) (kv : ∀ i v, Pv i v → ∃ t, v = .str (kf i) t) (few : N + 1 < scanBound) :
    ∀ (left i : Nat) (z : Shared), N - i = left → i ≤ N → St i z → Rd w z.heap S (met kf i) → (∀ z', Moved (S :: wr) G z z' → Rd w z'.heap S (met kf N) → R (.ok (.ret .none)) z') → codeAny (model P w) A (.builtin "set.update.loop" ⟨[.ref S, .ref J], []⟩) R z := by
  have sw : S ∉ wr := fun q => sf (wk.sub _ q)
  have inc : ∀ b ∈ wr, b ∈ S :: wr := fun b q => List.mem_cons.mpr (.inr q)
  intro left
  induction left with
  | zero =>
    intro i z e1 e2 st is fin
    obtain rfl : i = N := by omega
    refine codeAny_builtin F.entry_set_update_loop ?_; rw [Around.under_plainId F.plain_set_update_loop _]
    show wpAny _ A.in1 (pyNext (.ref J) >>= _) _ _ z
    refine wpAny_bind (wk.done z _ _ st fun z' mv => ?_)
    show wpAny _ A.in1 (ret Value.none) _ _ z'
    exact wpAny_pure (fin z' (mv.mono inc) (is.keep fun o ho => mv.heap S o sw ho))
  | succ left ih =>
    intro i z e1 e2 st is fin
    have lt : i < N := by omega
    refine codeAny_builtin F.entry_set_update_loop ?_; rw [Around.under_plainId F.plain_set_update_loop _]
    show wpAny _ A.in1 (pyNext (.ref J) >>= _) _ _ z
    refine wpAny_bind (wk.item i z _ _ lt st fun v z1 pv st1 mv => ?_)
    obtain ⟨u, rfl⟩ := kv i v pv
    have is1 : Rd w z1.heap S (met kf i) := is.keep fun o ho => mv.heap S o sw ho
    show wpAny _ A.in1 (holding [Value.str (kf i) u] (setAdd S (.str (kf i) u)) >>= _) _ _ z1
    refine wpAny_bind (wpAny_holding ?_)
    unfold setAdd
    refine wpAny_holding ?_
    refine wpAny_bind ((strKind P w).pyHash (k := kf i) (beq_self_eq_true (kf i)) ?_)
    have room : (met kf i).length + 1 < scanBound := by have := met_le kf i; omega
    refine rd_add (z := { z1 with toks := z1.toks + 1 }) is1 room fun bb h2 but is2 => ?_
    have is3 : Rd w h2 S (met kf (i + 1)) := is2
    refine wpAny_pure ⟨plainId_quiet F.plain_set_update_loop _, ih (i + 1) _ (by omega) lt (wk.frame _ z1 _ _ st1 (Nat.le_succ _) fun b hb o e => ?_) is3 fun z2 mv2 is4 => ?_⟩
    · rw [but.2 b fun q => sf (q ▸ hb)]
      exact e
    · refine fin z2 (Moved.trans wk.gtrans ((mv.mono inc).then_heap (Nat.le_succ _) fun b o hb e => ?_) mv2) is4
      rw [but.2 b fun q => hb (by rw [q]; exact List.mem_cons.mpr (.inl rfl))]
      exact e
end
section
variable {P : Program} {w : World} {A : Around} {E : Value → Shared → Prop} {z : Shared}
/-- a new set, its order told of -/
abbrev nw (w : World) : Obj := { cls := .type "set", dict := none, data := .set #[] 0 (.fresh 0 0 (!w.params.followText "set-order")) }
theorem startR {h : Heap} {S : Addr} (e : h.get? S = some (nw w)) : Rd w h S [] :=
  ⟨_, #[], 0, _, e, ⟨rfl, rfl, rfl⟩, rfl, (fun x hx => by simp at hx), List.Perm.refl _, List.nodup_nil, by decide, by rfl, List.Pairwise.nil, by
    show _ ∨ (!w.params.followText "set-order") = true
    cases w.params.followText "set-order" <;> simp⟩
theorem call_setR {l : Addr} {its : Array Value} {kf : Nat → Str} {Q : Value → Shared → Prop} (hA : A.handled = none) (hl : z.heap.IsList l its) (kv : ∀ (i : Nat) (v : Value), its[i]? = some v → ∃ t, v = .str (kf i) t) (few : its.size + 1 < scanBound)
    (fin : ∀ (h : Heap) (tk : Nat), Rd w h z.heap.objs.size (met kf its.size) → (∀ b o, b < z.heap.objs.size → z.heap.get? b = some o → h.get? b = some o) → Q (.ref z.heap.objs.size) { z with heap := h, toks := tk }) :
    wpAny (model P w) A (call (.type "set") [.ref l]) Q E z := by
  obtain ⟨c0, tl0, mro0⟩ := F.called_set.mro
  have made0 := F.called_set.made
  have sub0 := F.called_set.sub
  refine wpAny_call (codeAny_of_tree ?_); show wpAny _ _ (callAny (.type "set") _) _ _ _
  refine wpAny_pure ⟨Code.quiet_builtin _ (by decide +kernel), codeAny_builtin F.entry_type_call ?_⟩; rw [Around.under_plain (weight_type_call_type "set" [.ref l] []) rfl]
  have g1 := F.called_set.notType
  have g2 := F.called_set.canCreate
  have g3 := F.typeCall_set_1 (.ref l)
  repeat (any_goals (first | assumption | wp_step))
  refine codeAny_mono (code_set_led1 (.ref l) (E := E) (Q₁ := fun x z1 => x = .ref z.heap.objs.size ∧ z1 = { z with heap := z.heap.push (nw w) }) ⟨rfl, rfl⟩) fun r z1 hr => ?_
  cases r with
  | error e => exact hr
  | ok fl =>
    cases fl with
    | ret x =>
      obtain ⟨rfl, rfl⟩ := hr
      have gS : (z.heap.push (nw w)).get? z.heap.objs.size = some (nw w) := Heap.get?_push_size _ rfl
      have tS : Shared.TypeIs { z with heap := z.heap.push (nw w) } (.ref z.heap.objs.size) "set" := ⟨_, gS, rfl⟩
      have li := F.called_set.init.lookup
      have bi := F.called_set.init.bind (.ref z.heap.objs.size)
      repeat (any_goals (first | assumption | wp_step))
      refine codeAny_mono (codeAny_call_builtin (R := wants (fun r z2 => r = .none ∧ ∃ h tk, z2 = { z with heap := h, toks := tk } ∧ Rd w h z.heap.objs.size (met kf its.size) ∧ (∀ b o, b < z.heap.objs.size → z.heap.get? b = some o → h.get? b = some o)) E) F.called_set.init.plain F.entry_set_init (check_set_init_1 tS ?_)) fun r2 z2 hr2 => ?_
      · obtain ⟨ol, gl, cl, nl, dl⟩ := hl
        obtain ⟨oc, od, ot, os⟩ := ol
        simp only at cl dl
        subst cl dl
        have gl' : (z.heap.push (nw w)).get? l = some { cls := .type "list", dict := od, data := .seq its nl, slots := os } := Heap.get?_push_of_some _ gl
        have s1 := F.sub_list_set
        have s2 := F.sub_list_frozenset
        have ne : (Value.type "list" == Value.type "dict") = false := by decide
        have il : (z.heap.push (nw w)).IsList l its := ⟨_, gl', rfl, nl, rfl⟩
        unfold Builtin.«set.__init__» noKeywords Builtin.Frozenset.updateFrom
        generalize hp : pyIter = PI; wp_walk; subst hp
        refine wpAny_pyIter_list il ?_; refine wpAny_bind (wpAny_runValue ?_)
        have lS : l < z.heap.objs.size := Heap.lt_size gl
        have hA3 : A.in1.in1.in1.handled = none := by simp [hA]
        have sz : (z.heap.push (nw w)).objs.size = z.heap.objs.size + 1 := Heap.size_push _ _
        have lI : l ≠ (z.heap.push (nw w)).objs.size := by rw [sz]; exact Nat.ne_of_lt (Nat.lt_succ_of_lt lS)
        have sf : z.heap.objs.size ∉ [(z.heap.push (nw w)).objs.size, l] := by
          rw [sz]
          simp only [List.mem_cons, List.not_mem_nil, or_false]
          exact fun h => h.elim (fun e => Nat.ne_of_lt (Nat.lt_succ_self _) e) fun e => Nat.ne_of_gt lS e
        refine loopR ((Walks.list hA3 _ l lI its).toS) z.heap.objs.size sf kf kv few (its.size - 0) 0 _ (by omega) (Nat.zero_le _) ⟨⟨_, Heap.get?_push_size _ rfl, rfl, rfl⟩, il.push _⟩ (startR (Heap.get?_push_of_some _ gS)) fun z3 mv is => ?_
        obtain ⟨h3, ge, dr, tk3, os3⟩ := z3
        obtain rfl : ge = z.gens := mv.gens
        obtain rfl : dr = z.drawn := mv.drawn
        obtain rfl : os3 = z.os := mv.os
        show wpAny _ _ _ _ _ _
        refine wpAny_pure ?_
        show wpAny _ _ (ret Value.none) _ _ _
        refine wpAny_pure ⟨rfl, h3, tk3, rfl, is, fun b o hb e => mv.heap b o ?_ (Heap.get?_push_of_some _ (Heap.get?_push_of_some _ e))⟩
        simp only [List.mem_cons, List.not_mem_nil, or_false]
        rw [sz]
        exact fun h => h.elim (fun e => Nat.ne_of_lt hb e) fun e => Nat.ne_of_lt (Nat.lt_succ_of_lt hb) e
      · cases r2 with
        | error e => exact hr2
        | ok fl2 =>
          cases fl2 with
          | ret r =>
            obtain ⟨rfl, h3, tk, rfl, is, kp⟩ := hr2
            repeat (any_goals (first | assumption | wp_step))
            exact fin _ _ is kp
          | _ => exact hr2.elim
    | _ => exact hr.elim
end
end SS
/-! sorted(set(texts)) -/
namespace SS
open PySem PySem.Spec PyProof.Rows L2
theorem strs_of : ∀ (l : List Value), (∀ v ∈ l, ∃ y t, v = Value.str y t) → StrsAre l (l.map tOf)
  | [], _ => .nil
  | v :: l, h => by
    obtain ⟨y, t, rfl⟩ := h v List.mem_cons_self
    exact .cons y t (strs_of l fun u hu => h u (List.mem_cons_of_mem _ hu))
section
variable {P : Program} {w : World} {A : Around} {E : Value → Shared → Prop} {z : Shared}
theorem sorted_setR {a : Addr} {L : List Str} {Q : Value → Shared → Prop} (rd : Rd w z.heap a L) (hA : A.handled = none) (h64 : L.length < 64)
    (fin : ∀ z' p (out : Array Value) (c : Nat) (ys : List Str), (∀ b o, z.heap.get? b = some o → z'.heap.get? b = some o) → z'.gens = z.gens → z'.os = z.os → z.heap.objs.size ≤ p →
      z'.heap.get? p = some (seqObj "list" out c) → StrsAre out.toList ys → ys.Perm L → sortedS ys = true → Q (.ref p) z') : wpAny (model P w) A (call (.builtin "sorted") [.ref a]) Q E z := by
  obtain ⟨o, es, ep, t, ho, ox, od, g, pm, nd, few, fit, ris, led⟩ := rd
  refine Calls.call_function_entry kind_sorted plain_sorted entry_sorted (args_sorted1 _) ?_; unfold Builtin.«sorted»
  refine wpAny_bind (m := checkCount "sorted" 1 1 _) (wpAny_pure ?_); refine wpAny_bind (collect_set (A := A.in1) hA ⟨o, ho, ox.1, od⟩ fit few ris led fun z1 vs k1 hz g1 o1 pv => ?_)
  have pt : (vs.map tOf).Perm L := by
    have q := pv.map tOf
    rw [List.map_map] at q
    exact q.trans pm
  have hs : StrsAre vs (vs.map tOf) := strs_of vs fun v hv => by
    obtain ⟨e, he, q⟩ := List.mem_map.mp (pv.mem_iff.mp hv)
    obtain ⟨y, t, h1, _⟩ := g e he
    exact ⟨y, t, by rw [← q]; exact h1⟩
  have vl : vs.length = L.length := by have := pt.length_eq; rw [List.length_map] at this; exact this
  refine wpAny_bind (wpAny_newList ?_ (by rw [vl, sizeLine_eq]; omega))
  have hL : (z1.heap.push (seqObj "list" vs.toArray 0)).get? z1.heap.objs.size = some (seqObj "list" vs.toArray 0) := Heap.get?_push_size _ rfl
  refine wpAny_bind (wpAny_holding (wpAny_call_entry slot_list_sort ⟨_, hL, rfl⟩ entry_list_sort (list_sort_treeK strKind_oneLt hL hs.keysOf (fun v1 v2 rest e => keyKind_strs (by rw [← e]; exact hs)) (by rw [vl]; exact h64) fun st hp hst => ⟨_, rfl, ?_⟩) (args_list_sort _)))
  obtain ⟨ys, a1, a2, a3⟩ := sorted_out_str hs hp hst
  obtain ⟨c, hc⟩ := sortedHeap_at (vs := vs) (out := (arrOf st).map (·.2)) hL
  refine wpAny_pure ⟨_, rfl, fin _ z1.heap.objs.size _ c ys (fun b u e => ?_) g1 o1 hz hc a1 (a2.trans pt) a3⟩
  have q := k1 b u e
  have lt := Heap.lt_size q
  show (sortedHeap (z1.heap.push (seqObj "list" vs.toArray 0)) z1.heap.objs.size vs _).get? b = some u
  rw [sortedHeap_old (Nat.ne_of_lt lt) (by rw [Heap.size_push]; exact Nat.lt_succ_of_lt lt)]; exact Heap.get?_push_of_some _ q
end
/-! ### sorted, by insertion -/
def leS (a b : Str) : Prop := a.cps.toList ≤ b.cps.toList
instance (a b : Str) : Decidable (leS a b) := inferInstanceAs (Decidable (a.cps.toList ≤ b.cps.toList))
theorem leS_trans {a b c : Str} (h1 : leS a b) (h2 : leS b c) : leS a c := List.le_trans h1 h2
theorem leS_total (a b : Str) : leS a b ∨ leS b a := List.le_total _ _
theorem leS_anti {a b : Str} (h1 : leS a b) (h2 : leS b a) : a = b := TL.ext_tl (List.le_antisymm h1 h2)
def ins (a : Str) : List Str → List Str
  | [] => [a]
  | b :: r => if leS a b then a :: b :: r else b :: ins a r
def isort : List Str → List Str
  | [] => []
  | a :: l => ins a (isort l)
theorem ins_perm (a : Str) : ∀ l, (ins a l).Perm (a :: l)
  | [] => List.Perm.refl _
  | b :: r => by
    unfold ins
    split
    · exact List.Perm.refl _
    · exact ((ins_perm a r).cons b).trans (List.Perm.swap a b r)
theorem isort_perm : ∀ l, (isort l).Perm l
  | [] => List.Perm.refl _
  | a :: l => (ins_perm a _).trans ((isort_perm l).cons a)
theorem ins_sorted (a : Str) : ∀ {l : List Str}, l.Pairwise leS → (ins a l).Pairwise leS
  | [], _ => List.pairwise_singleton _ _
  | b :: r, h => by
    obtain ⟨h1, h2⟩ := List.pairwise_cons.mp h
    unfold ins
    split
    · rename_i q
      exact List.pairwise_cons.mpr ⟨fun y hy => by
        rcases List.mem_cons.mp hy with rfl | hy
        · exact q
        · exact leS_trans q (h1 y hy), h⟩
    · rename_i q
      have q2 : leS b a := (leS_total a b).resolve_left q
      exact List.pairwise_cons.mpr ⟨fun y hy => by
        rcases List.mem_cons.mp ((ins_perm a r).mem_iff.mp hy) with rfl | hy
        · exact q2
        · exact h1 y hy, ins_sorted a h2⟩
theorem isort_sorted : ∀ l, (isort l).Pairwise leS
  | [] => List.Pairwise.nil
  | a :: l => ins_sorted a (isort_sorted l)
theorem pair_uniq : ∀ {l m : List Str}, l.Pairwise leS → m.Pairwise leS → l.Perm m → l = m
  | [], m, _, _, p => (List.nil_perm.mp p).symm
  | a :: l, [], _, _, p => absurd p.length_eq (by simp)
  | a :: l, b :: m, h1, h2, p => by
    obtain ⟨a1, a2⟩ := List.pairwise_cons.mp h1
    obtain ⟨b1, b2⟩ := List.pairwise_cons.mp h2
    have e : a = b := by
      have m1 : a ∈ b :: m := p.mem_iff.mp List.mem_cons_self
      have m2 : b ∈ a :: l := p.mem_iff.mpr List.mem_cons_self
      rcases List.mem_cons.mp m1 with e | m1
      · exact e
      · rcases List.mem_cons.mp m2 with e | m2
        · exact e.symm
        · exact leS_anti (a1 b m2) (b1 a m1)
    subst e
    rw [pair_uniq a2 b2 (List.Perm.cons_inv p)]
theorem rising_le : ∀ {p : Str} {l : List Str}, risingS p l = true → (p :: l).Pairwise leS
  | p, [], _ => List.pairwise_singleton _ _
  | p, x :: r, h => by
    have h : (!ltCps x.cps.toList p.cps.toList && risingS x r) = true := h
    rw [Bool.and_eq_true] at h
    have ih := rising_le h.2
    have q : leS p x := by
      have h1 := h.1
      rw [ltCps_eq, Bool.not_eq_true', decide_eq_false_iff_not] at h1
      exact List.not_lt.mp h1
    exact List.pairwise_cons.mpr ⟨fun y hy => by
      rcases List.mem_cons.mp hy with rfl | hy
      · exact q
      · exact leS_trans q ((List.pairwise_cons.mp ih).1 y hy), ih⟩
theorem sorted_uniq {ys L : List Str} (h : sortedS ys = true) (p : ys.Perm L) : ys = isort L := by
  refine pair_uniq ?_ (isort_sorted L) (p.trans (isort_perm L).symm)
  cases ys with
  | nil => exact List.Pairwise.nil
  | cons y ys => exact rising_le h
end SS
namespace BV
open PySem PySem.Spec PyProof.Rows L2
/-! ### sorted(set(texts)) -/
def srtS (ys : List Str) : List Str := SS.isort (SS.met (fun i => ys.getD i Str.empty) ys.length)
section
variable {X : Cx} {T : List (Addr × Str)} {Γ : List Bool} {W : WX} {e a : Expr} {fa : Rho → R D}
theorem Inv.after {pins : List (Addr × Obj)} {σ : L2.St} {H : Hp} {z z' : Shared} {p : Addr} {o : HO} (I : Inv X pins σ H z) (k : ∀ b u, z.heap.get? b = some u → z'.heap.get? b = some u) (g : z'.gens = z.gens) (os : z'.os = z.os) (hp : z.heap.objs.size ≤ p) (new : ObjOk X.prog X.w (upd H p o) z'.heap p o) : Inv X pins σ (upd H p o) z' := by
  have J : Inv X pins σ (upd H p o) { z with heap := z'.heap, gens := z'.gens, drawn := z'.drawn, toks := z'.toks } :=
    I.call (ch := []) (Un.laid k hp (I.hok.fresh hp)) (I.hok.laid k hp new) (by rw [g]; exact I.bare) (fun _ q => nomatch q)
  have e : z' = { z with heap := z'.heap, gens := z'.gens, drawn := z'.drawn, toks := z'.toks } := by
    cases z'; cases z; cases os; rfl
  rw [e]
  exact J
def tSortSetS (K : PySem.W.Frag) (ta : TE) : TE := fun σ H Q => ta σ H fun x H1 => ∃ (l : Addr) (ys : List Str), x = V.ref l ∧ SqL K H1 l (ys.map V.str) ∧ ys.length < 63 ∧ ∀ p, H1 p = none → Q (.ref p) (upd H1 p (.lst ((srtS ys).map V.str)))
theorem pe_sortSetS {ta : TE} {p p2 q pos : Pos} (hc : X.calm = true) (g1 : Gl X "sorted") (m1 : X.mg "sorted" = none) (g2 : Gl X "set") (m2 : X.mg "set" = none) (ha : PE X a ta)
    (st : starEach [a] X.env = (false, eval a X.env) :: starEach [] X.env := by rfl) : PE X (.Call (.Name "sorted" p) [.Call (.Name "set" p2) [a] [] q] [] pos) (tSortSetS X.K ta) := ⟨fun pins z σ H Q I h => by
  refine Call_ (ld_blt I g1 m1 PyProof.Rows.boot_sorted ?_); refine PyProof.Rows.callWith_builtin1 (PyProof.Rows.args_cons ?_ rfl) rfl rfl
  refine Call_ (ld_blt I g2 m2 PyProof.Rows.boot_set ?_); refine PyProof.Rows.callWith_type1 (PyProof.Rows.args_cons (thn (ha.run pins z σ H _ I h) fun v z1 ⟨x, H1, I1, r1, q1⟩ => PyProof.Rows.args_nil ?_) st) st rfl
  obtain ⟨l, ys, rfl, hq, few, q1⟩ := q1
  cases r1
  obtain ⟨its, rv, pl, hz⟩ := I1.list hq
  have hs := strs_of_vals rv
  have hl : its.length = ys.length := by have := rv.length; rw [List.length_map] at this; exact this.symm
  have hl2 : its.toArray.size = ys.length := by rw [List.size_toArray, hl]
  refine SS.call_setR (kf := fun i => ys.getD i Str.empty) (I1.ok.hd hc) pl.isList (fun i v e => strs_at hs i v (by rw [← e]; simp)) (by unfold scanBound; omega) fun h2 tk rd kp => ?_
  refine PyProof.Rows.args_nil ?_
  rw [hl2] at rd
  have I2 : Inv X pins σ H1 { z1 with heap := h2, toks := tk } := I1.kept fun b o e => kp b o (Heap.lt_size e) e
  have hb := SS.met_le (fun i => ys.getD i Str.empty) ys.length
  refine SS.sorted_setR rd (I1.ok.hd hc) (by omega) fun z3 p3 out c ws k g os hp hg hi pm srt => ?_
  have ew : ws = srtS ys := SS.sorted_uniq srt pm
  subst ew
  have hlen : ((srtS ys).map V.str).length ≤ sizeLine := by rw [List.length_map, pm.length_eq, sizeLine_eq]; omega
  have I3 : Inv X pins σ (upd H1 p3 (.lst ((srtS ys).map V.str))) z3 := Inv.after I2 k g os hp ⟨hlen, out.toList, c, vals_of_strs hi, hg⟩
  exact ⟨.ref p3, _, I3, rfl, q1 p3 (I2.hok.fresh hp)⟩⟩
def srtD : D → Option D
  | .lst ds => (strsOf ds).bind fun ys => if ys.length < 63 ∧ okStrs (srtS ys) = true then some (.lst ((srtS ys).map .str)) else none
  | _ => none
theorem pd_sortSet (h : PE X e (tSortSetS X.K (tD X.K X.mg T Γ W .b fa))) : PD X T Γ W .o e (unE srtD fa) :=
  PE.imp h fun σ H Q ⟨Hf, ρ, rel, p⟩ => ⟨Hf, ρ, rel, PostE.bind p fun d v Hf1 H1 e1 x1 rk p1 => by
    obtain ⟨d3, e3, p3⟩ := of_some p1
    cases d with
    | lst ds =>
      have e3 : ((strsOf ds).bind fun ys => if ys.length < 63 ∧ okStrs (srtS ys) = true then some (D.lst ((srtS ys).map .str)) else none) = some d3 := e3
      cases qs : strsOf ds with
      | none => rw [qs] at e3; cases e3
      | some ys =>
        rw [qs] at e3
        have e3 : (if ys.length < 63 ∧ okStrs (srtS ys) = true then some (D.lst ((srtS ys).map .str)) else none) = some d3 := e3
        split at e3
        · rename_i hc
          cases e3
          obtain ⟨q, ws, rfl, h1, h2, h3⟩ := RK.lst x1.inn rk
          obtain ⟨rfl, _⟩ := strsOf_ok qs h3
          have hb := SS.met_le (fun i => ys.getD i Str.empty) ys.length
          have hm : (srtS ys).length ≤ ys.length := by unfold srtS; rw [(SS.isort_perm _).length_eq]; exact hb
          have h63 : (63 : Nat) ≤ sizeLine := by decide
          have hm2 : (srtS ys).length ≤ sizeLine := by omega
          refine ⟨q, ys, rfl, SqL.of h1, hc.1, fun l hl => ?_⟩
          exact p3 Hf1 _ (ExtF.new x1.inn hl) _ ⟨l, _, rfl, x1.inn.none hl, Old.not hl, upd_same, _, rfl, by rw [List.length_map]; exact hm2, RepL.strs hc.2⟩
        · cases e3
    | _ => cases e3⟩
end
end BV
namespace BV
open PySem PySem.Spec PyProof.Rows L2
/-! ### more over cells: defs called by name, dicts that hold cells -/
section
variable {X : Cx} {T : List (Addr × Str)} {Γ : List Bool} {W : WX} {B : Fx} {e a b o : Expr} {es : List Expr} {pos p apos : Pos}
/-- a def that changes cells, called by its name -/
def callM (F : List D → List D → RM D) (fs : Rho → List D → RM (List D)) : Rho → List D → RM D := fun ρ M => (fs ρ M).bind fun ds M1 => F M1 ds
theorem pdm_callM {x : Str} {lv : Nat} {fa : Addr} {fd : FuncData} {ps : List Str} {F : List D → List D → RM D} {fs : Rho → List D → RM (List D)} (G : FnM X.prog X.w X.K X.mg X.base T lv fa fd ps F) (hr : Room lv X.A) (hg : Gl X x) (hm : X.mg x = some (.ref fa))
    (hk : PySem.W.keepIn X.K (.ref fa) = true) (hb : Binds X.K fd ps []) (tk : L2N.Takes X W) (ha : PDMA X T W (a :: es) fs) (hl : ∀ ρ M ds M', fs ρ M = .ok ds M' → ds.length = ps.length) (hdb : (x == ("__debug__" : Str)) = false := by decide)
    (he : starEach (a :: es) X.env = (false, eval a X.env) :: starEach es X.env := by rfl) (hpl : (backTo pos (starEach es X.env)).any (·.1) = false := by rfl) : PDM X T W (.Call (.Name x p) (a :: es) [] pos) (callM F fs) := fun am0 Hf0 H0 =>
  PE.imp (pe_callS G hr hg hm hk hb (fun σ => L2N.passAt tk σ) (ha am0 Hf0 H0) hdb he hpl) fun σ H Q ⟨Hf, ρ, M, am, r, q⟩ => ⟨Hf, ρ, M, am, r, PostM.mono (PostM.bind q) fun ds M1 am1 Hf1 H1 e1 p1 s1 r1 z vs rvs =>
    ⟨by rw [rvs.length]; exact hl _ _ _ _ e1, Hf1, _, M1, am1, ds, r1.e.enter, rvs, PostF.all (PostF.of r1 z) fun c d H h => h σ⟩⟩
/-- o[k], o a dict in a cell -/
def ixDM (fo fk : Rho → List D → RM D) : Rho → List D → RM D := fun ρ M => (fo ρ M).bind fun x M1 => (fk ρ M1).bind fun y M2 => match x, keyD y with
  | .loc n, some k => match M2[n]? with
    | some (.dic ks ds) => match dGet ks ds k with
      | some d => .ok d M2
      | none => .stuck
    | _ => .stuck
  | _, _ => .stuck
theorem dGet_okM {K : PySem.W.Frag} {mg : Str → Option Value} {am : List Addr} {H : Hp} {k : Key} {d : D} : ∀ {ds : List D} {kvs : List (Key × V)}, RepML K mg am H ds (kvs.map (·.2)) → dGet (kvs.map (·.1)) ds k = some d → ∃ v, valV kvs k = some v ∧ RepM K mg am H d v
  | [], [], _, e => by cases e
  | [], (j, u) :: kvs, h, _ => by cases (show u :: kvs.map (·.2) = [] from h)
  | x :: ds, [], h, _ => by obtain ⟨_, _, z, _⟩ := h; cases z
  | x :: ds, (j, u) :: kvs, h, e => by
    obtain ⟨v, r, e1, h1, h2⟩ := h
    have e1 : u :: kvs.map (·.2) = v :: r := e1
    cases e1
    have e : (if j = k then some x else dGet (kvs.map (·.1)) ds k) = some d := e
    by_cases q : j = k
    · rw [if_pos q] at e
      cases e
      exact ⟨u, valV_pos q, h1⟩
    · rw [if_neg q] at e
      obtain ⟨w, h3, h4⟩ := dGet_okM h2 e
      exact ⟨w, by rw [valV_neg q]; exact h3, h4⟩
theorem pdm_ixD {fo fk : Rho → List D → RM D} (hu : X.A.units + 65 < cLine) (ho : PDM X T W o fo) (hk : PDM X T W b fk) (hn : NoSl b) : PDM X T W (.Subscript o b pos) (ixDM fo fk) := fun am0 Hf0 H0 =>
  PE.imp (pe_dget (by omega) (ho am0 Hf0 H0) (hk am0 Hf0 H0) hn) fun σ H Q ⟨Hf, ρ, M, am, r, p⟩ => ⟨Hf, ρ, M, am, r, PostM.mono (PostM.bind p) fun x M1 am1 Hf1 H1 e1 p1 s1 r1 z v rv => ⟨Hf1, ρ, M1, am1, r1, PostM.mono (PostM.bind z) fun y M2 am2 Hf2 H2 e2 p2 s2 r2 z2 w rw_ => by
    split at z2
    · rename_i n k hk2
      split at z2
      · rename_i ks ds q
        split at z2
        · rename_i d q2
          rcases rv with ⟨n1, ad, f1, f2, f3⟩ | rv
          · cases f1
            subst f3
            obtain ⟨_, _, ob, k3, kvs, rfl, k4, k5⟩ := r2.e.c.cell n ad _ (p2 n ad f2) q
            subst k4
            obtain ⟨u, g1, g2⟩ := dGet_okM k5 q2
            rw [keyD_ok rw_ hk2]
            exact ⟨ad, u, rfl, by rw [← g1]; exact DGet.k k3, z2 am2 Hf2 H2 (Pre.refl am2) (subR r2.e) r2 u g2⟩
          · exact rv.elim
        · exact z2.elim
      · exact z2.elim
    · exact z2.elim⟩⟩
/-! ### a dict display that holds cells -/
structure PDPM (X : Cx) (T : List (Addr × Str)) (W : WX) (pos : Pos) (keys : List (Option Expr)) (vals : List Expr) (ks : List Str) (fs : Rho → List D → RM (List D)) : Prop where
  ex : ∃ trs, PPs X pos keys vals trs ∧ ∀ (am0 : List Addr) (Hf0 H0 : Hp) (σ : St) (H : Hp) (Q : List (V × V) → Hp → Prop),
    (∃ Hf ρ M am, RelM X.K X.mg T am0 Hf0 H0 ρ M am Hf σ H ∧ PostM X.K X.mg T am0 Hf0 H0 ρ am Hf W σ (fun ds _ am' Hf' H' => ∀ vs, RepML X.K X.mg am' Hf' ds vs → vs.length = ks.length → Q (ks.zip vs |>.map fun q => (.str q.1, q.2)) H') (fs ρ M)) → tPairs trs σ H Q
theorem pdpm_nil : PDPM X T W pos [] [] [] nilM := ⟨⟨[], pps_nil, fun am0 Hf0 H0 σ H Q ⟨Hf, ρ, M, am, r, p⟩ => p am Hf H (Pre.refl am) (subR r.e) r [] rfl rfl⟩⟩
theorem pdpm_cons {k : Str} {j} {kp : Pos} {keys : List (Option Expr)} {v : Expr} {vals : List Expr} {ks : List Str} {f : Rho → List D → RM D} {fs : Rho → List D → RM (List D)} (hv : PDM X T W v f) (hs : PDPM X T W pos keys vals ks fs) : PDPM X T W pos (some (.Constant (.str k) j kp) :: keys) (v :: vals) (k :: ks) (consM f fs) := by
  obtain ⟨trs, h1, h2⟩ := hs.ex
  refine ⟨(tC (.str k), fun σ H Q => ∃ am0 Hf0 H0, tM X.K X.mg T am0 Hf0 H0 W f σ H Q) :: trs, pps_cons pe_str ⟨fun pins s σ H Q I ⟨am0, Hf0, H0, q⟩ => (hv am0 Hf0 H0).run pins s σ H Q I q⟩ h1, fun am0 Hf0 H0 σ H Q ⟨Hf, ρ, M, am, r, p⟩ =>
    ⟨am0, Hf0, H0, Hf, ρ, M, am, r, PostM.mono (PostM.bind p) fun d M1 am1 Hf1 H1 e1 p1 s1 r1 z v rv => h2 am0 Hf0 H0 σ H1 _ ⟨Hf1, ρ, M1, am1, r1, PostM.mono (PostM.bind z) fun ds M2 am2 Hf2 H2 e2 p2 s2 r2 z2 vs rvs hl => ?_⟩⟩⟩
  exact z2 am2 Hf2 H2 (Pre.refl am2) (subR r2.e) r2 (v :: vs) ⟨v, vs, rfl, RepM.mono p2 s2 rv, rvs⟩ (by simp [hl])
def dspM (ks : List Str) (fs : Rho → List D → RM (List D)) : Rho → List D → RM D := fun ρ M => (fs ρ (M ++ [.dic [] []])).bind fun ds M2 => match M2[M.length]? with
  | some (.dic [] []) => if ds.length = ks.length then .ok (.loc M.length) (M2.set M.length (.dic (ks.map .inr) ds)) else .stuck
  | _ => .stuck
theorem pdm_dsp {keys : List (Option Expr)} {vals : List Expr} {ks : List Str} {fs : Rho → List D → RM (List D)} (h : PDPM X T W pos keys vals ks fs) (hall : keys.all (·.isSome) = true) (hl : keys.length = vals.length) (h0 : keys ≠ []) (h15 : keys.length ≤ 15) (hk : ks.length ≤ 15) (hn : ks.Nodup) : PDM X T W (.Dict keys vals pos) (dspM ks fs) := fun am0 Hf0 H0 => by
  obtain ⟨trs, h1, h2⟩ := h.ex
  refine PE.imp (pe_disp h1 hall hl h0 h15) fun σ H Q ⟨Hf, ρ, M, am, r, p⟩ q hq => ?_
  have nq : q ∉ am := fun z => by
    obtain ⟨_, _, o, q1, _⟩ := r.e.c.at z
    rw [hq] at q1
    cases q1
  have so := r.e.c.over_sub r.e.sub
  have xa : ExtF T (over am H Hf) H (over am H Hf) (upd H q (.dK [])) := ExtF.new so hq
  obtain ⟨r1, s1⟩ := r.step xa
  have hoq : over am H Hf q = none := by rw [over_out nq]; exact r.e.sub.none hq
  have r2 := r1.e.new (a := q) (d := .dic [] []) (by rw [cut_out nq]; exact hoq) (fun z => Old.not hq (r.e.x.kp q z)) nq upd_same ⟨[], rfl, rfl, rfl⟩
  have pr := Pre.app am q
  have last : (am ++ [q])[M.length]? = some q := by
    rw [← r.e.c.len, List.getElem?_append_right (Nat.le_refl _), Nat.sub_self]
    rfl
  have r3 : RelM X.K X.mg T am0 Hf0 H0 ρ (M ++ [.dic [] []]) (am ++ [q]) (cut am (over am H Hf)) σ (upd H q (.dK [])) := ⟨r2, r1.len, fun i d e => by
    obtain ⟨v, g1, g2⟩ := r1.slot i d e
    exact ⟨v, g1, RepM.mono pr (subR r1.e) g2⟩⟩
  refine h2 am0 Hf0 H0 σ _ _ ⟨_, ρ, _, _, r3, PostM.mono (PostM.bind (PostM.from pr s1 p)) fun ds M2 am2 Hf2 H2 e2 p2 s2 r4 z vs rvs hlv => ?_⟩
  split at z
  · rename_i q2
    obtain ⟨hd, z⟩ := ite_postM z
    have la := p2 _ _ last
    obtain ⟨_, _, ob, g3, kv0, rfl, g4, g5⟩ := r4.e.c.cell _ _ _ la q2
    have g4 : kv0 = [] := by cases kv0 with
      | nil => rfl
      | cons _ _ => cases g4
    subst g4
    have hks : ((ks.zip vs).map fun q => ((Sum.inr q.1 : Key), q.2)).map (·.1) = ks.map .inr := by
      rw [List.map_map]
      have : ((fun x : Key × V => x.1) ∘ fun q : Str × V => ((Sum.inr q.1 : Key), q.2)) = (fun s : Str => (Sum.inr s : Key)) ∘ Prod.fst := rfl
      rw [this, ← List.map_map, List.map_fst_zip (by omega)]
    have hvs2 : ((ks.zip vs).map fun q => ((Sum.inr q.1 : Key), q.2)).map (·.2) = vs := by
      rw [List.map_map]
      have : ((fun x : Key × V => x.2) ∘ fun q : Str × V => ((Sum.inr q.1 : Key), q.2)) = Prod.snd := rfl
      rw [this, List.map_snd_zip (by omega)]
    refine ⟨g3, ks.zip vs |>.map fun q => (.inr q.1, q.2), by rw [List.map_map]; rfl, by simp only [List.length_map, List.length_zip]; omega, ?_⟩
    have em := mergeK_nodup (kvs := []) (more := (ks.zip vs).map fun q => ((Sum.inr q.1 : Key), q.2)) (by
      rw [List.nil_append, hks]
      exact List.Pairwise.map _ (fun a b h z => h (Sum.inr.inj z)) hn)
    rw [List.nil_append] at em
    rw [em]
    exact z am2 Hf2 _ (Pre.refl am2) (subR r4.e) (RelM.write (B := ⟨T, .v, W⟩) r4 la q2 ⟨_, rfl, hks, by rw [hvs2]; exact rvs⟩) (.ref q) (.inl ⟨M.length, q, rfl, la, rfl⟩)
  · exact z.elim
/-! ### several names set by a tuple -/
def setTM (is : List Nat) (f : Rho → List D → RM D) : Rho → List D → RSM := fun ρ M => RSM.bind (f ρ M) fun d M1 => match d with
  | .tup ds => match setsR is ds ρ with
    | some ρ' => .nx ρ' M1
    | none => .stuck
  | _ => .stuck
theorem gNames_okM {K : PySem.W.Frag} {mg : Str → Option Value} {am0 am : List Addr} {Hf0 H0 Hf H : Hp} {M : List D} {Q : St → Hp → Prop} : ∀ (is : List Nat) {ds : List D} {vs : List V} {ρ ρ' : Rho} {σ : St}, RelM K mg B.T am0 Hf0 H0 ρ M am Hf σ H → RepML K mg am Hf ds vs → setsR is ds ρ = some ρ' → (∀ σ', RelM K mg B.T am0 Hf0 H0 ρ' M am Hf σ' H → Q σ' H) → gNames is vs σ H Q
  | [], [], vs, ρ, ρ', σ, r, h, e, q => by
    cases e
    exact ⟨h, q σ r⟩
  | i :: is, d :: ds, vs, ρ, ρ', σ, r, h, e, q => by
    obtain ⟨v, w, rfl, h1, h2⟩ := h
    exact ⟨v, w, rfl, gNames_okM is (r.setv i h1) h2 e q⟩
  | [], _ :: _, _, _, _, _, _, _, e, _ => by cases e
  | _ :: _, [], _, _, _, _, _, _, e, _ => by cases e
theorem pdsm_setT {tes : List Expr} {kk : Nat} {tp : Pos} {is : List Nat} {f : Rho → List D → RM D} (hc : X.calm = true) (he : PDM X B.T B.W e f) (h : PGs X tes (gNames is)) (hn : (assignEach tes X.env).length = is.length) (hst : (assignEach tes X.env).findIdx? (·.1) = none)
    (hs : swapsWithSole [.Tuple tes kk tp] e pos.line X.env = pure false := by rfl) (hw : swappedStores [.Tuple tes kk tp] e X.env = pure none := by rfl)
    (h1 : (assignEach [.Tuple tes kk tp] X.env).map (·.2) = [assign (.Tuple tes kk tp) X.env] := by rfl) : PDSM X B (.Assign [.Tuple tes kk tp] e pos) (setTM is f) := fun am0 Hf0 H0 =>
  PS.imp (ps_asg (he am0 Hf0 H0) (pg_tup hc h hn hst) hs hw h1) fun De σ H ⟨Hf, ρ, M, am, r, p⟩ => ⟨Hf, ρ, M, am, r, PostM.mono (PostSM.bind p) fun d M1 am1 Hf1 H1 e1 p1 s1 r1 z v rv => by
    split at z
    · rename_i ds
      split at z
      · rename_i ρ' q
        rcases rv with ⟨_, _, z, _⟩ | rv
        · cases z
        obtain ⟨t, vs, rfl, g1, g2, g3⟩ := rv
        exact ⟨t, vs, rfl, SqT.sub r1.e.sub g1, by rw [g3.length]; exact setsR_len is q, gNames_okM is r1 (RepML.of g3) q fun σ' r' => z am1 Hf1 σ' H1 r'⟩
      · exact z.elim
    · exact z.elim⟩
end
end BV
namespace BV
open PySem PySem.Spec PyProof.Rows L2
/-- a new object of one's own out of a call that may raise -/
def newX (f : Rho → R D) : Rho → List D → RM D := fun ρ M => match f (envR M ρ) with
  | .ok d => if immO d = true then .ok (.loc M.length) (M ++ [d]) else .stuck
  | .exc e => if imm.immL e.ds = true then .exc e M else .stuck
  | .stuck => .stuck
section
variable {X : Cx} {T : List (Addr × Str)} {Γ : List Bool} {W : WX} {e : Expr}
theorem pdm_newX {f : Rho → R D} (hΓ : ∀ i : Nat, Γ[i]? ≠ some true) (h : PD X T Γ W .o e f) : PDM X T W e (newX f) := fun am0 Hf0 H0 => PE.imp h fun σ H Q ⟨Hf, ρ, M, am, r, p⟩ => by
  refine ⟨over am H Hf, envR M ρ, r.rel hΓ, ?_⟩
  unfold newX at p
  cases q : f (envR M ρ) with
  | ok d =>
    rw [q] at p
    intro Hf' H' x v ⟨a, o, ev, k1, k0, k2, k3⟩
    subst ev
    have p : PostM X.K X.mg T am0 Hf0 H0 ρ am Hf W σ (fun d _ am' Hf' H' => ∀ v, RepM X.K X.mg am' Hf' d v → Q v H') (if immO d = true then .ok (.loc M.length) (M ++ [d]) else .stuck) := p
    by_cases i : immO d = true
    · rw [if_pos i] at p
      obtain ⟨r2, s2⟩ := r.step x
      have na : a ∉ am := fun z => k0 (by
        obtain ⟨_, _, o', q1, q2⟩ := r.e.c.at z
        exact Old.of q1 q2)
      have hm := r.e.muts x
      have q5 : RepMO X.K X.mg (am ++ [a]) (cut am Hf') d o := by
        cases d with
        | lst ds => obtain ⟨vs, rfl, k4, k5⟩ := k3; exact ⟨vs, rfl, k4, RepML.of (immL_cut hm i k5)⟩
        | dic ks ds => obtain ⟨kvs, rfl, k4, k5⟩ := k3; exact ⟨kvs, rfl, k4, RepML.of (immL_cut hm i k5)⟩
        | _ => cases i
      have r3 := r2.e.new (a := a) (d := d) (by rw [cut_out na]; exact k1) (fun z => k0 (r.e.x.kp a z)) na k2 q5
      have last : (am ++ [a])[M.length]? = some a := by
        rw [← r.e.c.len, List.getElem?_append_right (Nat.le_refl _), Nat.sub_self]
        rfl
      exact p (am ++ [a]) _ H' (Pre.app am a) s2 ⟨r3, r2.len, fun i d e => by
        obtain ⟨v, g1, g2⟩ := r2.slot i d e
        exact ⟨v, g1, RepM.mono (Pre.app am a) (fun b o h => ⟨h, (r2.e.sub b o h).2⟩) g2⟩⟩ (.ref a) (.inl ⟨M.length, a, rfl, last, rfl⟩)
    · rw [if_neg i] at p
      exact p.elim
  | exc e =>
    rw [q] at p
    intro cls dd Hf' H' x rx
    have p : PostM X.K X.mg T am0 Hf0 H0 ρ am Hf W σ (fun d _ am' Hf' H' => ∀ v, RepM X.K X.mg am' Hf' d v → Q v H') (if imm.immL e.ds = true then .exc e M else .stuck) := p
    by_cases i : imm.immL e.ds = true
    · rw [if_pos i] at p
      obtain ⟨r2, s2⟩ := r.step x
      exact p cls dd am _ H' (Pre.refl am) s2 r2 (rx_cut (r.e.muts x) i rx) σ
    · rw [if_neg i] at p
      exact p.elim
  | stuck => rw [q] at p; exact p.elim
end
end BV
/-! sorted(xs, key=f), the keys reading off lists that stood there before -/
namespace SK
open PySem PySem.Calls PyProof.Rows PySem.W
section
variable {P : Program} {w : World} {A : Around} {E : Value → Shared → Prop} {z : Shared} {a kS : Addr} {b : Bool} {vs : List Value} {keys : Array Value} {e e1 : Nat} {F : PySem.Fin → Shared → Prop} {kz : List PyData} {G : Array GenState → Prop}
/-- v reads as the key, off lists of g0 other than a -/
def Off (g0 : Heap) (a : Addr) (h : Heap) (v : Value) (k : PyData) : Prop := ∃ as, Reads h v k as ∧ ∀ c ∈ as, c ≠ a ∧ g0.get? c ≠ none
/-- what a call of the key tells: G is what holds of the generators -/
def KeyOff (G : Array GenState → Prop) (g0 : Heap) (a : Addr) (k : PyData) (z1 : Shared) (v : Value) (z2 : Shared) : Prop := z2.os = z1.os ∧ G z2.gens ∧ (∀ c o, z1.heap.get? c = some o → z2.heap.get? c = some o) ∧ Off g0 a z2.heap v k
theorem off_push {g0 h h' : Heap} {xs : Array Value} {n : Nat} {v : Value} {k : PyData} (hk : h.get? kS = some (seqObj "list" xs n)) (new : g0.get? kS = none) (up : ∀ c o, c ≠ kS → h.get? c = some o → h'.get? c = some o) (al : alike k k = true) (q : Off g0 a h v k) : Off g0 a h' v k := by
  obtain ⟨as, r, o⟩ := q
  exact ⟨as, Reads.keepBut (a := kS) up (fun x ex => by rw [hk] at ex; rw [← Option.some.inj ex]) k v as al r fun m => (o kS m).2 new, o⟩
theorem off_up {g0 h h' : Heap} {v : Value} {k : PyData} (up : ∀ c o, h.get? c = some o → h'.get? c = some o) (q : Off g0 a h v k) : Off g0 a h' v k := by
  obtain ⟨as, r, o⟩ := q
  exact ⟨as, PyProof.Rows.Reads.keeps up r, o⟩
theorem rest {f : Value} {g0 : Heap} (kp : KeepsBut a g0 z.heap) (new : g0.get? kS = none) (nk : z.heap.get? kS = some (seqObj "list" #[] 0)) (na : z.heap.get? a = some (seqObj "list" #[] e1)) (ne : kS ≠ a)
    (len : kz.length = vs.length) (few : vs.length ≤ sizeLine) (al : AllAlike kz) (sk : Sortable kz) (un : ∀ d, d ∈ kz → A.units + d.depth < cLine)
    (turn : ∀ (i : Nat) (v : Value) (k : PyData), vs[i]? = some v → kz[i]? = some k → ∀ z1 : Shared, z1.os = z.os → G z1.gens → KeepsBut a g0 z1.heap → wpAny (model P w) A (call f [v]) (KeyOff G g0 a k z1) (fun _ _ => False) z1)
    (hG : G z.gens) (fin : ∀ z2 out c, z2.os = z.os → G z2.gens → KeepsBut a g0 z2.heap → z2.heap.get? a = some (seqObj "list" (List.toArray out) c) → KeyedOut b kz vs out → F (.done (.ret .none)) z2) :
    wpAny (model P w) A (ksk_rest a f b vs.toArray e1 (.ref kS)) F E z := by
  unfold ksk_rest
  refine wpAny_bind (wpAny_rule ?_)
  first | rw [List.forIn_toArray] | (rw [← Array.forIn_toList]; simp only [List.toList_toArray]) | rw [← Array.forIn_toList]
  refine wpAny_bind (ksk_fold (fun i y => ∃ ka n, y.os = z.os ∧ G y.gens ∧ KeepsBut a g0 y.heap ∧ y.heap.get? kS = some (seqObj "list" ka n) ∧ y.heap.get? a = some (seqObj "list" #[] e1) ∧ EachIs (fun v k => Off g0 a y.heap v k ∧ alike k k = true) ka.toList (kz.take i)) vs 0 z ⟨#[], 0, rfl, hG, kp, nk, na, by rw [List.take_zero]; exact EachIs.nil⟩ ?go ?end_)
  case go =>
    rintro j x y hx ⟨ka, n, os1, g1, kp1, nk1, na1, hk⟩
    simp only [Nat.zero_add] at hk ⊢
    have hj : j < vs.length := (List.getElem?_eq_some_iff.mp hx).1
    obtain ⟨k, hkj⟩ : ∃ k, kz[j]? = some k := ⟨_, List.getElem?_eq_getElem (by omega)⟩
    have kk : alike k k = true := al k (List.mem_of_getElem? hkj) k (List.mem_of_getElem? hkj)
    have sz : ka.size ≤ vs.length := by
      have q := hk.length
      rw [Array.length_toList, List.length_take] at q
      omega
    refine wpAny_bind (wpAny_attempt (wpAny_mono (turn j x k hx hkj y os1 g1 kp1) (fun v y2 hv => ?_) fun _ _ q => q.elim))
    obtain ⟨os2, g2, hg, hr⟩ := hv
    try dsimp only
    have nk2 : y2.heap.get? kS = some (seqObj "list" ka n) := hg _ _ nk1
    have na2 : y2.heap.get? a = some (seqObj "list" #[] e1) := hg _ _ na1
    have sb := Heap.SameBut.update y2.heap kS (Obj.mapSeq (·.push v))
    obtain ⟨c2, hc2⟩ : ∃ c2, (y2.heap.update kS (Obj.mapSeq (·.push v))).get? kS = some (seqObj "list" (ka.push v) c2) := ⟨_, get?_update_seq nk2 (·.push v)⟩
    have ek : kz.take (j + 1) = kz.take j ++ [k] := by rw [List.take_add_one, hkj]; simp
    have ea : (ka.push v).toList = ka.toList ++ [v] := by simp
    have room : ka.size ≤ sizeLine := Nat.le_trans sz few
    refine wpAny_bind (listUpdate_at nk2 rfl ?_ room (by rw [Array.size_push]; exact Nat.succ_le_succ room))
    have ks : ∀ (u : Value) (d : PyData), Off g0 a y2.heap u d ∧ alike d d = true → Off g0 a (y2.heap.update kS (Obj.mapSeq (·.push v))) u d ∧ alike d d = true := fun u d q => ⟨off_push nk2 new (fun c o hc q2 => (sb.2 c hc).trans q2) q.2 q.1, q.2⟩
    refine wpAny_pure ⟨rfl, ka.push v, c2, os2.trans os1, g2, (kp1.trans_all hg).same sb (.inr new), hc2, (sb.2 a ne.symm).trans na2, ?_⟩
    rw [ea, ek]
    exact each_snoc (R := fun (u : Value) (d : PyData) => Off g0 a (y2.heap.update kS (Obj.mapSeq (·.push v))) u d ∧ alike d d = true) (ks v k ⟨hr, kk⟩) (hk.mono fun u d q => ks u d ⟨off_up hg q.1, q.2⟩)
  case end_ =>
    rintro y ⟨ka, n, os1, g1, kp1, nk1, na1, hk⟩
    have hk2 : EachIs (fun v k => ∃ as, Reads y.heap v k as) ka.toList kz := by
      have q : kz.take (0 + vs.length) = kz := List.take_of_length_le (by omega)
      rw [q] at hk
      exact hk.mono fun v k ⟨⟨as, r, _⟩, _⟩ => ⟨as, r⟩
    have sz : ka.size = vs.length := by
      have q := hk2.length
      rw [Array.length_toList] at q
      omega
    try dsimp only
    refine wpAny_bind (listItems_at nk1 rfl ?_)
    exact keyH_end (κ := dataKind y.heap kz) (h₁ := g0) kp1 new nk1 na1 ne (SortsAt.data (s := y) hk2 al sk un) sz few fun h3 tk3 c k3 n3 => fin { y with heap := h3, toks := tk3 } _ c os1 g1 k3 n3 ⟨y.heap, ka.toList, al, rfl, hk2⟩
theorem tree {f : Value} {n : Nat} (ho : z.heap.get? a = some (seqObj "list" vs.toArray n)) (len : kz.length = vs.length) (few : vs.length ≤ sizeLine) (al : AllAlike kz) (sk : Sortable kz) (un : ∀ d, d ∈ kz → A.units + d.depth < cLine)
    (turn : ∀ (i : Nat) (v : Value) (k : PyData), vs[i]? = some v → kz[i]? = some k → ∀ z1 : Shared, z1.os = z.os → G z1.gens → KeepsBut a z.heap z1.heap → wpAny (model P w) A (call f [v]) (KeyOff G z.heap a k z1) (fun _ _ => False) z1)
    (hG : G z.gens) (fin : ∀ z2 out c, z2.os = z.os → G z2.gens → KeepsBut a z.heap z2.heap → z2.heap.get? a = some (seqObj "list" (List.toArray out) c) → KeyedOut b kz vs out → F (.done (.ret .none)) z2) :
    wpAny (model P w) A (ksk_tree a f b) F E z := by
  have lt : a < z.heap.objs.size := Heap.lt_size ho
  obtain ⟨e1, ho1⟩ : ∃ e1, (z.heap.update a (Obj.mapSeq fun _ => (#[] : Array Value))).get? a = some (seqObj "list" #[] e1) := ⟨_, get?_update_seq ho fun _ => #[]⟩
  have ek : ((z.heap.update a (Obj.mapSeq fun _ => (#[] : Array Value))).push (seqObj "tuple" vs.toArray 0)).objs.size = z.heap.objs.size + 1 := by rw [size_push', Heap.size_update]
  unfold ksk_tree
  refine wpAny_bind (listItems_at ho rfl ?_); refine wpAny_bind (listUpdate_at ho rfl ?_ (by rw [List.size_toArray]; exact few) (Nat.zero_le _))
  refine wpAny_bind (seqEpoch_at ho1 rfl ?_); refine wpAny_bind (wpAny_newTuple ?_ (by show vs.length ≤ _; exact few))
  refine wpAny_bind (wpAny_newList ?_ (Nat.zero_le _)); refine wpAny_holding ?_
  have kp : KeepsBut a z.heap (sortingHeap z.heap a vs) := fun c o hc q => sortingHeap_old hc q
  exact rest (kz := kz) (g0 := z.heap) (z := { z with heap := ((z.heap.update a (Obj.mapSeq fun _ => (#[] : Array Value))).push (seqObj "tuple" vs.toArray 0)).push (seqObj "list" #[] 0) }) (kS := ((z.heap.update a (Obj.mapSeq fun _ => (#[] : Array Value))).push (seqObj "tuple" vs.toArray 0)).objs.size)
    kp (Heap.get?_none_of_le (by rw [ek]; exact Nat.le_succ _)) (Heap.get?_push_size _ rfl) (Heap.get?_push_of_some _ (Heap.get?_push_of_some _ ho1)) (by rw [ek]; exact Nat.ne_of_gt (Nat.lt_succ_of_lt lt)) len few al sk un turn hG fin
end
section
variable {P : Program} {w : World} {A : Around} {E : Value → Shared → Prop} {z : Shared} {vs : List Value} {kz : List PyData} {G : Array GenState → Prop}
/-- sorted(xs, key=f): the items by their keys; the keys' lists are of the heap before -/
theorem sorted_key {l : Addr} {f : Value} {kw : List (Str × Value)} {b : Bool} {Q : Value → Shared → Prop} (hl : z.heap.IsList l vs.toArray) (len : kz.length = vs.length) (al : AllAlike kz) (sk : Sortable kz) (few : vs.length ≤ sizeLine)
    (un : ∀ d, d ∈ kz → A.units + 2 + d.depth < cLine) (a1 : argsOk "sorted" ⟨[.ref l], kw⟩) (a2 : ∀ x, argsOk "list.sort" ⟨[.ref x], kw⟩) (ht : ∀ x, Builtin.«list.sort» ⟨[.ref x], kw⟩ = ksk_tree x f b)
    (turn : ∀ (i : Nat) (v : Value) (k : PyData), vs[i]? = some v → kz[i]? = some k → ∀ z1 : Shared, z1.os = z.os → G z1.gens → (∀ c o, z.heap.get? c = some o → z1.heap.get? c = some o) → wpAny (model P w) A.in1.in1 (call f [v]) (KeyOff G z.heap (z.heap.objs.size + 1) k z1) (fun _ _ => False) z1)
    (hG : G z.gens) (fin : ∀ out c z2, z2.os = z.os → G z2.gens → (∀ c o, z.heap.get? c = some o → z2.heap.get? c = some o) → z2.heap.get? (z.heap.objs.size + 1) = some (seqObj "list" (List.toArray out) c) → KeyedOut b kz vs out → Q (.ref (z.heap.objs.size + 1)) z2) :
    wpAny (model P w) A (call (.builtin "sorted") [.ref l] kw) Q E z := by
  have up : ∀ {g : Heap}, KeepsBut (z.heap.objs.size + 1) (copyHeap z.heap vs) g → ∀ c o, z.heap.get? c = some o → g.get? c = some o := fun {g} kp c o q => kp c o (Nat.ne_of_lt (Nat.lt_succ_of_lt (Heap.lt_size q))) (copyHeap_old q)
  refine sorted_of_sort hl few a1 a2 fun E' => ?_
  rw [ht]
  refine tree (kz := kz) (G := G) (z := { z with heap := copyHeap z.heap vs }) (copyHeap_at z.heap vs) len few al sk (fun d hd => un d hd) (fun i v k hv hk z1 os1 g1 kp => wpAny_mono (turn i v k hv hk z1 os1 g1 (up kp)) (fun u y q => ?_) fun _ _ q => q) hG fun z2 out c os2 g2 kp hD ko => ⟨rfl, fin out c z2 os2 g2 (up kp) hD ko⟩
  obtain ⟨q0, q1, q2, as, q3, q4⟩ := q
  exact ⟨q0, q1, q2, as, q3, fun c hc => ⟨(q4 c hc).1, fun n => by
    cases q : z.heap.get? c with
    | none => exact (q4 c hc).2 q
    | some o => rw [show (copyHeap z.heap vs).get? c = some o from copyHeap_old q] at n; cases n⟩⟩
end
end SK
namespace HH
open PySem PySem.Spec PyProof.Rows L2 HotX L2H
/-! ### where an exception is handled: the end of a list's iterator -/
section
variable {P : Program} {W : World} {B : Around} {Er : Value → Shared → Prop} {z : Shared}
def At (x : Addr) (h : Heap) : Prop := ∃ (o : Obj) (vs : Array Value), h.get? x = some o ∧ o.data = .fields vs ∧ vs[2]? = some .none
theorem At.keep {x : Addr} {h h' : Heap} (a : At x h) (k : ∀ o, h.get? x = some o → h'.get? x = some o) : At x h' := by
  obtain ⟨o, vs, e, d, c⟩ := a
  exact ⟨o, vs, k o e, d, c⟩
theorem stop_hot {x : Addr} {Q : Fin → Shared → Prop} (hh : B.handled = some (.ref x)) (a : At x z.heap)
    (q : ∀ e h', (∀ b o, z.heap.get? b = some o → h'.get? b = some o) → (∃ o, h'.get? e = some o ∧ o.cls = .type "StopIteration") → Er (.ref e) { z with heap := h' }) :
    wpAny (model P W) B Builtin.SmallTypes.stopIteration Q Er z := by
  show wpAny _ _ (newExc (.type "StopIteration") [] >>= _) _ _ _
  refine wpAny_bind ?_
  simp only [newExc, newTuple]
  refine wpAny_bind (wpAny_newObj_type ?_ (by size_fits))
  refine wpAny_bind (m := firstArgMember _ _) (wpAny_of_eq (a := Value.none) (by first | rfl | (simp only [firstArgMember]; rfl)) (wpAny_newObj_type ?_ (by size_fits)))
  obtain ⟨o, vs, e, d, c⟩ := a
  have k2 := Heap.get?_push_of_some ({ cls := .type "tuple", data := .seq #[] } : Obj) e
  refine raiseNew_hot (x1 := x) ⟨hh, o, vs, Heap.get?_push_of_some _ (Heap.get?_push_of_some _ e), d, c⟩ (Nat.ne_of_lt (Heap.lt_size (Heap.get?_push_of_some _ e))) (Heap.get?_push_size _ rfl) rfl (by first | (simp; done) | (simp; omega)) ?_
  refine q _ _ (fun b ob eb => ?_) ⟨_, Heap.get?_update_self _ (Heap.get?_push_size _ rfl) rfl, rfl⟩
  rw [Heap.get?_update_other _ _ (Nat.ne_of_gt (Heap.lt_size (Heap.get?_push_of_some _ eb)))]
  exact Heap.get?_push_of_some _ (Heap.get?_push_of_some _ eb)
theorem lend_hot {j a x : Addr} {i : Nat} {us : Array Value} {Q : Option Value → Shared → Prop} (hh : B.handled = some (.ref x)) (hx : At x z.heap) (jt : z.heap.IsListIter j a i) (la : z.heap.IsList a us) (no : us[i]? = none) (ne : x ≠ j)
    (q : ∀ h', Heap.ExtBut j z.heap h' → Q none { z with heap := h' }) : wpAny (model P W) B (pyNext (.ref j)) Q Er z := by
  obtain ⟨oj, gj, _, dj⟩ := id jt
  obtain ⟨oa, ga, _, _, da⟩ := la
  unfold pyNext
  refine wpAny_bind (wpAny_attempt (wpAny_callSpecial?_slot (name := Str.ofString "__next__") jt.typeIs slot_listiter_next (wpAny_call_entry slot_listiter_next jt.typeIs entry_listiter_next ?_ (args_listiter_next _))))
  show wpAny _ _ (field (.ref j) 0 >>= _) _ _ z
  refine wpAny_bind (wpAny_field gj dj (x := .ref a) rfl ?_)
  show wpAny _ _ (if (Value.ref a == Value.none) = true then _ else _) _ _ z
  rw [if_neg (fun q : (Value.ref a == Value.none) = true => Bool.false_ne_true q)]
  show wpAny _ _ (field (.ref j) 1 >>= _) _ _ z
  refine wpAny_bind (wpAny_field gj dj (x := .int i 0) rfl ?_)
  show wpAny _ _ (seqItems? (.ref a) >>= _) _ _ z
  refine wpAny_bind (wpAny_seqItems ga da ?_)
  simp only [Int.toNat_natCast, no]
  refine wpAny_bind (wpAny_rule (wpAny_bind (wpAny_setField gj dj (by simp) ?_)))
  have kx : At x (z.heap.update j (Obj.mapFields (·.setIfInBounds 0 .none))) := hx.keep fun o e => by
    rw [Heap.get?_update_other _ _ (Ne.symm ne)]
    exact e
  refine stop_hot (z := { z with heap := z.heap.update j (Obj.mapFields (·.setIfInBounds 0 .none)) }) (x := x) (B := B.in1) hh kx fun e h' k so => ?_
  refine wpAny_bind (wpAny_isInstance (T := "StopIteration") (b := true) so isSubtype_stop (wpAny_pure (q h' fun b o hb eb => k b o ?_)))
  rw [Heap.get?_update_other _ _ (Ne.symm hb)]
  exact eb
/-- a list walked there -/
theorem walks_hot {x : Addr} (hh : B.handled = some (.ref x)) (j a : Addr) (na : a ≠ j) (nx : x ≠ j) (us : Array Value) :
    Walks P W B j [j, a, x] [j] us.size (fun i v => us[i]? = some v) (fun i h => h.IsListIter j a i ∧ h.IsList a us ∧ At x h) where
  sub := fun b hb => by rw [List.mem_singleton.mp hb]; exact List.mem_cons_self
  frame := fun _ _ _ st k => ⟨st.1.at fun o e => k j (by simp) o e, st.2.1.at fun o e => k a (by simp) o e, st.2.2.keep fun o e => k x (by simp) o e⟩
  item := fun i z Q E hi st q => by
    refine wpAny_pyNext_list_item st.1 st.2.1 (x := us[i]) (by simp [hi]) fun h' j' sb => ?_
    refine q _ h' z.toks (by simp [hi]) ⟨j', st.2.1.extBut sb.extBut na, st.2.2.keep fun o e => sb.extBut x o nx e⟩ fun b o hb e => sb.extBut b o (fun y => hb (by simp [y])) e
  done := fun z Q E st q => lend_hot hh st.2.2 st.1 st.2.1 (by simp) nx fun h' k => q h' z.toks fun b o hb e => k b o (fun y => hb (by simp [y])) e
  self := fun _ _ _ _ st q => wpAny_pyIter_listiter st.1 q
theorem sum_hot {x a : Addr} {us : Array (Int × Tok)} {Q : Value → Shared → Prop} (hh : B.handled = some (.ref x)) (hx : At x z.heap) (la : z.heap.IsList a (intItems us))
    (q : ∀ h' tk t', (∀ b o, z.heap.get? b = some o → h'.get? b = some o) → Q (.int (preSum (numAt us) us.size) t') { z with heap := h', toks := tk }) : wpAny (model P W) B (call (.builtin "sum") [.ref a]) Q Er z := by
  refine call_sum_walkG (iter_intList la fun z2 e st fit na => ?_)
  subst e
  have xl : x < z.heap.objs.size := by
    obtain ⟨o, _, e, _⟩ := hx
    exact Heap.lt_size e
  refine ⟨_, _, _, _, _, _, numAt us, rfl, walks_hot (B := B.in1) (x := x) hh _ a na (Nat.ne_of_lt xl) (intItems us), ⟨st.1, st.2, hx.keep fun o e => Heap.get?_push_of_some _ e⟩, fun b hb => ?_, (fun _ _ => intItems_at), fun h' tk t' k => ?_⟩
  · rcases List.mem_cons.mp hb with rfl | hb
    · exact fit _ (by simp)
    · rcases List.mem_cons.mp hb with rfl | hb
      · exact fit _ (by simp)
      · rw [List.mem_singleton.mp hb]
        show x < (z.heap.push _).objs.size
        rw [Heap.size_push]
        exact Nat.lt_succ_of_lt xl
  · have := q h' tk t' fun b o e => k b o (fun y => by rw [List.mem_singleton.mp y] at e; exact absurd (Heap.lt_size e) (Nat.lt_irrefl _)) (Heap.get?_push_of_some _ e)
    simpa [intItems] using this
end
section
variable {X : Cx}
theorem HotC.h {X : Cx} {pins : List (Addr × Obj)} {σ : L2.St} {H : Hp} {s : Shared} (c : HotC X) (I : Inv X pins σ H s) : ∃ x, X.A.handled = some (.ref x) ∧ At x s.heap := by
  obtain ⟨x, h1, o, vs, e, d, q⟩ := c.at I
  exact ⟨x, h1, o, vs, e, d, q⟩
/-- sum(xs) there -/
theorem cr_sumH (hc : HotC X) : CallR X (.builtin "sum") (rSum X.K) := by
  rintro pins s σ H vs us Q I r ⟨a, ns, rfl, hs, q⟩
  obtain ⟨its, rv, hl, _⟩ := I.list hs
  obtain ⟨x, hh, hx⟩ := HotC.h hc I
  rw [Vals.ref1 r]
  obtain ⟨xs, e⟩ := rv.ints.allInts.items
  have hn : numsOf (intItems xs).toList = ns := by rw [← e]; exact rv.ints.numsOf
  rw [nums_intItems] at hn
  have hl2 := hl.isList
  rw [e] at hl2
  refine sum_hot hh hx hl2 fun h' tk t' hk => ⟨.int _, H, I.kept hk, ⟨_, rfl⟩, ?_⟩
  rw [preSum_eq, List.take_of_length_le (by simp), hn]
  exact q
end
end HH
namespace HH
open PySem PySem.Spec PyProof.Rows L2 HotX L2H
section
variable {X : Cx}
/-- [e for x in xs], xs a list, where an exception is handled -/
theorem pe_lcH {elt tg iter : Expr} {scope : Scope} {own : List (Str × Nat)} {pos : Pos} {tl : TE} {g : TG} {te : TE} (hot : HotC X) (hN : X.N.Nodup) (hi : PE X iter tl) (ok : BlkOk X.N X.env.scope scope own)
    (hg : ∀ (s : Shared) (H : Hp) (C : Addr) (cl : List (Str × Addr)) (fp : List Addr), PG (X.blk s H scope (compEnvC scope cl C X.env) fp) tg g)
    (ht : ∀ (s : Shared) (H : Hp) (C : Addr) (cl : List (Str × Addr)) (fp : List Addr), PTs (X.blk s H scope (compEnvC scope cl C X.env) fp) [] (fun σ H Q => Q true H))
    (he : ∀ (s : Shared) (H : Hp) (C : Addr) (cl : List (Str × Addr)) (fp : List Addr), PE (X.blk s H scope (compEnvC scope cl C X.env) fp) elt te) (hs : ∀ x, foldedSetIterable iter X.env x = pure x := by intro _; rfl) :
    PE X (.ListComp elt [⟨tg, iter, [], 0⟩] scope pos) (tLc (iList X.K tl) g (fun σ H Q => Q true H) te (own.map (·.2))) := by
  refine ⟨fun pins s σ H Q I h => ?_⟩
  rw [eval_ListComp]
  have hfree : ∀ y ∈ scope.names, y.2 = .free → ∃ c, X.env.cells.lookup y.1 = some c := fun y hy e => (ok.free y hy e).elim (fun k => I.ok.has _ (.inl k)) fun k => I.ok.has _ (.inr k)
  refine wpAny_comprehension_free (use := none) rfl hs (closure_ok hfree) ok.kind (fun y hy e => by rw [ok.uniq y hy, e]) (thn (hi.run pins s σ H _ I h) fun xv s1 ⟨xx, H2, I1, rx, a, ex, ⟨xs, hq⟩, q⟩ => ?_)
  subst ex
  obtain rfl : xv = Value.ref a := rx
  obtain ⟨its, rv, pl, hz⟩ := I1.list hq
  refine wpAny_pyIter_list pl.isList ?_
  -- the iterator stands at j
  generalize hj : s1.heap.objs.size = j
  generalize hs2 : ({ s1 with heap := s1.heap.push { cls := .type "list_iterator", data := .fields #[.ref a, .int 0 0] } } : Shared) = s2
  have I2 : Inv X pins σ H2 s2 := by
    rw [← hs2]
    exact I1.kept (t' := s1.toks) fun b o e => Heap.get?_push_of_some _ e
  have st2 : s2.heap.IsListIter j a 0 := by
    rw [← hs2, ← hj]
    exact ⟨_, Heap.get?_push_size _ rfl, rfl, rfl⟩
  have fj : FpOk X pins H2 j := by
    rw [← hj]
    exact I1.fpOk (Nat.le_refl _) (I1.hok.fresh (Nat.le_refl _))
  refine wpAny_newObj_type (newEnv_comp ?_) (by show 0 ≤ sizeLine; decide)
  generalize hD : s2.heap.objs.size = D
  have hDn : H2 D = none := I2.hok.fresh (Nat.le_of_eq hD)
  obtain ⟨W, ⟨m0, w0⟩, turn⟩ := q D hDn
  generalize hs3 : ({ s2 with heap := s2.heap.push { cls := .type "list", data := .seq ([] : List Value).toArray } } : Shared) = s3
  have h3 : s3.heap = s2.heap.push { cls := .type "list", data := .seq ([] : List Value).toArray } := by rw [← hs3]
  have I3 : Inv X pins σ (upd H2 D (.lst [])) s3 := by
    rw [← hs3]
    refine I2.laid (t' := s2.toks) (fun b o e => Heap.get?_push_of_some _ e) (Nat.le_of_eq hD) ⟨Nat.zero_le _, [], 0, .nil, ?_⟩
    rw [← hD]
    exact Heap.get?_push_size _ rfl
  have ltj : j < s2.heap.objs.size := by
    obtain ⟨o, e, _⟩ := st2
    exact Heap.lt_size e
  have f3 : ∀ b ∈ [j], FpOk X pins (upd H2 D (.lst [])) b ∧ b < s3.heap.objs.size := fun b hb => by
    rw [List.mem_singleton.mp hb]
    refine ⟨⟨?_, fj.2⟩, by rw [h3, Heap.size_push]; exact Nat.lt_succ_of_lt ltj⟩
    rw [upd_ne (by rw [← hD]; exact Nat.ne_of_lt ltj)]
    exact fj.1
  have st3 : s3.heap.IsListIter j a 0 := st2.at fun o e => by rw [h3]; exact Heap.get?_push_of_some _ e
  have I4 := block_start I3 ok hN f3
  have pg := hg s3 (upd H2 D (.lst [])) s3.heap.objs.size (cellsFrom (s3.heap.objs.size + 1) scope.names (cloFrom X.env.cells scope.names [])) [j]
  have pt := ht s3 (upd H2 D (.lst [])) s3.heap.objs.size (cellsFrom (s3.heap.objs.size + 1) scope.names (cloFrom X.env.cells scope.names [])) [j]
  have pe := he s3 (upd H2 D (.lst [])) s3.heap.objs.size (cellsFrom (s3.heap.objs.size + 1) scope.names (cloFrom X.env.cells scope.names [])) [j]
  show codeAny _ _ (.compStart (.ListComp elt [⟨tg, iter, [], 0⟩] scope pos) 0 (.ref j) (.ref D) (compEnvC scope (cellsFrom (s3.heap.objs.size + 1) scope.names (cloFrom X.env.cells scope.names [])) s3.heap.objs.size X.env)) (compPost (model X.prog X.w) X.A X.xe none (EP X pins σ Q) (.ref D) s3.heap.objs.size) { s3 with heap := pushCells (s3.heap.push { cls := .type "dict", data := .dict #[] }) scope.names }
  generalize hce : compEnvC scope (cellsFrom (s3.heap.objs.size + 1) scope.names (cloFrom X.env.cells scope.names [])) s3.heap.objs.size X.env = ce at I4 pg pt pe ⊢
  have cL : ce.locals = s3.heap.objs.size := by subst hce; rfl
  generalize hH3 : upd H2 D (.lst []) = H3 at I3 I4 pg pt pe w0 f3
  generalize hs4 : ({ s3 with heap := pushCells (s3.heap.push { cls := .type "dict", data := .dict #[] }) scope.names } : Shared) = s4 at I4 ⊢
  have st4 : s4.heap.IsListIter j a 0 := st3.at fun o e => by rw [← hs4]; exact pushCells_keeps _ _ _ _ (Heap.get?_push_of_some _ e)
  -- the exception that is handled stands through the block
  obtain ⟨p, ⟨hh, pvs, pd, pc⟩, hp⟩ := hot
  have P3 := I3.pin p (List.mem_append_left _ hp)
  have pj : p.1 ≠ j := (f3 j (by simp)).1.2.2.2.2.2 p (List.mem_append_left _ hp)
  have hat : ∀ {σ' : L2.St} {H' : Hp} {s' : Shared}, Inv (X.blk s3 H3 scope ce [j]) [] σ' H' s' → At p.1 s'.heap := fun {σ' H' s'} J =>
    ⟨p.2, pvs, J.base.keep p.1 p.2 P3.1 P3.2.1 (fun hm => (List.mem_cons.mp (I3.stkSub p.1 hm)).elim P3.2.2.1 P3.2.2.2.1) (fun hm => pj (List.mem_singleton.mp hm)), pd, pc⟩
  have stat : ∀ {σ' : L2.St} {H' : Hp} {s' : Shared}, Inv (X.blk s3 H3 scope ce [j]) [] σ' H' s' → H' j = none → FpOk (X.blk s3 H3 scope ce [j]) [] H' j := fun {σ' H' s'} J n =>
    ⟨n, (J.ok.exf j (by simp)).1, J.ok.exfs j (by simp), .inl (by simp), fun x c e => (J.ok.exf j (by simp)).2 x c e, fun y hy => (nomatch hy)⟩
  have post : ∀ D' C s' m H', Inv X pins σ H' s' → Q (.ref D') H' → s'.heap.Ns C m → FpOk X pins H' C → compPost (model X.prog X.w) X.A X.xe none (EP X pins σ Q) (.ref D') C (.ok .next) s' := fun D' C s' m H' I' q hn ⟨f0, f1, f2, f3, f4, f5⟩ =>
    ⟨m, hn, fun h'' sb => ⟨.ref D', H', I'.turned (t' := s'.toks) (fun b o hb e => (sb.2 b hb).trans e) f0 f1 f3 f4 f5, rfl, q⟩⟩
  have loop : codeAny (model X.prog X.w) X.A (.compLoop (.ListComp elt [⟨tg, iter, [], 0⟩] scope pos) 0 (.ref j) (.ref D) ce) (compPost (model X.prog X.w) X.A X.xe none (EP X pins σ Q) (.ref D) s3.heap.objs.size) s4 := by
    refine compLoop_any (fun n s' => ∃ i H', Inv (X.blk s3 H3 scope ce [j]) [] (wipe σ (own.map (·.2))) H' s' ∧ s'.heap.IsListIter j a i ∧ H' j = none ∧ W i n H') ?_ m0 ⟨0, H3, I4, st4, (f3 j (by simp)).1.1, w0⟩
    rintro n s5 ⟨i, H5, I5, st5, n5, w5⟩
    rcases turn i n H5 w5 with ⟨⟨ys, hys, hyi⟩, qq⟩ | ⟨⟨ys, y, hys, hy⟩, Nx, hNx, step⟩
    · obtain ⟨its5, rv5, p5, _⟩ := I5.list hys
      have hl5 := rv5.length
      obtain ⟨f0, f1, f2', f3', f4, f5⟩ := stat I5 n5
      refine lend_hot (x := p.1) hh (hat I5) st5 p5.isList (by simp; omega) pj fun h' eb => ?_
      have I6 : Inv (X.blk s3 H3 scope ce [j]) [] (wipe σ (own.map (·.2))) H5 { s5 with heap := h' } := I5.turned (t' := s5.toks) (fun b o hb e => eb b o hb e) f0 f1 f3' f4 f5
      have I7 : Inv X pins σ H5 { s5 with heap := h' } := I3.call' (ch := [j]) I6.os I6.base I6.hok I6.bare fun b hb => ⟨(f3 b hb).1.2.2.2.1, (f3 b hb).1.2.1, (f3 b hb).1.2.2.2.2.1, (f3 b hb).1.2.2.2.2.2⟩
      have nC : H5 s3.heap.objs.size = none := by
        rw [← cL]
        exact I6.free
      obtain ⟨m, hn, _⟩ := I6.loc
      rw [show (X.blk s3 H3 scope ce [j]).env.locals = s3.heap.objs.size from cL] at hn
      exact post D s3.heap.objs.size _ m H5 I7 qq hn (I3.fpOk (Nat.le_refl _) nC)
    · obtain ⟨its5, rv5, p5, _⟩ := I5.list hys
      obtain ⟨u, hu, ru⟩ := rv5.get hy
      obtain ⟨f0, f1, f2', f3', f4, f5⟩ := stat I5 n5
      refine wpAny_pyNext_list_item st5 p5.isList (x := u) (by simpa using hu) fun h' st' sb => ?_
      have I6 : Inv (X.blk s3 H3 scope ce [j]) [] (wipe σ (own.map (·.2))) H5 { s5 with heap := h' } := I5.turned (t' := s5.toks) (fun b o hb e => (sb.2 b hb).trans e) f0 f1 f3' f4 f5
      obtain ⟨oj, ej, cj, dj⟩ := id st'
      have dn : ∀ v, oj.data ≠ .cell v := fun v e => by rw [dj] at e; cases e
      have I6' := I6.pinned (fp := [j]) (fun b hb => by rw [List.mem_singleton.mp hb]; exact stat I6 n5) (fun b hb => by rw [List.mem_singleton.mp hb]; exact ⟨oj, ej, dn⟩)
      refine go_of (s := { s5 with heap := h' }) ej cj dj (by decide) ?_
      refine thnF (pg.run _ _ _ H5 y u _ I6' ru (step y H5 ⟨rfl, fun zs hz => by rw [I5.list_inj hz hys]; exact hy⟩)) fun _ s8 ⟨σ8, H8, I8, hw8, q8⟩ => ?_
      refine thnF (pt.run _ s8 σ8 H8 (fun b H3 => if b = true then te σ8 H3 fun y H4 => ∃ acc, H4 D = some (.lst acc) ∧ acc.length < sizeLine ∧ Nx (upd H4 D (.lst (acc ++ [y]))) else Nx H3) I8 q8) fun b s9 ⟨H9, I9, q9⟩ => ?_
      have fin : ∀ {s' : Shared} {H' : Hp}, Inv (X.blk s3 H3 scope ce [j]) ([] ++ pinsAt [j] h') σ8 H' s' → Nx H' → ∃ m, m < n ∧ ∃ i H', Inv (X.blk s3 H3 scope ce [j]) [] (wipe σ (own.map (·.2))) H' s' ∧ s'.heap.IsListIter j a i ∧ H' j = none ∧ W i m H' := fun {s' H'} J nx => by
        obtain ⟨m', hm, w'⟩ := hNx H' nx
        have hpj := J.pin (j, oj) (List.mem_append_right _ (List.mem_append_right _ (mem_pinsAt (by simp) ej)))
        have hl : (wipe σ (own.map (·.2))).length = σ8.length := by rw [← hw8, wipe_length]
        refine ⟨m', hm, i + 1, H', (J.unpinned (pins := [])).weak hl (fun k v e => ?_), ⟨oj, hpj.1, cj, dj⟩, hpj.2.1, w'⟩
        rw [← hw8] at e
        exact (wipe_some e).1
      cases b with
      | false => exact fin I9 q9
      | true =>
        refine thnF (pe.run _ s9 σ8 H9 _ I9 q9) fun y' s10 ⟨yv, H10, I10, r10, acc, hD10, hz10, nx⟩ => ?_
        exact L2.app_ok (X := X.blk s3 H3 scope ce [j]) I10 hD10 hz10 r10 fun s11 I11 => fin I11 nx
  exact codeAny_compStart_list loop (wpAny_pyIter_listiter st4 loop)
end
end HH
namespace LN
open PySem PySem.Spec PyProof.Rows L2 LamX
theorem inv_xe {Y : Cx} {pins : List (Addr × Obj)} {σ : L2.St} {H : Hp} {s : Shared} (I : Inv Y pins σ H s) (z : Value → Shared → Prop) : Inv { Y with xe := z } pins σ H s :=
  ⟨⟨I.ok.mod, I.ok.kind, I.ok.glob, I.ok.blt, I.ok.above, I.ok.inj, I.ok.has, I.ok.cab, I.ok.hd, I.ok.frames, I.ok.stk, I.ok.exf, I.ok.bs, I.ok.bsz, I.ok.noex, I.ok.exfs, I.ok.funs, I.ok.frf⟩,
    I.os, I.bare, I.base, I.loc, I.cell, I.free, I.freeC, I.pin, I.hok, I.len⟩
/-- the context of a lambda's body: what leaves it bears no context -/
def lamN (X : Cx) (A : Around) (outer : List Env) (s : Shared) (H : Hp) (E : XK) (scope : Scope) (f c' : Addr) : Cx :=
  { lamCx X A outer s H E scope f c' with
    xe := fun e s' => wpAny (model X.prog X.w) (A.deeper (lamEnv X scope s.heap.objs.size f c')) (leaving (lamEnv X scope s.heap.objs.size f c') e) (fun _ s2 => L2N.CX X.prog X.w outer H s E e s2) (fun e' s2 => L2N.CX X.prog X.w outer H s E e' s2) s' }
theorem takes_lam {X : Cx} {A : Around} {outer : List Env} {s : Shared} {H : Hp} {E : XK} {scope : Scope} {f c' : Addr} : L2N.Takes (lamN X A outer s H E scope f c') (fun cls d _ H => E cls d H) :=
  L2N.takes_of rfl rfl rfl rfl
section
variable {X : Cx} {pins : List (Addr × Obj)} {σ : L2.St} {H : Hp} {s : Shared}
/-- a(), the lambda called, where the def that got it stands in a try -/
theorem act {CXg : CXT} {Eg : XK} {Ng : List Str} {qg : Str} {sg : Scope} {g f c' : Addr} {cdg pm ctv : Value} {params : Arguments} {body : Expr} {scope : Scope} {k i : Nat} {a : Str} {pn : List (Addr × Obj)} {xe : Value → Shared → Prop} {W : WX} {E : XK} {tb : TE} {p1 p2 : Pos}
    (I : Inv X pins σ H s) (L : LamS X.env.scope scope) (gf : s.heap.get? f = some (PySem.W.kla_obj "<lambda>" (X.env.qual ++ "<lambda>") params body scope (cloFrom X.env.cells scope.names []) pm c' ctv)) (nf : H f = none) (ff : f ∉ frs X.stack)
    (hb : bindArgs (PySem.W.kla_fn "<lambda>" (X.env.qual ++ "<lambda>") params body scope (cloFrom X.env.cells scope.names []) pm (.ref c') ctv) ⟨[], []⟩ = pure [])
    (tk : L2N.Takes ((cxOf CXg X.prog X.w X.K X.mg X.base Ng qg sg g cdg X.A X.stack s H Eg).tr pn xe) W) (hW : ∀ cls d σ' H', σ'.length = Ng.length → E cls d H' → W cls d σ' H') (hr : Room (k + 1) (X.A.deeper (envOfC qg sg s.heap.objs.size g cdg)))
    (hbody : ∀ (A : Around) (outer : List Env) (s : Shared) (H : Hp), Room k (A.deeper (lamEnv X scope s.heap.objs.size f c')) → PE (lamN X A outer s H E scope f c') body tb)
    (hN : Ng[i]? = some a) (hv : Vis sg a) (hd : (a == ("__debug__" : Str)) = false := by decide) (hcd : (a == ("__classdict__" : Str)) = false := by decide) :
    PE ((cxOf CXg X.prog X.w X.K X.mg X.base Ng qg sg g cdg X.A X.stack s H Eg).tr pn xe) (.Call (.Name a p1) [] [] p2)
      (fun σ1 H1 Q => σ1[i]? = some (some (.ref f)) ∧ H1 c' = some (CodeO c' (X.env.qual ++ "<lambda>")) ∧ tb σ H1 Q) := by
  refine ⟨fun pins1 s1 σ1 H1 Q I1 ⟨e1, e2, e3⟩ => ?_⟩
  refine wpAny_Call_Name_kw (thn ((pe_var (pos := p1) (i := i) hN hv hd hcd).run pins1 s1 σ1 H1 (fun v H2 => v = .ref f ∧ H2 = H1) I1 ⟨.ref f, e1, rfl, rfl⟩) fun u s2 ⟨v, H2, I2, r2, q2⟩ => ?_)
  obtain ⟨rfl, rfl⟩ := q2
  obtain rfl : u = Value.ref f := r2
  have gf2 := I2.base.keep f _ gf nf ff (fun z => nomatch (show f ∈ ([] : List Addr) from z))
  refine PySem.W.callWith_F0 ⟨_, _, _, _, gf2⟩ ?_
  have un : Un (frs X.stack) [] H H2 s.heap s2.heap := I2.base
  obtain ⟨⟨oc, vs, t, k1, k2, k3⟩, _, _⟩ := I2.hok c' _ e2
  have rc : codeAny (model X.prog X.w) (X.A.deeper (envOfC qg sg s.heap.objs.size g cdg)) (.call (.ref f) ⟨[], []⟩) (CR (L2N.CX X.prog X.w) (envOfC qg sg s.heap.objs.size g cdg :: X.stack) X.prog X.w H2 s2 Q E) s2 := by
    refine PySem.W.kla_callFunE hr.depth gf2 rfl L.co L.gen rfl ⟨c', oc, vs, t, rfl, k1, k2, k3⟩ ?_
    rw [hb]
    refine wpAny_pure (wpAny_newFunctionEnv (fun y hy => (L.own y hy).2) (fun y hy => absurd hy (by simp)) (fun h₁ ns sb => ⟨I2.nolimit.fresh _ sb, ?_⟩) L.kind)
    show codeAny _ _ (.expr body (lamEnv X scope s2.heap.objs.size f c')) _ _
    have J := lam_start2 (f := f) (c' := c') (E := E) (tk := s2.toks + ([] : List (Str × Value)).length) I L I2.env0 hr.hd un ns fun b o e => sb.extBut b o (Nat.ne_of_lt (Heap.lt_size e)) (Heap.get?_push_of_some _ e)
    refine PySem.W.kla_codeExpr (wpAny_mono ((hbody (X.A.deeper (envOfC qg sg s.heap.objs.size g cdg)) (envOfC qg sg s.heap.objs.size g cdg :: X.stack) s2 H2 (hr.deeper _)).run [] _ _ H2 Q (inv_xe J _) e3) (fun v s4 ⟨w4, H4, J4, rv, q⟩ => ?_) fun e s4 hq => hq)
    exact ⟨w4, H4, J4.os, J4.bare, J4.base, J4.hok, rv, q⟩
  refine wpAny_call (codeAny_mono rc fun r s3 hq => ?_)
  cases r with
  | error e => exact tk e s3 (L2N.XE.of_call I2 (fun cls d H' h => hW cls d σ1 H' I2.len h) hq)
  | ok fl =>
    cases fl with
    | ret u => exact I2.after hq
    | next => exact False.elim hq
    | brk => exact False.elim hq
    | cont => exact False.elim hq
/-- the def that tells: what it makes of the lambda's reading -/
def Tells (X : Cx) (Ng : List Str) (x : Str) (sg : Scope) (g : Addr) (cdg : Value) (bg : List Stmt) (a : Str) (q : Str) (k : Nat) (TT : (XK → Hp → VK → Prop) → Hp → VK → Prop) : Prop :=
  ∀ (f c' : Addr) (s : Shared) (H : Hp) (Q : VK) (tl : XK → Hp → VK → Prop), Room k (X.A.deeper (envOfC x sg s.heap.objs.size g cdg)) →
    (∀ (W : WX) (pn : List (Addr × Obj)) (xe : Value → Shared → Prop) (E : XK) (p1 p2 : Pos), L2N.Takes ((cxOf C8.CX0 X.prog X.w X.K X.mg X.base Ng x sg g cdg X.A X.stack s H C8.E0).tr pn xe) W → (∀ cls d σ' H', σ'.length = Ng.length → E cls d H' → W cls d σ' H') →
      PE ((cxOf C8.CX0 X.prog X.w X.K X.mg X.base Ng x sg g cdg X.A X.stack s H C8.E0).tr pn xe) (.Call (.Name a p1) [] [] p2) (fun σZ HZ Q => σZ[0]? = some (some (.ref f)) ∧ HZ c' = some (CodeO c' q) ∧ tl E HZ Q)) →
    H c' = some (CodeO c' q) → TT tl H Q →
    ∃ t, PSs (cxOf C8.CX0 X.prog X.w X.K X.mg X.base Ng x sg g cdg X.A X.stack s H C8.E0).nox bg t ∧ t { nx := fun _ H' => Q .non H', rt := Q } (L2.start Ng [.ref f]) H
theorem lamcall {T : List (Addr × Str)} {TT : (XK → Hp → VK → Prop) → Hp → VK → Prop} {x a : Str} {g c P : Addr} {k : Nat} {pg : Arguments} {bg : List Stmt} {sg : Scope} {dV kV doc pm cdv ct oc : Value} {an od : Option Addr} {osl : Array (Option Value)} {Ng : List Str}
    {params : Arguments} {body : Expr} {scope : Scope} {t : XK → TE} {p lpos pos : Pos} (hg : Gl X x) (hm : X.mg x = some (.ref g)) (hk : PySem.W.keepIn X.K (.ref g) = true)
    (lk : X.K.lookup g = some ⟨oc, od, .func (PySem.W.fnOf x x pg bg sg dV kV doc pm an cdv ct), osl⟩) (hcg : PySem.W.codeIn X.K cdv x = true) (hb : L2.Binds X.K (PySem.W.fnOf x x pg bg sg dV kV doc pm an cdv ct) [a] []) (Sg : FnScope Ng [a] sg) (hNg : Ng[0]? = some a) (hva : Vis sg a)
    (hG : ∀ cdv, Tells X Ng x sg g cdv bg a (X.env.qual ++ "<lambda>") (k + 1) TT)
    (TB : TabB X.base X.mg c P) (hcode : X.env.code = .ref c) (hmT : (P, X.env.qual ++ "<lambda>") ∈ T) (hu : ∀ p ∈ T, p.1 = P → p.2 = X.env.qual ++ "<lambda>") (hr : Room (k + 2) X.A) (L : LamS X.env.scope scope) (hdef : defaultsOf params X.env = ([], []))
    (hbind : ∀ (q : Str) (cl : List (Str × Addr)) (pm cv ctv : Value), bindArgs (PySem.W.kla_fn "<lambda>" q params body scope cl pm cv ctv) ⟨[], []⟩ = pure [])
    (hbody : ∀ (A : Around) (outer : List Env) (s : Shared) (H : Hp) (E : XK) (f c' : Addr), Room k (A.deeper (lamEnv X scope s.heap.objs.size f c')) → PE (lamN X A outer s H E scope f c') body (t E))
    (hdb : (x == ("__debug__" : Str)) = false := by decide) (hd : (a == ("__debug__" : Str)) = false := by decide) (hcd : (a == ("__classdict__" : Str)) = false := by decide) :
    PE X (.Call (.Name x p) [.Lambda params body scope lpos] [] pos) (tLam T TT t) := by
  refine ⟨fun pins s σ H Q I ⟨hT, h⟩ => wpAny_Call_Name_kw (ld_glob I hg hm (PySem.W.callWith_K (h₀ := X.base) I.ok.mod.kin hk ?_ (by rfl) (by rfl)) hdb)⟩
  show wpAny _ _ (spliced ((false, eval (.Lambda params body scope lpos) X.env) :: backTo pos (starEach [] X.env))) _ _ s
  refine Calls.spliced_cons (lam_make2 I TB hcode hmT hu hT hdef (L.has I.ok) fun f c' pm' ctv H1 s1 I1 eN T1 gf nf ff hco => Calls.spliced_nil ⟨I1.kIn, ?_⟩)
  refine wpAny_call (codeAny_mono (run_ofS (CX := C8.CX0) (E := C8.E0) (Q := Q) (N := Ng) (ps := [a]) (us := [.ref f]) (vs := [.ref f]) lk hcg Sg hr I1.env0 (hb s1 [.ref f] I1.kIn rfl) (.cons rfl .nil) rfl fun hr1 => ?_) fun r s2 hq => ?_)
  · obtain ⟨t1, ht1, hq1⟩ := hG cdv f c' s1 H1 Q (fun E H' Q' => t E σ H' Q') hr1 (fun W pn xe E p1 p2 tk hW => act (i := 0) I1 L gf nf ff (hbind _ _ _ _ _) tk hW hr1 (fun A outer s H hr2 => hbody A outer s H E f c' hr2) hNg hva hd hcd) hco (h H1 eN T1)
    exact ⟨t1, ht1.nox, hq1⟩
  · cases r with
    | error e => exact (show False from hq).elim
    | ok fl =>
      cases fl with
      | ret u => exact I1.after hq
      | next => exact False.elim hq
      | brk => exact False.elim hq
      | cont => exact False.elim hq
end
end LN
namespace WD
open PySem PySem.Spec PyProof.Rows L2 L2H LamX LN HH
/-- H' has all that H has -/
def More (H H' : Hp) : Prop := ∀ b u, H b = some u → H' b = some u
theorem More.refl (H : Hp) : More H H := fun _ _ h => h
theorem More.trans {A B C : Hp} (x : More A B) (y : More B C) : More A C := fun b u h => y b u (x b u h)
theorem More.new {H : Hp} {p : Addr} (h : H p = none) (o : HO) : More H (upd H p o) := fun b u e => by rw [upd_ne (ne_of_none e h)]; exact e
/-- isinstance(e, C), e the exception that a pin holds -/
theorem call_isEH {X : Cx} {a D : Addr} {oe : Obj} (C : ExcC X.K D) (hp : (a, oe) ∈ X.pn) (hz : Zc (.ref D) none oe) (hf : ∃ vs, oe.data = .fields vs) : CallR X (.builtin "isinstance") (rIsE X.K D a) := by
  rintro pins s σ H xs us Q I r ⟨c, cv, b, rfl, hcv, e, q⟩
  match us, r with
  | [_, _], .cons rx (.cons rt .nil) =>
    cases rx
    cases hcv _ rt
    obtain ⟨vs, hv⟩ := hf
    have J : PySem.W.InstAt s.heap a oe D none := by
      obtain ⟨oc, od, oda, osl⟩ := oe
      obtain ⟨h1, h2⟩ := hz
      dsimp only at h1 h2 hv
      subst h1 h2 hv
      exact ⟨(I.pin _ (List.mem_append_left _ hp)).1, rfl, rfl, trivial⟩
    exact PySem.W.kia_one (PySem.W.handS_kitx_exc C.hg C.hk C.hs C.hd C.ha C.hn C.ht C.hm) I.kIn J e (fun z => nomatch z) fun tk => ⟨.bl b, H, I.kept (t' := tk) fun _ _ z => z, rfl, q⟩
/-- a def entered where an exception is handled, that exception its argument -/
theorem run_hot {P : Program} {w : World} {K : PySem.W.Frag} {mg : Str → Option Value} {base : Heap} {k : Nat} {f : Addr} {name qual : Str} {params : Arguments} {body : List Stmt} {scope : Scope} {dV kV doc pm cdv ct oc : Value} {an od : Option Addr} {osl : Array (Option Value)} {N : List Str} {x : Str}
    (lk : K.lookup f = some ⟨oc, od, .func (PySem.W.fnOf name qual params body scope dV kV doc pm an cdv ct), osl⟩) (hcd : PySem.W.codeIn K cdv qual = true) (S : FnScope N [x] scope)
    {A : Around} {outer : List Env} {s : Shared} {H : Hp} {Q : VK} {p : Addr × Obj} (hr : RoomH (k + 1) A) (hpin : PinOk outer H s p) (e0 : Env0 P w K mg base A outer s H)
    (hb : BindsTo s (PySem.W.fnOf name qual params body scope dV kV doc pm an cdv ct) ⟨[.ref p.1], []⟩ [(x, .ref p.1)])
    (hbody : RoomH k (A.deeper (envOfC qual scope s.heap.objs.size f cdv)) → ∃ t, PSs (cxH C8.CX0 P w K mg base N qual scope f cdv A outer s H C8.E0 p) body t ∧ t { nx := fun _ H' => Q .non H', rt := Q } (L2.start N [.ref p.1]) H) :
    codeAny (model P w) A (.call (.ref f) ⟨[.ref p.1], []⟩) (CR C8.CX0 outer P w H s Q C8.E0) s := by
  have sp : Sp := fun vs H1 Q1 _ => vs = [V.ref p.1] ∧ H1 = H ∧ Q1 = Q
  have KX : K.In s.heap := e0.mod.kin.keeps fun b o e => (e0.bs b o e).1
  have lim : s.heap.NoLimit := e0.mod.nolimit.keeps fun b o e => (e0.bs b o e).1
  have kinds : ∀ y ∈ [(x, Value.ref p.1)], scope.names.lookup y.1 = some .local ∨ (scope.names.lookup y.1 = some .cell ∧ ((cellsFrom (s.heap.objs.size + 1) scope.names []).lookup y.1).isSome = true) := fun y hy => by
    rw [List.mem_singleton.mp hy]
    exact (S.par x (by simp)).elim .inl fun q => .inr ⟨q, PySem.W.cellsFrom_some _ _ _ (.inl q)⟩
  refine codeAny_call_function hr.depth (KX _ _ lk) rfl S.co S.gen rfl (PySem.W.codeRec_of KX hcd) (hb _ _ _ _ (wpAny_newFunctionEnv_cells S.kind kinds fun env he s1 y => ?_))
  subst he
  refine ⟨lim.keeps y.toInCall.keep, codeAny_func ?_⟩
  obtain ⟨t, ht, hq⟩ := hbody (hr.deeper _)
  have I := inv_startH (CX := C8.CX0) (E := C8.E0) (P := P) (w := w) (K := K) (mg := mg) (base := base) (qual := qual) (scope := scope) (f := f) (cd := cdv) (us := [.ref p.1]) (vs := [.ref p.1]) S hpin e0 rfl (.cons rfl .nil) y
  refine wpAny_mono (ht.run [] s1 (L2.start N [.ref p.1]) H _ I hq) (fun fl s2 hs => ?_) fun e s2 hs => hs
  cases fl with
  | ret u =>
    obtain ⟨v, σ2, H2, J, rv, q⟩ := hs
    exact ⟨v, H2, J.os, J.bare, J.base, J.hok, rv, q⟩
  | next =>
    obtain ⟨σ2, H2, J, q⟩ := hs
    exact ⟨.non, H2, J.os, J.bare, J.base, J.hok, rfl, q⟩
  | brk =>
    obtain ⟨_, _, _, q⟩ := hs
    exact False.elim q
  | cont =>
    obtain ⟨_, _, _, q⟩ := hs
    exact False.elim q
/-- what the def that words makes of an exception: cls, d its class and dict; a stands for it -/
def Words (P : Program) (w : World) (K : PySem.W.Frag) (mg : Str → Option Value) (base : Heap) (k : Nat) (x : Str) (N : List Str) (scope : Scope) (f : Addr) (body : List Stmt) (WQ : Value → Option Addr → Hp → VK → Prop) : Prop :=
  ∀ (cdv : Value) (A : Around) (outer : List Env) (s : Shared) (H : Hp) (Q : VK) (a : Addr) (oe : Obj) (cls : Value) (d : Option Addr), Hot1 A (a, oe) → RoomH k (A.deeper (envOfC x scope s.heap.objs.size f cdv)) → Zc cls d oe → (∃ vs, oe.data = .fields vs) → H a = none → WQ cls d H Q →
    ∃ t, PSs (cxH C8.CX0 P w K mg base N x scope f cdv A outer s H C8.E0 (a, oe)) body t ∧ t { nx := fun _ H' => Q .non H', rt := Q } (L2.start N [.ref a]) H
/-- word(e) behind 'except X as e' -/
theorem pe_word {Y : Cx} {a : Addr} {oe : Obj} {cls : Value} {d : Option Addr} {pn : List (Addr × Obj)} {WQ : Value → Option Addr → Hp → VK → Prop} {f : Addr} {x ex y : Str} {k i : Nat} {params : Arguments} {body : List Stmt} {scope : Scope} {dV kV doc pm cdv ct oc : Value} {an od : Option Addr} {osl : Array (Option Value)} {N : List Str}
    {p1 p2 p3 : Pos} (hz : L2N.Zn cls d oe) (hf : ∃ vs, oe.data = .fields vs) (lk : Y.K.lookup f = some ⟨oc, od, .func (PySem.W.fnOf x x params body scope dV kV doc pm an cdv ct), osl⟩) (hcd : PySem.W.codeIn Y.K cdv x = true) (S : FnScope N [ex] scope) (hk : PySem.W.keepIn Y.K (.ref f) = true)
    (hb : L2.Binds Y.K (PySem.W.fnOf x x params body scope dV kV doc pm an cdv ct) [ex] []) (hg : Gl Y x) (hm : Y.mg x = some (.ref f)) (hr : RoomH (k + 1) Y.A) (W : Words Y.prog Y.w Y.K Y.mg Y.base k x N scope f body WQ)
    (hN : Y.N[i]? = some y) (hv : Vis Y.env.scope y) (hd : (y == ("__debug__" : Str)) = false := by decide) (hcd2 : (y == ("__classdict__" : Str)) = false := by decide) (hdb : (x == ("__debug__" : Str)) = false := by decide) :
    PE (Y.suite a ((a, oe) :: pn)) (.Call (.Name x p1) [.Name y p2] [] p3) (fun σ H Q => σ[i]? = some (some (.ref a)) ∧ H a = none ∧ WQ cls d H Q) := by
  refine ⟨fun pins s σ H Q I ⟨e1, e2, e3⟩ => ?_⟩
  refine wpAny_Call_Name_kw (ld_glob I hg hm (PySem.W.callWith_K (h₀ := Y.base) I.ok.mod.kin hk ?_ (by rfl) (by rfl)) hdb)
  show wpAny _ _ (spliced ((false, eval (.Name y p2) (Y.suite a ((a, oe) :: pn)).env) :: backTo p3 (starEach [] (Y.suite a ((a, oe) :: pn)).env))) _ _ s
  refine Calls.spliced_cons (thn ((pe_var (X := Y.suite a ((a, oe) :: pn)) (pos := p2) (i := i) hN hv hd hcd2).run pins s σ H (fun v H1 => v = .ref a ∧ H1 = H) I ⟨.ref a, e1, rfl, rfl⟩) fun u s1 ⟨v, H1, I1, r1, q1⟩ => Calls.spliced_nil ⟨I1.kIn, ?_⟩)
  obtain ⟨rfl, rfl⟩ := q1
  obtain rfl : u = Value.ref a := r1
  have P1 := I1.pin (a, oe) (List.mem_append_left _ List.mem_cons_self)
  have hpin : PinOk Y.stack H1 s1 (a, oe) := ⟨P1.1, P1.2.1, fun hm => (List.mem_cons.mp (I1.stkSub a hm)).elim P1.2.2.1 P1.2.2.2.1, P1.2.2.2.2⟩
  obtain ⟨vs, hv2⟩ := hf
  have hot : Hot1 (Y.A.mark (some (.ref a))) (a, oe) := ⟨rfl, vs, hv2, hz.2.2 vs hv2⟩
  have rc := run_hot (A := Y.A.mark (some (.ref a))) (k := k) (p := (a, oe)) (Q := Q) (s := s1) (H := H1) (outer := Y.stack) lk hcd S ⟨hr.dp, hr.un⟩ hpin I1.env0 (by have := hb s1 [.ref a] I1.kIn rfl; exact this)
    fun hr1 => W cdv _ _ s1 H1 Q a oe cls d hot hr1 hz.zc ⟨vs, hv2⟩ e2 e3
  refine wpAny_call (codeAny_mono rc fun r s2 hq => ?_)
  cases r with
  | error e => exact (show False from hq).elim
  | ok fl =>
    cases fl with
    | ret u => exact I1.after hq
    | next => exact False.elim hq
    | brk => exact False.elim hq
    | cont => exact False.elim hq
/-- told: try: return a() / except X as e: return word(e) -/
def TWord (K : PySem.W.Frag) (CS : Addr) (WQ : Value → Option Addr → Hp → VK → Prop) : (XK → Hp → VK → Prop) → Hp → VK → Prop := fun tl H Q =>
  tl (fun cls d H' => PySem.W.exmOne K cls (.ref CS) = some true ∧ WQ cls d H' Q) H Q
theorem tells {X : Cx} {Ng : List Str} {x a e q wx ex ey : Str} {sg scope : Scope} {g CS f : Addr} {cdg : Value} {k : Nat} {WQ : Value → Option Addr → Hp → VK → Prop} {params : Arguments} {wbody : List Stmt} {dV kV doc pm cdv ct oc : Value} {an od : Option Addr} {osl : Array (Option Value)} {N : List Str}
    {p1 p2 p3 p4 p5 p6 p7 p8 p9 p10 : Pos} (Sg : FnScope Ng [a] sg) (h0 : Ng[0]? = some a) (h1 : Ng[1]? = some ey) (hl : 1 < Ng.length) (hln : sg.names.lookup ey = some .local) (hge : sg.names.lookup e = some .globalImplicit) (hme : X.mg e = some (.ref CS)) (hde : (e == ("__debug__" : Str)) = false)
    (lk : X.K.lookup f = some ⟨oc, od, .func (PySem.W.fnOf wx wx params wbody scope dV kV doc pm an cdv ct), osl⟩) (hcd : PySem.W.codeIn X.K cdv wx = true) (S : FnScope N [ex] scope) (hk : PySem.W.keepIn X.K (.ref f) = true)
    (hb : L2.Binds X.K (PySem.W.fnOf wx wx params wbody scope dV kV doc pm an cdv ct) [ex] []) (hgw : sg.names.lookup wx = some .globalImplicit) (hmw : X.mg wx = some (.ref f)) (W : Words X.prog X.w X.K X.mg X.base k wx N scope f wbody WQ)
    (hd1 : (ey == ("__debug__" : Str)) = false) (hd2 : (ey == ("__classdict__" : Str)) = false) (hd3 : (wx == ("__debug__" : Str)) = false) :
    Tells X Ng x sg g cdg [.Try [.Return (some (.Call (.Name a p1) [] [] p2)) p3] [.ExceptHandler (some (.Name e p4)) (some ey) [.Return (some (.Call (.Name wx p5) [.Name ey p6] [] p7)) p8] p9] [] [] p10] a q (k + 1) (TWord X.K CS WQ) := by
  intro f1 c' s H Q tl hr ac hc h
  have hgl : Gl (cxOf C8.CX0 X.prog X.w X.K X.mg X.base Ng x sg g cdg X.A X.stack s H C8.E0).nox e := hge
  refine ⟨_, pss_one (L2N.ps_try_as (X := (cxOf C8.CX0 X.prog X.w X.K X.mg X.base Ng x sg g cdg X.A X.stack s H C8.E0).nox) (i := 1) (c := .ref CS) (Wout := fun _ _ _ _ => False)
      (tb := fun W D σ H => ∃ Ech : XK, (∀ cls d σ' H', σ'.length = Ng.length → Ech cls d H' → W cls d σ' H') ∧ σ[0]? = some (some (.ref f1)) ∧ H c' = some (CodeO c' q) ∧ tl Ech H D.rt)
      (ts := fun a cls d => tRet fun σ H Q => σ[1]? = some (some (.ref a)) ∧ H a = none ∧ WQ cls d H Q)
      rfl rfl Sg.nd h1 hln ⟨hgl, hde, .inl hme⟩ BV.takesN0 (fun W pn xe tk _ => ?_) (fun a1 oe cls d pn hz hf => pss_one (ps_ret ?_))), ?_⟩
  · refine ⟨fun pins s' σ H' D I ⟨Ech, hW, e1, e2, e3⟩ => ?_⟩
    exact (pss_one (ps_ret (pos := p3) (ac W pn xe Ech p1 p2 tk hW))).run pins s' σ H' D I ⟨e1, e2, e3⟩
  · exact pe_word (Y := (cxOf C8.CX0 X.prog X.w X.K X.mg X.base Ng x sg g cdg X.A X.stack s H C8.E0).nox) hz hf lk hcd S hk hb hgw hmw (roomH_of hr) W h1 (.inl hln) hd1 hd2 hd3
  · refine ⟨fun cls d H' => PySem.W.exmOne X.K cls (.ref CS) = some true ∧ WQ cls d H' Q, fun cls d σ' H' hl2 ⟨m1, m2⟩ => ⟨true, m1, fun _ a1 na => ⟨?_, na, m2⟩, fun z => nomatch z⟩, ?_, hc, h⟩
    · rw [List.getElem?_set_self (by rw [hl2]; exact hl)]
    · unfold L2.start
      rfl
end WD
namespace BV
open PySem PySem.Spec PyProof.Rows L2 LamX LN WD
/-- the words of the own errors without fields -/
def six : List Str := ["BadValue", "BadSteps", "BadHouse", "BadName", "BadChoice", "BadRecord"]
def wordD (e : Exc) : R D := if e.fs = [] ∧ e.ds = [] ∧ e.name ∈ six then .ok (.tup [.str "refused", .str e.name]) else .stuck
def toldR : R D → R D
  | .ok d => .ok d
  | .exc e => wordD e
  | .stuck => .stuck
def toldE (f : Rho → R D) : Rho → R D := fun ρ => toldR (f ρ)
/-- what the wording def promises, by addresses -/
def WQ6 (mg : Str → Option Value) : Value → Option Addr → Hp → VK → Prop := fun cls d H Q =>
  ∃ n C, n ∈ six ∧ mg n = some (.ref C) ∧ cls = .ref C ∧ d = none ∧ ∀ H' t, More H H' → H' t = none → Q (.ref t) (upd H' t (.tup [.str "refused", .str n]))
theorem six_ok {n : Str} (h : n ∈ six) : PyData.strOk n = true ∧ n.length ≤ sizeLine := by
  have : (six.all fun n => PyData.strOk n && decide (n.length ≤ 1000)) = true := by kernel_rfl
  have := List.all_eq_true.mp this n h
  rw [Bool.and_eq_true] at this
  exact ⟨this.1, Nat.le_of_lt (small1000 (of_decide_eq_true this.2))⟩
theorem refused_ok : PyData.strOk (Str.ofString "refused") = true ∧ (Str.ofString "refused").length ≤ sizeLine := by
  have : (PyData.strOk (Str.ofString "refused") && decide ((Str.ofString "refused").length ≤ 1000)) = true := by kernel_rfl
  rw [Bool.and_eq_true] at this
  exact ⟨this.1, Nat.le_of_lt (small1000 (of_decide_eq_true this.2))⟩
section
variable {X : Cx} {T : List (Addr × Str)} {Γ : List Bool} {W : WX} {e : Expr} {f : Rho → R D}
theorem RelE.extN {K : PySem.W.Frag} {mg : Str → Option Value} {ρ : Rho} {Hf H H1 : Hp} {σ : St} (r : RelE K mg T Γ ρ Hf σ H) (x : ExtN H H1) (t : Tabs T H1) : RelE K mg T Γ ρ Hf σ H1 where
  sub := r.sub.ext x
  tab := t
  len := r.len
  val := r.val
  own := fun i d q g => by
    obtain ⟨a, o, h1, h2, h3, h4⟩ := r.own i d q g
    exact ⟨a, o, h1, h2, x a o h3 (RepO.ntbl h4), h4⟩
  apart := r.apart
theorem ExtF.extN {Hf H H1 Hf2 H2 : Hp} (s : Sub Hf H) (x : ExtN H H1) (t : Tabs T H1) (y : ExtF T Hf H1 Hf2 H2) : ExtF T Hf H Hf2 H2 :=
  ⟨y.sub, y.inn, x.trans y.ext, fun _ => y.tab t, fun b q => y.fr b (Old.ext x b q), fun b q => y.kp b (Old.ext x b q)⟩
theorem pd_told {CS : Addr} (h : PE X e (tLam T (TWord X.K CS (WQ6 X.mg)) fun E => tD X.K X.mg T Γ (fun c d _ H => E c d H) .v f)) (hC : ∀ n ∈ six, ∀ C, X.mg n = some (.ref C) → PySem.W.exmOne X.K (.ref C) (.ref CS) = some true) : PD X T Γ W .v e (toldE f) :=
  PE.imp h fun σ H Q ⟨Hf, ρ, rel, p⟩ => ⟨rel.tab, fun H1 x t1 => ⟨Hf, ρ, rel.extN x t1, by
    have p : PostE X.K X.mg T Hf H .v W σ Q (toldR (f ρ)) := p
    cases q : f ρ with
    | ok d =>
      rw [q] at p
      intro Hf2 H2 y v rk
      exact p Hf2 H2 (ExtF.extN rel.sub x t1 y) v rk
    | stuck => rw [q] at p; exact p.elim
    | exc ex =>
      rw [q] at p
      have p : PostE X.K X.mg T Hf H .v W σ Q (wordD ex) := p
      unfold wordD at p
      split at p
      · rename_i hx
        obtain ⟨h1, h2, h3⟩ := hx
        rintro cls dd Hf2 H2 y ⟨C, m1, m2, m3⟩
        have y2 := ExtF.extN rel.sub x t1 y
        have hd : dd = none := by
          rcases m3 with m3 | ⟨m4, _⟩
          · exact m3.2.2
          · exact absurd h1 m4
        refine ⟨by rw [m2]; exact hC _ h3 C m1, ex.name, C, h3, m1, m2, hd, fun H3 t mo nt => ?_⟩
        have y3 : ExtF T Hf2 H2 Hf2 H3 := ⟨y2.inn.self, fun b u q => ⟨mo b u (y2.inn b u q).1, (y2.inn b u q).2⟩, ExtN.of mo, fun tb => tb.ext mo, fun _ _ q => q, Old.ext (ExtN.of mo)⟩
        have y4 : ExtF T Hf2 H3 (upd Hf2 t (.tup [.str "refused", .str ex.name])) (upd H3 t (.tup [.str "refused", .str ex.name])) := ExtF.newF y3.inn nt (fun ps z => nomatch z)
        refine p _ _ (y2.trans (y3.trans y4)) (.ref t) ⟨t, _, rfl, SqT.of upd_same, by show 2 ≤ sizeLine; rw [sizeLine_eq]; decide, ?_⟩
        exact ⟨_, _, rfl, ⟨rfl, refused_ok⟩, _, _, rfl, ⟨rfl, six_ok h3⟩, rfl⟩
      · exact p.elim⟩⟩
end
end BV
namespace WD
open PySem PySem.Spec PyProof.Rows L2 L2H LamX LN HH BV
/-! ### plain readings of the wording def -/
theorem isP {K : PySem.W.Frag} {D a C : Addr} {b : Bool} {σ : L2.St} {H : Hp} {Q : VK} (h0 : σ[0]? = some (some (.ref a))) (hk : PySem.W.kitOne K (.ref D) (.ref C) = some b) (q : Q (.bl b) H) :
    tCB (rIsE K D a) (tCons (tVar 0) (tCons (tC (.ref C)) tNil)) σ H Q := ⟨.ref a, h0, .ref C, .ref C, b, rfl, fun _ r => r, hk, q⟩
theorem isPT {K : PySem.W.Frag} {D a : Addr} {t : String} {b : Bool} {σ : L2.St} {H : Hp} {Q : VK} (h0 : σ[0]? = some (some (.ref a))) (hk : PySem.W.kitOne K (.ref D) (.type t) = some b) (q : Q (.bl b) H) :
    tCB (rIsE K D a) (tCons (tVar 0) (tCons (tC (.ty t)) tNil)) σ H Q := ⟨.ref a, h0, .ty t, .type t, b, rfl, fun _ r => r, hk, q⟩
/-- a list walked by a comprehension, each item by what te makes of it -/
theorem lcP {K : PySem.W.Frag} {σ : L2.St} {H : Hp} {Q : VK} {te : TE} {a : Addr} {vs ys : List V} {i j : Nat} (hi : σ[i]? = some (some (.ref a))) (hs : H a = some (.lst vs)) (hl : ys.length = vs.length) (hz : vs.length < sizeLine) (hj : j < σ.length)
    (he : ∀ (m : Nat) (v y : V), vs[m]? = some v → ys[m]? = some y → ∀ (σ' : L2.St) (H' : Hp) (Q' : VK), σ'[j]? = some (some v) → Q' y H' → te σ' H' Q')
    (q : ∀ D, H D = none → Q (.ref D) (upd H D (.lst ys))) : tLc (iList K (tVar i)) (gName j) (fun σ H Q => Q true H) te [j] σ H Q := by
  refine ⟨.ref a, hi, a, rfl, ⟨vs, SqL.of hs⟩, fun D hD => ?_⟩
  have na : a ≠ D := fun z => by rw [z, hD] at hs; cases hs
  refine ⟨fun m n H' => n = vs.length - m ∧ m ≤ vs.length ∧ H' = upd H D (.lst (ys.take m)), ⟨vs.length, by simp, Nat.zero_le _, by simp⟩, ?_⟩
  rintro m n _ ⟨rfl, hm, rfl⟩
  have hs2 : ∀ o, (upd H D o) a = some (.lst vs) := fun o => by rw [upd_ne na]; exact hs
  by_cases hlt : m < vs.length
  · obtain ⟨v, hv⟩ : ∃ v, vs[m]? = some v := ⟨vs[m], List.getElem?_eq_getElem hlt⟩
    obtain ⟨y, hy⟩ : ∃ y, ys[m]? = some y := ⟨ys[m]'(by omega), List.getElem?_eq_getElem (by omega)⟩
    refine .inr ⟨⟨vs, v, SqL.of (hs2 _), hv⟩, fun H' => H' = upd H D (.lst (ys.take (m + 1))), fun H' e => ⟨vs.length - (m + 1), by omega, rfl, hlt, e⟩, fun x H' ⟨e, hx⟩ => ?_⟩
    have ex : x = v := by
      have := hx vs (SqL.of (hs2 _))
      rw [hv] at this
      exact (Option.some.inj this).symm
    subst e ex
    refine ⟨by simp [wipe, List.set_set], ?_⟩
    show te _ _ _
    refine he m x y hv hy _ _ _ (by rw [List.getElem?_set_self (by simpa [wipe] using hj)]) ⟨ys.take m, upd_same, by simp; omega, ?_⟩
    have ht : ys.take (m + 1) = ys.take m ++ [y] := by rw [List.take_add_one, hy]; rfl
    rw [ht]
    funext b
    by_cases hb : b = D
    · subst hb
      rw [upd_same, upd_same]
    · rw [upd_ne hb, upd_ne hb, upd_ne hb]
  · have e : m = vs.length := by omega
    subst e
    refine .inl ⟨⟨vs, SqL.of (hs2 _), Nat.le_refl _⟩, ?_⟩
    rw [show ys.take vs.length = ys by rw [← hl, List.take_length]]
    exact q D hD
theorem pss_no {X : Cx} {st : List Stmt} : PSs X st (fun _ _ _ => False) := ⟨fun _ _ _ _ _ _ h => h.elim⟩
end WD
namespace WD
open PySem PySem.Spec PyProof.Rows L2 L2H LamX LN HH BV
/-! ### what the head checks for the wording def -/
def seven : List Str := ["BadValue", "BadSteps", "BadHouse", "BadName", "BadChoice", "BadRecord", "Trouble"]
structure WG (K : PySem.W.Frag) (mg : Str → Option Value) : Prop where
  m : ∀ n ∈ seven, mg n = some (.ref (He.ga K n))
  k : ∀ n ∈ six, ∀ n' ∈ seven, PySem.W.kitOne K (.ref (He.ga K n)) (.ref (He.ga K n')) = some (n == n')
  v : ∀ n ∈ six, PySem.W.kitOne K (.ref (He.ga K n)) (.type "ValueError") = some true
  x : ∀ n ∈ six, ExcC K (He.ga K n)
  t : mg "TryError" = some (.ref (He.ga K "TryError"))
  e : ∀ n ∈ six, PySem.W.exmOne K (.ref (He.ga K n)) (.ref (He.ga K "TryError")) = some true
  f1 : mg "isinstance" = none
  f2 : mg "sum" = none
  f3 : mg "int" = none
  f4 : mg "ValueError" = none
def excB (K : PySem.W.Frag) (D : Addr) : Bool :=
  decide (PySem.W.findIn K (.ref D) "__getattribute__" = some (some (.builtin "BaseException.__getattribute__"))) && (decide (PySem.W.findIn K (.ref D) "__getattr__" = some none) && (decide (PySem.W.subIn K (.ref D) (.type "BaseException") = some true) &&
    (PySem.W.hasDictIn K D && (decide (PySem.W.findIn K (.ref D) "__class__" = some (some (.builtin "object.__class__"))) && (decide (PySem.W.specialIn K (.builtin "object.__class__") "__get__" = some (some (.builtin "getset_descriptor.__get__"))) &&
      (decide (PySem.W.takesIn K (.builtin "object.__class__") = some true) && decide (PySem.W.mroIn K D (.type "object") = some true)))))))
theorem excB_ok {K : PySem.W.Frag} {D : Addr} (h : excB K D = true) : ExcC K D := by
  unfold excB at h
  simp only [Bool.and_eq_true, decide_eq_true_eq] at h
  obtain ⟨h1, h2, h3, h4, h5, h6, h7, h8⟩ := h
  exact ⟨h1, h2, h3, h4, h5, h6, h7, h8⟩
def wgB (K : PySem.W.Frag) : Bool :=
  six.all fun n => excB K (He.ga K n) && (decide (PySem.W.kitOne K (.ref (He.ga K n)) (.type "ValueError") = some true) && (decide (PySem.W.exmOne K (.ref (He.ga K n)) (.ref (He.ga K "TryError")) = some true) &&
    seven.all fun n' => decide (PySem.W.kitOne K (.ref (He.ga K n)) (.ref (He.ga K n')) = some (n == n'))))
theorem wg_of {K : PySem.W.Frag} {mg : Str → Option Value} (h : wgB K = true) (m : ∀ n ∈ seven, mg n = some (.ref (He.ga K n))) (t : mg "TryError" = some (.ref (He.ga K "TryError"))) (f1 : mg "isinstance" = none) (f2 : mg "sum" = none) (f3 : mg "int" = none) (f4 : mg "ValueError" = none) : WG K mg := by
  have h := List.all_eq_true.mp h
  have a : ∀ n ∈ six, excB K (He.ga K n) = true ∧ PySem.W.kitOne K (.ref (He.ga K n)) (.type "ValueError") = some true ∧ PySem.W.exmOne K (.ref (He.ga K n)) (.ref (He.ga K "TryError")) = some true ∧ ∀ n' ∈ seven, PySem.W.kitOne K (.ref (He.ga K n)) (.ref (He.ga K n')) = some (n == n') := fun n hn => by
    have := h n hn
    simp only [Bool.and_eq_true, decide_eq_true_eq, List.all_eq_true] at this
    exact this
  exact ⟨m, fun n hn => (a n hn).2.2.2, fun n hn => (a n hn).2.1, fun n hn => excB_ok (a n hn).1, t, fun n hn => (a n hn).2.2.1, f1, f2, f3, f4⟩
def bits (n : Str) : List Bool := seven.map fun m => n == m
theorem bits_sum : ∀ n ∈ six, ((bits n).map fun c => (if c = true then (1 : Int) else 0)).sum = 1 := by decide +kernel
theorem bits_tr : ∀ n ∈ six, (n == ("Trouble" : Str)) = false := by decide +kernel
theorem bits_ix : ∀ n ∈ six, ∃ j, j < 6 ∧ (bits n)[j]? = some true ∧ (∀ m, m < j → (bits n)[m]? = some false) ∧ six[j]? = some n := by
  have h : (six.all fun n => (List.range 6).any fun j => (bits n)[j]? == some true && ((List.range j).all (fun m => (bits n)[m]? == some false) && six[j]? == some n)) = true := by decide +kernel
  intro n hn
  have := List.all_eq_true.mp h n hn
  obtain ⟨j, hj, h2⟩ := List.any_eq_true.mp this
  simp only [Bool.and_eq_true, beq_iff_eq, List.all_eq_true] at h2
  exact ⟨j, List.mem_range.mp hj, h2.1, fun m hm => h2.2.1 m (List.mem_range.mpr hm), h2.2.2⟩
end WD
namespace WD
open PySem PySem.Spec PyProof.Rows L2
theorem tab_uni {K : PySem.W.Frag} {tf : List He.Defn} (nd : (tf.map fun p => (He.cT K p).2).Nodup) {q : He.Defn} (hq : q ∈ tf) : ∀ p ∈ tf.map fun p => ((He.cT K p).2, p.1 ++ ".<locals>." ++ "<lambda>"), p.1 = (He.cT K q).2 → p.2 = q.1 ++ ".<locals>." ++ "<lambda>" := by
  intro p hp e
  obtain ⟨r, hr, rfl⟩ := List.mem_map.mp hp
  have : r = q := by
    by_cases h : r = q
    · exact h
    · obtain ⟨i, hi, e1⟩ := List.mem_iff_getElem.mp hr
      obtain ⟨j, hj, e2⟩ := List.mem_iff_getElem.mp hq
      have hij : i ≠ j := fun z => h (by subst z; rw [← e1, ← e2])
      have pw := List.pairwise_iff_getElem.mp nd
      rcases Nat.lt_or_gt_of_ne hij with l | l
      · exact (pw i j (by simpa using hi) (by simpa using hj) l (by rw [List.getElem_map, List.getElem_map, e1, e2]; exact e)).elim
      · exact (pw j i (by simpa using hj) (by simpa using hi) l (by rw [List.getElem_map, List.getElem_map, e1, e2]; exact e.symm)).elim
  rw [this]
end WD
namespace BV
open PySem PySem.Spec PyProof.Rows L2
/-! ### the by-value terms, applied -/
def RS.seq : RS → (Rho → RS) → RS
  | .nx ρ, G => G ρ
  | r, _ => r
@[simp] theorem RS.seq_nx (ρ : Rho) (G) : (RS.nx ρ).seq G = G ρ := rfl
@[simp] theorem RS.seq_rt (d : D) (G) : (RS.rt d).seq G = .rt d := rfl
@[simp] theorem RS.seq_exc (d : Exc) (G) : (RS.exc d).seq G = .exc d := rfl
@[simp] theorem RS.seq_bk (ρ : Rho) (G) : (RS.bk ρ).seq G = .bk ρ := rfl
@[simp] theorem RS.seq_ct (ρ : Rho) (G) : (RS.ct ρ).seq G = .ct ρ := rfl
@[simp] theorem seqS_ap (F G : Rho → RS) (ρ : Rho) : seqS F G ρ = (F ρ).seq G := by
  unfold seqS RS.seq
  cases F ρ <;> rfl
@[simp] theorem nxS_ap (ρ : Rho) : nxS ρ = .nx ρ := rfl
def RS.ite : R Bool → (Rho → RS) → (Rho → RS) → Rho → RS
  | .ok true, F, _, ρ => F ρ
  | .ok false, _, G, ρ => G ρ
  | .exc e, _, _, _ => .exc e
  | .stuck, _, _, _ => .stuck
@[simp] theorem RS.ite_tt (F G) (ρ : Rho) : RS.ite (.ok true) F G ρ = F ρ := rfl
@[simp] theorem RS.ite_ff (F G) (ρ : Rho) : RS.ite (.ok false) F G ρ = G ρ := rfl
@[simp] theorem RS.ite_exc (e) (F G) (ρ : Rho) : RS.ite (.exc e) F G ρ = .exc e := rfl
@[simp] theorem ifS_ap (c : Rho → R Bool) (F G : Rho → RS) (ρ : Rho) : ifS c F G ρ = RS.ite (c ρ) F G ρ := by
  unfold ifS RS.ite
  cases c ρ with
  | ok b => cases b <;> rfl
  | exc e => rfl
  | stuck => rfl
def R.ite {α : Type} : R Bool → (Rho → R α) → (Rho → R α) → Rho → R α
  | .ok true, F, _, ρ => F ρ
  | .ok false, _, G, ρ => G ρ
  | .exc e, _, _, _ => .exc e
  | .stuck, _, _, _ => .stuck
@[simp] theorem R.ite_tt {α : Type} (F G : Rho → R α) (ρ : Rho) : R.ite (.ok true) F G ρ = F ρ := rfl
@[simp] theorem R.ite_ff {α : Type} (F G : Rho → R α) (ρ : Rho) : R.ite (.ok false) F G ρ = G ρ := rfl
@[simp] theorem ifE_ap (c : Rho → R Bool) (F G : Rho → R D) (ρ : Rho) : ifE c F G ρ = R.ite (c ρ) F G ρ := by
  unfold ifE R.ite
  cases c ρ with
  | ok b => cases b <;> rfl
  | exc e => rfl
  | stuck => rfl
def okT : Rho → R Bool := fun _ => .ok true
def okF : Rho → R Bool := fun _ => .ok false
@[simp] theorem okT_ap (ρ : Rho) : okT ρ = .ok true := rfl
@[simp] theorem okF_ap (ρ : Rho) : okF ρ = .ok false := rfl
@[simp] theorem andT_ap (f g : Rho → R Bool) (ρ : Rho) : andT f g ρ = R.ite (f ρ) g okF ρ := by
  unfold andT R.ite
  cases f ρ with
  | ok b => cases b <;> rfl
  | exc e => rfl
  | stuck => rfl
@[simp] theorem orT_ap (f g : Rho → R Bool) (ρ : Rho) : orT f g ρ = R.ite (f ρ) okT g ρ := by
  unfold orT R.ite
  cases f ρ with
  | ok b => cases b <;> rfl
  | exc e => rfl
  | stuck => rfl
def dT : Rho → R D := fun _ => .ok (.bl true)
def dF : Rho → R D := fun _ => .ok (.bl false)
@[simp] theorem dT_ap (ρ : Rho) : dT ρ = .ok (.bl true) := rfl
@[simp] theorem dF_ap (ρ : Rho) : dF ρ = .ok (.bl false) := rfl
@[simp] theorem bind_asB_bl (b : Bool) : (D.bl b).asB = .ok b := rfl
@[simp] theorem andE_ap (f g : Rho → R D) (ρ : Rho) : andE f g ρ = R.ite ((f ρ).bind D.asB) g dF ρ := by
  unfold andE R.ite
  cases f ρ with
  | ok d => cases d <;> first | rfl | (rename_i b; cases b <;> rfl)
  | exc e => rfl
  | stuck => rfl
@[simp] theorem orE_ap (f g : Rho → R D) (ρ : Rho) : orE f g ρ = R.ite ((f ρ).bind D.asB) dT g ρ := by
  unfold orE R.ite
  cases f ρ with
  | ok d => cases d <;> first | rfl | (rename_i b; cases b <;> rfl)
  | exc e => rfl
  | stuck => rfl
def notR : R Bool → R Bool
  | .ok b => .ok (!b)
  | .exc e => .exc e
  | .stuck => .stuck
@[simp] theorem notR_ok (b : Bool) : notR (.ok b) = .ok (!b) := rfl
@[simp] theorem notT_ap (f : Rho → R Bool) (ρ : Rho) : notT f ρ = notR (f ρ) := by
  unfold notT notR
  cases f ρ <;> rfl
def nbl : R Bool → R D
  | .ok b => .ok (.bl (!b))
  | .exc e => .exc e
  | .stuck => .stuck
@[simp] theorem nbl_ok (b : Bool) : nbl (.ok b) = .ok (.bl (!b)) := rfl
@[simp] theorem notE_ap (f : Rho → R D) (ρ : Rho) : notE f ρ = nbl ((f ρ).bind D.asB) := by
  unfold notE nbl
  cases f ρ with
  | ok d => cases d <;> rfl
  | exc e => rfl
  | stuck => rfl
@[simp] theorem tstE_ap (f : Rho → R D) (ρ : Rho) : tstE f ρ = (f ρ).bind D.asB := rfl
@[simp] theorem conE_ap (d : D) (ρ : Rho) : conE d ρ = .ok d := rfl
@[simp] theorem varE_0 (o : Option D) (ρ : Rho) : varE 0 (o :: ρ) = R.of o := rfl
@[simp] theorem varE_s (n : Nat) (o : Option D) (ρ : Rho) : varE (n + 1) (o :: ρ) = varE n ρ := rfl
def R.op2 (g : D → D → Option D) : R D → R D → R D
  | .ok a, .ok b => R.of (g a b)
  | .ok _, r => r
  | r, _ => r
@[simp] theorem R.op2_ok (g) (a b : D) : R.op2 g (.ok a) (.ok b) = R.of (g a b) := rfl
@[simp] theorem opE_ap (g) (fa fb : Rho → R D) (ρ : Rho) : opE g fa fb ρ = R.op2 g (fa ρ) (fb ρ) := by
  unfold opE R.op2
  cases fa ρ <;> cases fb ρ <;> rfl
@[simp] theorem unE_ap (g) (fa : Rho → R D) (ρ : Rho) : unE g fa ρ = (fa ρ).bind fun a => R.of (g a) := rfl
@[simp] theorem nilE_ap (ρ : Rho) : nilE ρ = .ok [] := rfl
def R.cons : R D → R (List D) → R (List D)
  | .ok a, .ok b => .ok (a :: b)
  | .ok _, r => r
  | .exc e, _ => .exc e
  | .stuck, _ => .stuck
@[simp] theorem R.cons_ok (a : D) (b) : R.cons (.ok a) (.ok b) = .ok (a :: b) := rfl
@[simp] theorem R.cons_exc (e) (b) : R.cons (.exc e) b = .exc e := rfl
@[simp] theorem consE_ap (f : Rho → R D) (fs) (ρ : Rho) : consE f fs ρ = R.cons (f ρ) (fs ρ) := by
  unfold consE R.cons
  cases f ρ <;> cases fs ρ <;> rfl
@[simp] theorem calE_ap (g) (fs : Rho → R (List D)) (ρ : Rho) : calE g fs ρ = (fs ρ).bind fun ds => R.of (g ds) := rfl
@[simp] theorem appE_ap (F) (fs : Rho → R (List D)) (ρ : Rho) : appE F fs ρ = (fs ρ).bind F := rfl
@[simp] theorem lstE_ap (fs : Rho → R (List D)) (ρ : Rho) : lstE fs ρ = (fs ρ).bind fun ds => .ok (.lst ds) := rfl
@[simp] theorem tupE_ap (fs : Rho → R (List D)) (ρ : Rho) : tupE fs ρ = (fs ρ).bind fun ds => .ok (.tup ds) := rfl
def R.set : R D → Nat → Rho → RS
  | .ok d, i, ρ => .nx (ρ.set i (some d))
  | .exc e, _, _ => .exc e
  | .stuck, _, _ => .stuck
@[simp] theorem R.set_ok (d i ρ) : R.set (.ok d) i ρ = .nx (ρ.set i (some d)) := rfl
@[simp] theorem R.set_exc (d i ρ) : R.set (.exc d) i ρ = .exc d := rfl
@[simp] theorem setS_ap (i : Nat) (f : Rho → R D) (ρ : Rho) : setS i f ρ = R.set (f ρ) i ρ := by
  unfold setS R.set
  cases f ρ <;> rfl
@[simp] theorem retS_ap (f : Rho → R D) (ρ : Rho) : retS f ρ = RS.bind (f ρ) .rt := rfl
@[simp] theorem retN_ap (ρ : Rho) : retN ρ = .rt .non := rfl
@[simp] theorem excS_ap (x : Str) (ρ : Rho) : excS x ρ = .exc ⟨x, [], []⟩ := rfl
def R.drp : R D → Rho → RS
  | .ok _, ρ => .nx ρ
  | .exc e, _ => .exc e
  | .stuck, _ => .stuck
@[simp] theorem R.drp_ok (d ρ) : R.drp (.ok d) ρ = .nx ρ := rfl
@[simp] theorem R.drp_exc (d ρ) : R.drp (.exc d) ρ = .exc d := rfl
@[simp] theorem drpS_ap (f : Rho → R D) (ρ : Rho) : drpS f ρ = R.drp (f ρ) ρ := by
  unfold drpS R.drp
  cases f ρ <;> rfl
@[simp] theorem itE_ap (f : Rho → R D) (ρ : Rho) : itE f ρ = (f ρ).bind D.iter := rfl
@[simp] theorem rngE_ap (f) (ρ : Rho) : rngE f ρ = (f ρ).bind rngD := rfl
def R.app : R (List D) → R D → Nat → Rho → RS
  | .ok ds, .ok d, i, ρ => if ds.length < sizeLine then .nx (ρ.set i (some (.lst (ds ++ [d])))) else .stuck
  | .ok _, .exc e, _, _ => .exc e
  | .exc e, _, _, _ => .exc e
  | _, _, _, _ => .stuck
theorem appS_ap (i : Nat) (f : Rho → R D) (ρ : Rho) : appS i f ρ = R.app (ownL i ρ) (f ρ) i ρ := by
  unfold appS R.app
  cases ownL i ρ <;> cases f ρ <;> rfl
@[simp] theorem ownL_0 (ds : List D) (ρ : Rho) : ownL 0 (some (.lst ds) :: ρ) = .ok ds := rfl
@[simp] theorem ownL_s (n : Nat) (o : Option D) (ρ : Rho) : ownL (n + 1) (o :: ρ) = ownL n ρ := rfl
theorem app_ok {ds : List D} {d : D} {i : Nat} {ρ : Rho} (h : ds.length < sizeLine) : R.app (.ok ds) (.ok d) i ρ = .nx (ρ.set i (some (.lst (ds ++ [d])))) := if_pos h
def RS.out : RS → R D
  | .nx _ => .ok .non
  | .rt d => .ok d
  | .exc e => .exc e
  | _ => .stuck
theorem runF_ap (n : Nat) (F : Rho → RS) (ds : List D) : runF n F ds = (F (ds.map some ++ List.replicate (n - ds.length) none)).out := rfl
@[simp] theorem out_rt (d : D) : (RS.rt d).out = .ok d := rfl
@[simp] theorem out_nx (d : Rho) : (RS.nx d).out = .ok .non := rfl
@[simp] theorem out_exc (d : Exc) : (RS.exc d).out = .exc d := rfl
@[simp] theorem slcE_ap (g) (f : Rho → R D) (lo hi) (ρ : Rho) : slcE g f lo hi ρ = (f ρ).bind fun d => (lo ρ).bind fun l => (hi ρ).bind fun h => R.of (g d l h) := rfl
@[simp] theorem nonO_ap (ρ : Rho) : nonO ρ = .ok none := rfl
@[simp] theorem somO_ap (f : Rho → R D) (ρ : Rho) : somO f ρ = (f ρ).bind fun d => d.asI.bind fun i => .ok (some i) := rfl
@[simp] theorem asI_int (i : Int) : (D.int i).asI = .ok i := rfl
@[simp] theorem asS_str (i : Str) : (D.str i).asS = .ok i := rfl
@[simp] theorem joinE_ap (fa fb) (ρ : Rho) : joinE fa fb ρ = (fa ρ).bind fun a => a.asS.bind fun x => (fb ρ).bind fun b => R.of (joinD x b) := rfl
/-! ### comprehensions and loops -/
def rgo (g : R (List D)) (k : List D → R (List D)) : R D := g.bind fun ds => (k ds).bind fun ys => .ok (.lst ys)
theorem compE_ap (g) (vs t c f) (ρ : Rho) : compE g vs t c f ρ = rgo (g ρ) (compL t c f (wipeR ρ vs)) := rfl
theorem rgo_ok {ds ys : List D} {k} (h : k ds = .ok ys) : rgo (.ok ds) k = .ok (.lst ys) := by
  show (k ds).bind _ = _
  rw [h]
  rfl
theorem comp_map {i : Nat} {f : Rho → R D} {ρ : Rho} {h : D → D} : ∀ {ds : List D}, (∀ d ∈ ds, f (ρ.set i (some d)) = .ok (h d)) → compL (.one i) yesE f ρ ds = .ok (ds.map h)
  | [], _ => rfl
  | d :: ds, q => by
    unfold compL
    simp only [Tg.set, R.calm, R.bind, yesE, if_pos, q d List.mem_cons_self, comp_map fun d hd => q d (List.mem_cons_of_mem _ hd)]
    rfl
theorem comp_filter {i : Nat} {c : Rho → R Bool} {f : Rho → R D} {ρ : Rho} {h : D → D} {p : D → Bool} : ∀ {ds : List D}, (∀ d ∈ ds, c (ρ.set i (some d)) = .ok (p d)) → (∀ d ∈ ds, p d = true → f (ρ.set i (some d)) = .ok (h d)) → compL (.one i) c f ρ ds = .ok ((ds.filter p).map h)
  | [], _, _ => rfl
  | d :: ds, q, r => by
    have ih := comp_filter (fun d hd => q d (List.mem_cons_of_mem _ hd)) (fun d hd => r d (List.mem_cons_of_mem _ hd))
    unfold compL
    simp only [Tg.set, R.calm, R.bind, q d List.mem_cons_self, ih]
    cases e : p d with
    | true => simp [e, r d List.mem_cons_self e, R.bind]
    | false => simp [e]
theorem for_inv {i : Nat} {F : Rho → RS} (I : Rho → Prop) : ∀ {ds : List D} {ρ : Rho}, I ρ → (∀ d ∈ ds, ∀ ρ, I ρ → ∃ ρ', (F (ρ.set i (some d)) = .nx ρ' ∨ F (ρ.set i (some d)) = .ct ρ') ∧ I ρ') → ∃ ρ', forL (.one i) F ds ρ = .nx ρ' ∧ I ρ'
  | [], ρ, h, _ => ⟨ρ, rfl, h⟩
  | d :: ds, ρ, h, q => by
    obtain ⟨ρ', e, h'⟩ := q d List.mem_cons_self ρ h
    obtain ⟨ρ2, e2, h2⟩ := for_inv I h' fun d hd => q d (List.mem_cons_of_mem _ hd)
    refine ⟨ρ2, ?_, h2⟩
    unfold forL
    simp only [Tg.set, R.calm, RS.bind]
    rcases e with e | e <;> rw [e] <;> exact e2
/-- a loop that changes one part of the state, told by st -/
theorem for_fold {α : Type} {i : Nat} {F : Rho → RS} (st : α → Option D → Rho) (step : α → D → α) (ok : α → Prop) (hs : ∀ a o d, (st a o).set i (some d) = st a (some d)) :
    ∀ {ds : List D} {a : α} {o : Option D}, ok a → (∀ d ∈ ds, ∀ a, ok a → F (st a (some d)) = .nx (st (step a d) (some d)) ∧ ok (step a d)) → ∃ o', forL (.one i) F ds (st a o) = .nx (st (ds.foldl step a) o')
  | [], a, o, _, _ => ⟨o, rfl⟩
  | d :: ds, a, o, h, q => by
    obtain ⟨e, h'⟩ := q d List.mem_cons_self a h
    obtain ⟨o2, e2⟩ := for_fold (F := F) st step ok hs (o := some d) h' fun d hd => q d (List.mem_cons_of_mem _ hd)
    refine ⟨o2, ?_⟩
    unfold forL
    simp only [Tg.set, R.calm, RS.bind, hs]
    rw [e]
    exact e2
@[simp] theorem forS_ap (g) (t F) (ρ : Rho) : forS g t F ρ = RS.bind (g ρ) fun ds => forL t F ds ρ := rfl
/-! ### operators -/
@[simp] theorem addD_int (i j : Int) : addD (.int i) (.int j) = some (.int (i + j)) := rfl
@[simp] theorem subD_int (i j : Int) : subD (.int i) (.int j) = some (.int (i - j)) := rfl
@[simp] theorem ltD_int (i j : Int) : ltD (.int i) (.int j) = some (.bl (decide (i < j))) := rfl
@[simp] theorem leD_int (i j : Int) : leD (.int i) (.int j) = some (.bl (decide (i ≤ j))) := rfl
@[simp] theorem gtD_int (i j : Int) : gtD (.int i) (.int j) = some (.bl (decide (j < i))) := rfl
@[simp] theorem geD_int (i j : Int) : geD (.int i) (.int j) = some (.bl (decide (j ≤ i))) := rfl
@[simp] theorem negD_int (i : Int) : negD (.int i) = some (.int (-i)) := rfl
theorem modD_int (i j : Int) (h : 0 < j) : modD (.int i) (.int j) = some (.int (i % j)) := if_pos h
theorem divD_int (i j : Int) (h : 0 < j ∧ j.natAbs.log2 < 9000) : divD (.int i) (.int j) = some (.int (i / j)) := if_pos h
theorem mulRD_int (i j : Int) (h : -(2 ^ 64) < j ∧ j < 2 ^ 64) : mulRD (.int i) (.int j) = some (.int (i * j)) := if_pos h
theorem mulD_int (i j : Int) (h : i.natAbs.log2 + j.natAbs.log2 < 1000000) : mulD (.int i) (.int j) = some (.int (i * j)) := if_pos h
theorem log2_small {n k : Nat} (h : n < 2 ^ k) (hk : 0 < k) : n.log2 < k := by
  by_cases q : n = 0
  · subst q
    simpa using hk
  · exact (Nat.log2_lt q).mpr h
@[simp] theorem eqv_int (i j : Int) : eqv (.int i) (.int j) = (i == j) := by unfold eqv toPy; simp [PyData.eqv]
@[simp] theorem eqv_str (i j : Str) : eqv (.str i) (.str j) = (i == j) := by unfold eqv toPy; simp [PyData.eqv]
@[simp] theorem okD_int (i : Int) : okD (.int i) = true := rfl
@[simp] theorem okD_str (i : Str) : okD (.str i) = true := rfl
@[simp] theorem okD_bl (i : Bool) : okD (.bl i) = true := rfl
@[simp] theorem eqD_int (i j : Int) : eqD (.int i) (.int j) = some (.bl (i == j)) := by unfold eqD; simp
@[simp] theorem neD_int (i j : Int) : neD (.int i) (.int j) = some (.bl (!(i == j))) := by unfold neD; simp
@[simp] theorem eqD_str (i j : Str) : eqD (.str i) (.str j) = some (.bl (i == j)) := by unfold eqD; simp
@[simp] theorem neD_str (i j : Str) : neD (.str i) (.str j) = some (.bl (!(i == j))) := by unfold neD; simp
end BV
namespace BV
open PySem PySem.Spec PyProof.Rows L2
/-! ### the drawn numbers -/
def dr (c k : Int) : Int :=
  let a := (c * 6364136223846793005 + (k + 1) * 1442695040888963407) % 340282366920938463463374607431768211507
  let b := a * a % 340282366920938463463374607431768211297
  let e := (b % 18446744073709551557 + 1) * (b / 18446744073709551557 + 1) * b
  e % 340282366920938463463374607431768211507
theorem log_le {i : Int} {k : Nat} (h0 : 0 ≤ i) (h : i < 2 ^ k) (hk : 0 < k) : i.natAbs.log2 < k := by
  refine log2_small ?_ hk
  have : (i.natAbs : Int) = i := Int.natAbs_of_nonneg h0
  have h2 : (i.natAbs : Int) < ((2 ^ k : Nat) : Int) := by
    rw [this]
    simpa using h
  exact_mod_cast h2
theorem dr_nonneg (c k : Int) : 0 ≤ dr c k := Int.emod_nonneg _ (by decide)
theorem atI_nat {α : Type} {xs : List α} {i : Int} (h0 : 0 ≤ i) (h1 : i < xs.length) : ∃ y, atI xs i = some y ∧ xs[i.toNat]? = some y := by
  have hj : i.toNat < xs.length := by omega
  refine ⟨xs[i.toNat], ?_, List.getElem?_eq_getElem hj⟩
  unfold atI L2.ixN
  rw [if_pos h0, if_pos h1]
  exact List.getElem?_eq_getElem hj
theorem eqD_scr_nil (ns : List Int) : eqD (.scr ns) (.lst []) = some (.bl ns.isEmpty) := by
  unfold eqD
  have e : eqv (.scr ns) (.lst []) = ns.isEmpty := by
    unfold eqv toPy toPyL
    cases ns <;> simp [PyData.eqv, PyData.eqvAll]
  rw [e]
  rfl
def okc (c : Nat) : Prop := 32 ≤ c ∧ c ≤ 126 ∧ c ≠ 37
instance (c : Nat) : Decidable (okc c) := by unfold okc; infer_instance
def okS (x : Str) : Prop := x.length ≤ 20 ∧ ∀ c ∈ x.cps.toList, okc c
def OkV : Nat → D → Prop
  | _, .int n => n.natAbs ≤ 999999
  | _, .str x => okS x
  | n + 1, .tup ds => ds.length ≤ 6 ∧ ∀ d ∈ ds, OkV n d
  | _, _ => False
theorem comp_ex {i : Nat} {f : Rho → R D} {ρ : Rho} {P : D → Prop} : ∀ {ds : List D}, (∀ d ∈ ds, ∃ y, f (ρ.set i (some d)) = .ok y ∧ P y) → ∃ ys, compL (.one i) yesE f ρ ds = .ok ys ∧ ys.length = ds.length ∧ ∀ y ∈ ys, P y
  | [], _ => ⟨[], rfl, rfl, fun y hy => (nomatch hy)⟩
  | d :: ds, q => by
    obtain ⟨y, h1, h2⟩ := q d List.mem_cons_self
    obtain ⟨ys, h3, h4, h5⟩ := comp_ex fun d hd => q d (List.mem_cons_of_mem _ hd)
    refine ⟨y :: ys, ?_, by simp [h4], fun z hz => ?_⟩
    · unfold compL
      simp only [Tg.set, R.calm, R.bind, yesE, if_pos, h1, h3]
    · rcases List.mem_cons.mp hz with rfl | hz
      · exact h2
      · exact h5 z hz
theorem rng_ok {n : Nat} (h : n ≤ 1000000) : rngD [.int n] = .ok (upto n) := by
  show (if (n : Int) ≤ 16777216 ∧ -16777216 ≤ (n : Int) then R.ok (upto (n : Int).toNat) else R.stuck) = _
  rw [if_pos (by omega)]
  rfl
theorem upto_mem {n : Nat} {d : D} (h : d ∈ upto n) : ∃ i : Nat, i < n ∧ d = .int i := by
  unfold upto at h
  obtain ⟨i, h1, rfl⟩ := List.mem_map.mp h
  exact ⟨i, List.mem_range.mp h1, rfl⟩
theorem upto_len (n : Nat) : (upto n).length = n := by simp [upto]
theorem join_signs : ∀ (ys : List Str), (∀ y ∈ ys, y.length = 1 ∧ ∀ c ∈ y.cps.toList, okc c) → (Str.join Str.empty ys).length = ys.length ∧ ∀ c ∈ (Str.join Str.empty ys).cps.toList, okc c
  | [], _ => ⟨rfl, fun c hc => (nomatch hc)⟩
  | [y], h => ⟨(h y (by simp)).1, (h y (by simp)).2⟩
  | y :: z :: r, h => by
    obtain ⟨h1, h2⟩ := h y (by simp)
    obtain ⟨h3, h4⟩ := join_signs (z :: r) fun w hw => h w (List.mem_cons_of_mem _ hw)
    have e : Str.join Str.empty (y :: z :: r) = y ++ Str.empty ++ Str.join Str.empty (z :: r) := rfl
    have ec : (Str.join Str.empty (y :: z :: r)).cps.toList = y.cps.toList ++ (Str.join Str.empty (z :: r)).cps.toList := by
      rw [e]
      show ((y.cps ++ #[]) ++ (Str.join Str.empty (z :: r)).cps).toList = _
      simp
    constructor
    · show (Str.join Str.empty (y :: z :: r)).cps.size = _
      rw [← Array.length_toList, ec, List.length_append]
      have h1 : y.cps.toList.length = 1 := h1
      have h3 : (Str.join Str.empty (z :: r)).cps.toList.length = (z :: r).length := h3
      rw [h1, h3]
      simp
      omega
    · intro c hc
      rw [ec] at hc
      rcases List.mem_append.mp hc with hc | hc
      · exact h2 c hc
      · exact h4 c hc
theorem strs_of : ∀ {ds : List D}, (∀ d ∈ ds, ∃ c, d = .str ⟨#[c]⟩ ∧ okc c) → ∃ ys, strsOf ds = some ys ∧ ys.length = ds.length ∧ ∀ y ∈ ys, y.length = 1 ∧ ∀ c ∈ y.cps.toList, okc c
  | [], _ => ⟨[], rfl, rfl, fun y hy => (nomatch hy)⟩
  | d :: ds, h => by
    obtain ⟨c, rfl, hc⟩ := h d List.mem_cons_self
    obtain ⟨ys, h1, h2, h3⟩ := strs_of fun d hd => h d (List.mem_cons_of_mem _ hd)
    refine ⟨⟨#[c]⟩ :: ys, by simp [strsOf, h1], by simp [h2], fun y hy => ?_⟩
    rcases List.mem_cons.mp hy with rfl | hy
    · refine ⟨rfl, fun c' hc' => ?_⟩
      have : c' ∈ [c] := hc'
      rw [List.mem_singleton.mp this]
      exact hc
    · exact h3 y hy
theorem sum_ones : ∀ {ys : List Str}, (∀ y ∈ ys, y.length = 1 ∧ ∀ c ∈ y.cps.toList, okc c) → (ys.map (·.length)).sum = ys.length
  | [], _ => rfl
  | y :: ys, h => by
    have := sum_ones fun z hz => h z (List.mem_cons_of_mem _ hz)
    simp [this, (h y List.mem_cons_self).1]
    omega
theorem join_all {ds : List D} (h : ∀ d ∈ ds, ∃ c, d = .str ⟨#[c]⟩ ∧ okc c) (hl : ds.length ≤ 20) : ∃ x, joinD Str.empty (.lst ds) = some (.str x) ∧ okS x := by
  obtain ⟨ys, h1, h2, h3⟩ := strs_of h
  obtain ⟨h4, h5⟩ := join_signs ys h3
  refine ⟨Str.join Str.empty ys, ?_, by rw [h4]; omega, h5⟩
  show (strsOf ds).bind _ = _
  rw [h1]
  show (if _ then _ else _) = _
  rw [if_pos]
  rw [sum_ones h3]
  have : Str.empty.length = 0 := rfl
  rw [this]
  omega
def sg : Str := " !#$&'()*+,-./0123456789:;<=>?@ABCDEFGHIJKLMNOPQRSTUVWXYZ[\\]^_`abcdefghijklmnopqrstuvwxyz{|}~"
theorem sg_ok : ∀ c ∈ sg.cps.toList, okc c := by decide +kernel
theorem sg_len : sg.length = 93 := by kernel_rfl
theorem ab_ok : ∀ c ∈ ("ab" : Str).cps.toList, okc c := by decide +kernel
theorem ab_len : ("ab" : Str).length = 2 := by kernel_rfl
theorem ix_str {x : Str} {i : Int} (h0 : 0 ≤ i) (h1 : i < x.length) (hx : ∀ c ∈ x.cps.toList, okc c) : ∃ c, ixD (.str x) (.int i) = some (.str ⟨#[c]⟩) ∧ okc c := by
  obtain ⟨y, h2, h3⟩ := atI_nat (xs := x.cps.toList) h0 h1
  refine ⟨y, ?_, hx y (List.mem_of_getElem? h3)⟩
  unfold ixD
  simp only [h2, Option.map]
theorem mod_cases (x : Int) {n : Nat} (hn : 0 < n) : ∃ i : Nat, i < n ∧ x % (n : Int) = i := by
  have h0 := Int.emod_nonneg x (b := (n : Int)) (by omega)
  have h1 := Int.emod_lt_of_pos x (b := (n : Int)) (by omega)
  exact ⟨(x % n).toNat, by omega, by omega⟩
theorem lg16 : (16 : Int).natAbs.log2 < 9000 := by decide +kernel
theorem lg8 : (8 : Int).natAbs.log2 < 9000 := by decide +kernel
theorem lg4 : (4 : Int).natAbs.log2 < 9000 := by decide +kernel
theorem lg2 : (2 : Int).natAbs.log2 < 9000 := by decide +kernel
theorem ix_lst {ds : List D} {i : Nat} {d : D} (h : ds[i]? = some d) : ixD (.lst ds) (.int (i : Int)) = some d := by
  have hi : i < ds.length := (List.getElem?_eq_some_iff.mp h).1
  obtain ⟨y, h1, h2⟩ := atI_nat (xs := ds) (i := (i : Int)) (by omega) (by omega)
  rw [show ((i : Int).toNat) = i from by omega, h] at h2
  cases h2
  exact h1
theorem four (x : Int) (a b c d : D) : ∃ y, ixD (.lst [a, b, c, d]) (.int (x % 4)) = some y ∧ (y = a ∨ y = b ∨ y = c ∨ y = d) := by
  obtain ⟨i, hi, e⟩ := mod_cases x (n := 4) (by decide)
  have e : x % 4 = i := e
  rw [e]
  match i, hi with
  | 0, _ => exact ⟨a, ix_lst rfl, .inl rfl⟩
  | 1, _ => exact ⟨b, ix_lst rfl, .inr (.inl rfl)⟩
  | 2, _ => exact ⟨c, ix_lst rfl, .inr (.inr (.inl rfl))⟩
  | 3, _ => exact ⟨d, ix_lst rfl, .inr (.inr (.inr rfl))⟩
theorem two (x : Int) (a b : D) : ∃ y, ixD (.lst [a, b]) (.int (x % 2)) = some y ∧ (y = a ∨ y = b) := by
  obtain ⟨i, hi, e⟩ := mod_cases x (n := 2) (by decide)
  have e : x % 2 = i := e
  rw [e]
  match i, hi with
  | 0, _ => exact ⟨a, ix_lst rfl, .inl rfl⟩
  | 1, _ => exact ⟨b, ix_lst rfl, .inr rfl⟩
theorem five (x : Int) (a b c d e : D) : ∃ y, ixD (.lst [a, b, c, d, e]) (.int (x % 5)) = some y ∧ (y = a ∨ y = b ∨ y = c ∨ y = d ∨ y = e) := by
  obtain ⟨i, hi, q⟩ := mod_cases x (n := 5) (by decide)
  have q : x % 5 = i := q
  rw [q]
  match i, hi with
  | 0, _ => exact ⟨a, ix_lst rfl, .inl rfl⟩
  | 1, _ => exact ⟨b, ix_lst rfl, .inr (.inl rfl)⟩
  | 2, _ => exact ⟨c, ix_lst rfl, .inr (.inr (.inl rfl))⟩
  | 3, _ => exact ⟨d, ix_lst rfl, .inr (.inr (.inr (.inl rfl)))⟩
  | 4, _ => exact ⟨e, ix_lst rfl, .inr (.inr (.inr (.inr rfl)))⟩
theorem isi_int_str (n : Int) : isiD "str" (.int n) = some (.bl false) := by kernel_rfl
theorem isi_int_tup (n : Int) : isiD "tuple" (.int n) = some (.bl false) := by kernel_rfl
theorem isi_int_bool (n : Int) : isiD "bool" (.int n) = some (.bl false) := by kernel_rfl
theorem isi_int_int (n : Int) : isiD "int" (.int n) = some (.bl true) := by kernel_rfl
theorem isi_str_int (n : Str) : isiD "int" (.str n) = some (.bl false) := by kernel_rfl
theorem isi_str_str (n : Str) : isiD "str" (.str n) = some (.bl true) := by kernel_rfl
theorem isi_str_tup (n : Str) : isiD "tuple" (.str n) = some (.bl false) := by kernel_rfl
theorem isi_str_bool (n : Str) : isiD "bool" (.str n) = some (.bl false) := by kernel_rfl
theorem isi_tup_int (n : List D) : isiD "int" (.tup n) = some (.bl false) := by kernel_rfl
theorem isi_tup_str (n : List D) : isiD "str" (.tup n) = some (.bl false) := by kernel_rfl
theorem isi_tup_tup (n : List D) : isiD "tuple" (.tup n) = some (.bl true) := by kernel_rfl
theorem isi_tup_bool (n : List D) : isiD "bool" (.tup n) = some (.bl false) := by kernel_rfl
theorem isi_lst (n : List D) : isiD "list" (.lst n) = some (.bl true) := by kernel_rfl
theorem signs_mem {x : Str} {d : D} (h : d ∈ BV.signs x) : ∃ c ∈ x.cps.toList, d = .str ⟨#[c]⟩ := by
  unfold BV.signs at h
  obtain ⟨c, h1, rfl⟩ := List.mem_map.mp h
  exact ⟨c, h1, rfl⟩
theorem one_eq (c e : Nat) : ((⟨#[c]⟩ : Str) == ⟨#[e]⟩) = (c == e) := by
  by_cases h : c = e
  · subst h
    simp
  · have : (⟨#[c]⟩ : Str) ≠ ⟨#[e]⟩ := fun z => h (by
      have := congrArg (fun s : Str => s.cps.toList) z
      simpa using this)
    rw [beq_eq_false_iff_ne.mpr this, beq_eq_false_iff_ne.mpr h]
theorem a_str : (Str.ofString "a") = ⟨#[97]⟩ := by kernel_rfl
theorem nat_abs (n : Int) : (if n < 0 then -n else n) = (n.natAbs : Int) := by split <;> omega
/-! ### what is a value -/
theorem bls_all {ds : List D} (h : ∀ d ∈ ds, d = .bl true) : allB [.lst ds] = some (.bl true) := by
  have : ∀ {ds : List D}, (∀ d ∈ ds, d = .bl true) → ∃ bs, blsOf ds = some bs ∧ bs.all id = true := by
    intro ds
    induction ds with
    | nil => exact fun _ => ⟨[], rfl, rfl⟩
    | cons d ds ih =>
      intro h
      obtain ⟨bs, h1, h2⟩ := ih fun d hd => h d (List.mem_cons_of_mem _ hd)
      rw [h d List.mem_cons_self]
      exact ⟨true :: bs, by simp [blsOf, h1], by simp [h2]⟩
  obtain ⟨bs, h1, h2⟩ := this h
  show (blsOf ds).map _ = _
  rw [h1]
  show some (D.bl (bs.all id)) = _
  rw [h2]
theorem lit_sp : (Str.ofString " ") = ⟨#[32]⟩ := by kernel_rfl
theorem lit_ti : (Str.ofString "~") = ⟨#[126]⟩ := by kernel_rfl
theorem le_one (c e : Nat) : leD (.str ⟨#[c]⟩) (.str ⟨#[e]⟩) = some (.bl (decide (c ≤ e))) := by
  unfold leD
  have : decide (([e] : List Nat) < [c]) = decide (e < c) := by
    by_cases h : e < c
    · rw [decide_eq_true h, decide_eq_true_eq, List.cons_lt_cons_iff]
      exact .inl h
    · rw [decide_eq_false h, decide_eq_false_iff_not, List.cons_lt_cons_iff]
      rintro (h2 | ⟨_, h2⟩)
      · exact h h2
      · exact absurd h2 (List.not_lt_nil _)
  show some (D.bl (!decide (([e] : List Nat) < [c]))) = _
  rw [this]
  by_cases h : e < c
  · rw [decide_eq_true h, decide_eq_false (by omega)]
    rfl
  · rw [decide_eq_false h, decide_eq_true (by omega)]
    rfl
theorem chnE_ap (g g' fa fb fc) (ρ : Rho) : chnE g g' fa fb fc ρ = (fa ρ).bind fun a => (fb ρ).bind fun b => (R.of (g a b)).bind fun t => t.asB.bind fun c => if c = true then (fc ρ).bind fun z => R.of (g' b z) else .ok (.bl false) := rfl
/-! ### one place less, one place changed -/
def er {α : Type} (l : List α) (i : Nat) : List α := l.take i ++ l.drop (i + 1)
def st {α : Type} (l : List α) (i : Nat) (c : α) : List α := (l.take i ++ [c]) ++ l.drop (i + 1)
def ofL (l : List Nat) : Str := ⟨l.toArray⟩
def erS (x : Str) (i : Nat) : Str := ofL (er x.cps.toList i)
def stS (x : Str) (i : Nat) : Str := ofL (st x.cps.toList i 97)
def okE (d : D) : Prop := plain d = true ∧ dep d ≤ 10
theorem plainL_of : ∀ {ds : List D}, (∀ d ∈ ds, plain d = true) → plainL ds = true
  | [], _ => rfl
  | d :: ds, h => by
    unfold plainL
    rw [h d List.mem_cons_self, plainL_of fun d hd => h d (List.mem_cons_of_mem _ hd)]
    rfl
theorem depL_of {k : Nat} : ∀ {ds : List D}, (∀ d ∈ ds, dep d ≤ k) → depL ds ≤ k
  | [], _ => Nat.zero_le _
  | d :: ds, h => by
    unfold depL
    exact Nat.max_le.mpr ⟨h d List.mem_cons_self, depL_of fun d hd => h d (List.mem_cons_of_mem _ hd)⟩
theorem okD_of {d : D} (h : okE d) : okD d = true := by
  unfold okD
  rw [h.1, decide_eq_true (by have := h.2; omega)]
  rfl
theorem okD_lst {ds : List D} (h : ∀ d ∈ ds, okE d) : okD (.lst ds) = true := by
  unfold okD
  have h1 : plain (.lst ds) = true := plainL_of fun d hd => (h d hd).1
  have h2 : dep (.lst ds) ≤ 11 := Nat.succ_le_succ (depL_of fun d hd => (h d hd).2)
  rw [h1, decide_eq_true (by omega)]
  rfl
theorem succ_int (i : Nat) : ((i : Int) + 1) = ((i + 1 : Nat) : Int) := by omega
theorem cutL_pre {α : Type} (l : List α) (i : Nat) : cutL l none (some (i : Int)) = l.take i := by
  unfold cutL
  rw [HT.sIx_none, HT.sIx_nat, List.drop_zero, Nat.sub_zero, ← List.take_take, List.take_length]
theorem cutL_post {α : Type} (l : List α) (i : Nat) : cutL l (some (i : Int)) none = l.drop i := by
  unfold cutL
  rw [HT.sIx_none, HT.sIx_nat]
  by_cases h : i ≤ l.length
  · rw [Nat.min_eq_left h, List.take_of_length_le (by simp)]
  · rw [Nat.min_eq_right (by omega), List.drop_of_length_le (by omega), List.drop_of_length_le (by omega)]
    simp
theorem cutS_cutL (x : Str) (lo hi : Option Int) : cutS x lo hi = ofL (cutL x.cps.toList lo hi) := rfl
theorem app_ofL (a b : List Nat) : ofL a ++ ofL b = ofL (a ++ b) := by
  show (⟨a.toArray ++ b.toArray⟩ : Str) = ⟨(a ++ b).toArray⟩
  simp
theorem ofL_len (a : List Nat) : (ofL a).length = a.length := rfl
theorem addD_ofL (a b : List Nat) (h : a.length + b.length ≤ 1000) : addD (.str (ofL a)) (.str (ofL b)) = some (.str (ofL (a ++ b))) := by
  show (if (ofL a).length + (ofL b).length ≤ sizeLine then some (D.str (ofL a ++ ofL b)) else none) = _
  rw [if_pos (by rw [ofL_len, ofL_len, sizeLine_eq]; omega), app_ofL]
theorem addD_tup (a b : List D) (h : a.length + b.length ≤ 1000) : addD (.tup a) (.tup b) = some (.tup (a ++ b)) := by
  show (if a.length + b.length ≤ sizeLine then some (D.tup (a ++ b)) else none) = _
  rw [if_pos (by rw [sizeLine_eq]; omega)]
theorem a_ofL : Str.ofString "a" = ofL [97] := by kernel_rfl
theorem ofL_toL (l : List Nat) : (ofL l).cps.toList = l := by unfold ofL; simp
theorem get_of {α : Type} {l : List α} {i : Nat} (h : i < l.length) : ∃ c, l[i]? = some c ∧ c ∈ l := ⟨l[i], List.getElem?_eq_getElem h, List.getElem_mem h⟩
theorem ix_chr {x : Str} {i c : Nat} (h : x.cps.toList[i]? = some c) : ixD (.str x) (.int (i : Int)) = some (.str ⟨#[c]⟩) := by
  have hi : i < x.cps.toList.length := (List.getElem?_eq_some_iff.mp h).1
  obtain ⟨y, h1, h2⟩ := atI_nat (xs := x.cps.toList) (i := (i : Int)) (by omega) (by omega)
  rw [show ((i : Int).toNat) = i from by omega, h] at h2
  cases h2
  simp only [ixD, h1, Option.map]
theorem ix_tup {ds : List D} {i : Nat} {c : D} (h : ds[i]? = some c) : ixD (.tup ds) (.int (i : Int)) = some c := by
  have hi : i < ds.length := (List.getElem?_eq_some_iff.mp h).1
  obtain ⟨y, h1, h2⟩ := atI_nat (xs := ds) (i := (i : Int)) (by omega) (by omega)
  rw [show ((i : Int).toNat) = i from by omega, h] at h2
  cases h2
  exact h1
theorem er_len {α : Type} {l : List α} {i : Nat} (h : i < l.length) : (er l i).length + 1 = l.length := by
  unfold er
  simp
  omega
theorem st_len {α : Type} {l : List α} {i : Nat} {c : α} (h : i < l.length) : (st l i c).length = l.length := by
  unfold st
  simp
  omega
theorem er_mem {α : Type} {l : List α} {i : Nat} {c : α} (h : c ∈ er l i) : c ∈ l := by
  unfold er at h
  rcases List.mem_append.mp h with h | h
  · exact List.mem_of_mem_take h
  · exact List.mem_of_mem_drop h
theorem st_mem {α : Type} {l : List α} {i : Nat} {c d : α} (h : c ∈ st l i d) : c ∈ l ∨ c = d := by
  unfold st at h
  rcases List.mem_append.mp h with h | h
  · rcases List.mem_append.mp h with h | h
    · exact .inl (List.mem_of_mem_take h)
    · exact .inr (List.mem_singleton.mp h)
  · exact .inl (List.mem_of_mem_drop h)
theorem okE_of : ∀ (deep : Nat) (d : D), deep ≤ 3 → OkV deep d → okE d := by
  have h : ∀ (deep : Nat) (d : D), OkV deep d → plain d = true ∧ dep d ≤ deep := by
    intro deep
    induction deep with
    | zero =>
      intro d hd
      cases d with
      | int n => exact ⟨rfl, Nat.zero_le _⟩
      | str x => exact ⟨rfl, Nat.zero_le _⟩
      | _ => exact hd.elim
    | succ deep ih =>
      intro d hd
      cases d with
      | int n => exact ⟨rfl, Nat.zero_le _⟩
      | str x => exact ⟨rfl, Nat.zero_le _⟩
      | tup ds => exact ⟨plainL_of fun z hz => (ih z (hd.2 z hz)).1, Nat.succ_le_succ (depL_of fun z hz => (ih z (hd.2 z hz)).2)⟩
      | _ => exact hd.elim
  exact fun deep d hdp hd => ⟨(h deep d hd).1, by have := (h deep d hd).2; omega⟩
theorem eqvAll_self : ∀ {ds : List D}, (∀ d ∈ ds, eqv d d = true) → PyData.eqvAll (toPyL ds) (toPyL ds) = true
  | [], _ => by simp [toPyL, PyData.eqvAll]
  | d :: ds, h => by
    have h1 : PyData.eqv (toPy d) (toPy d) = true := h d List.mem_cons_self
    have h2 := eqvAll_self fun z hz => h z (List.mem_cons_of_mem _ hz)
    unfold toPyL PyData.eqvAll
    rw [h1, h2]
    rfl
theorem eqv_self : ∀ (deep : Nat) (d : D), OkV deep d → eqv d d = true := by
  intro deep
  induction deep with
  | zero =>
    intro d hd
    cases d with
    | int n => rw [eqv_int]; simp
    | str x => rw [eqv_str]; simp
    | _ => exact hd.elim
  | succ deep ih =>
    intro d hd
    cases d with
    | int n => rw [eqv_int]; simp
    | str x => rw [eqv_str]; simp
    | tup ds =>
      have := eqvAll_self fun z hz => ih z (hd.2 z hz)
      unfold eqv toPy PyData.eqv
      exact this
    | _ => exact hd.elim
theorem ne_bl (a b : Bool) : neD (.bl a) (.bl b) = some (.bl (!(a == b))) := by
  have e : eqv (.bl a) (.bl b) = (a == b) := by unfold eqv toPy; simp [PyData.eqv]
  simp only [neD, e, okD_bl, Bool.and_self, if_pos]
/-! ### a value bent is a value -/
theorem okv_int (deep : Nat) {n : Int} (h : n.natAbs ≤ 999999) : OkV deep (.int n) := by cases deep <;> exact h
theorem okv_str (deep : Nat) {x : Str} (h : okS x) : OkV deep (.str x) := by cases deep <;> exact h
theorem b_ofL : Str.ofString "b" = ofL [98] := by kernel_rfl
theorem bz_ofL : Str.ofString "bz" = ofL [98, 122] := by kernel_rfl
theorem okS_ofL {l : List Nat} (h1 : l.length ≤ 20) (h2 : ∀ c ∈ l, okc c) : okS (ofL l) := ⟨h1, fun c hc => h2 c (by rw [ofL_toL] at hc; exact hc)⟩
theorem okS_a : okS (Str.ofString "a") := by
  rw [a_ofL]
  exact okS_ofL (by decide) (by decide)
theorem lg5 : (5 : Int).natAbs.log2 < 9000 := by decide +kernel
theorem lg64 : (64 : Int).natAbs.log2 < 9000 := by decide +kernel
theorem okc_take {l : List Nat} (h : ∀ c ∈ l, okc c) (k : Nat) : ∀ c ∈ l.take k, okc c := fun c hc => h c (List.mem_of_mem_take hc)
theorem toL_ofL (x : Str) : ofL x.cps.toList = x := by
  obtain ⟨a⟩ := x
  unfold ofL
  simp
theorem el_strG {x : Str} {i : Nat} (hx : x.length ≤ 20) (o1 : Option D) (r : Rho) : opE addD (slcE sliD (varE 0) nonO (somO (varE 2))) (slcE sliD (varE 0) (somO (opE addD (varE 2) (conE (.int 1)))) nonO) (some (.str x) :: o1 :: some (.int i) :: r) = .ok (.str (erS x i)) := by
  have hx : x.cps.size ≤ 20 := hx
  simp only [runF_ap, List.map, List.length, List.replicate, List.append, List.cons_append, List.nil_append, seqS_ap, setS_ap, ifS_ap, ifE_ap, orT_ap, andT_ap, notT_ap, tstE_ap, opE_ap, unE_ap, varE_0, varE_s, conE_ap, R.of, R.op2_ok, R.set_ok, List.set, RS.seq_nx, RS.seq_rt, RS.seq_exc, R.bind, RS.bind, bind_asB_bl, lstE_ap, tupE_ap, consE_ap, nilE_ap, R.cons_ok, appE_ap, calE_ap, retS_ap, nxS_ap, out_rt, out_nx, out_exc, RS.ite_tt, RS.ite_ff, R.ite_tt, R.ite_ff, okT_ap, okF_ap, dT_ap, dF_ap, andE_ap, orE_ap, notE_ap, notR_ok, nbl_ok, compE_ap, itE_ap, rngE_ap, D.iter, wipeR, slcE_ap, somO_ap, nonO_ap, asI_int, asS_str, joinE_ap, addD_int, subD_int, ltD_int, leD_int, gtD_int, geD_int, negD_int, eqD_int, neD_int, eqD_str, neD_str, excS_ap, forS_ap, ownL_0, ownL_s, appS_ap, decide_true, decide_false, Bool.not_true, Bool.not_false, sliD, cutS_cutL, succ_int, cutL_pre, cutL_post]
  rw [addD_ofL _ _ (by simp; omega)]
  rfl
theorem okS_er {x : Str} {i : Nat} (hx : okS x) (hi : i < x.cps.toList.length) : okS (erS x i) := by
  have h1 := er_len hi
  have h2 : x.cps.toList.length ≤ 20 := hx.1
  exact okS_ofL (by omega) fun c hc => hx.2 c (er_mem hc)
theorem el_tupG {ds : List D} {i : Nat} (hx : ds.length ≤ 6) (o1 : Option D) (r : Rho) : opE addD (slcE sliD (varE 0) nonO (somO (varE 2))) (slcE sliD (varE 0) (somO (opE addD (varE 2) (conE (.int 1)))) nonO) (some (.tup ds) :: o1 :: some (.int i) :: r) = .ok (.tup (er ds i)) := by
  simp only [runF_ap, List.map, List.length, List.replicate, List.append, List.cons_append, List.nil_append, seqS_ap, setS_ap, ifS_ap, ifE_ap, orT_ap, andT_ap, notT_ap, tstE_ap, opE_ap, unE_ap, varE_0, varE_s, conE_ap, R.of, R.op2_ok, R.set_ok, List.set, RS.seq_nx, RS.seq_rt, RS.seq_exc, R.bind, RS.bind, bind_asB_bl, lstE_ap, tupE_ap, consE_ap, nilE_ap, R.cons_ok, appE_ap, calE_ap, retS_ap, nxS_ap, out_rt, out_nx, out_exc, RS.ite_tt, RS.ite_ff, R.ite_tt, R.ite_ff, okT_ap, okF_ap, dT_ap, dF_ap, andE_ap, orE_ap, notE_ap, notR_ok, nbl_ok, compE_ap, itE_ap, rngE_ap, D.iter, wipeR, slcE_ap, somO_ap, nonO_ap, asI_int, asS_str, joinE_ap, addD_int, subD_int, ltD_int, leD_int, gtD_int, geD_int, negD_int, eqD_int, neD_int, eqD_str, neD_str, excS_ap, forS_ap, ownL_0, ownL_s, appS_ap, decide_true, decide_false, Bool.not_true, Bool.not_false, sliD, succ_int, cutL_pre, cutL_post]
  rw [addD_tup _ _ (by simp; omega)]
  rfl
/-! ### the first place where two are unlike -/
def prt : D → List D
  | .str x => x.cps.toList.map fun c => .str ⟨#[c]⟩
  | .tup ds => ds
  | _ => []
def uix : List D → List D → Nat
  | a :: as, b :: bs => if eqv a b = true then uix as bs + 1 else 0
  | _, _ => 0
theorem uix_le : ∀ as bs : List D, uix as bs ≤ min as.length bs.length
  | a :: as, b :: bs => by
    unfold uix
    have := uix_le as bs
    split
    · simp only [List.length_cons]
      omega
    · omega
  | [], _ => by simp [uix]
  | _ :: _, [] => by simp [uix]
theorem uix_comm : ∀ as bs : List D, uix as bs = uix bs as
  | a :: as, b :: bs => by
    unfold uix
    have : eqv a b = eqv b a := PySem.W.eqv_comm _ _
    rw [this, uix_comm as bs]
  | [], [] => rfl
  | [], _ :: _ => rfl
  | _ :: _, [] => rfl
/-- seen at a place: below it all alike; there, unlike, or one ends -/
theorem uix_drop : ∀ (as bs : List D) (i : Nat), i ≤ uix as bs → uix as bs = i + uix (as.drop i) (bs.drop i)
  | _, _, 0, _ => by simp
  | a :: as, b :: bs, i + 1, h => by
    have e0 : uix (a :: as) (b :: bs) = if eqv a b = true then uix as bs + 1 else 0 := by conv => lhs; unfold uix
    by_cases e : eqv a b = true
    · rw [if_pos e] at e0
      have := uix_drop as bs i (by omega)
      simp only [List.drop_succ_cons]
      omega
    · rw [if_neg e] at e0
      omega
  | [], _, i + 1, h => by simp [uix] at h
  | _ :: _, [], i + 1, h => by simp [uix] at h
def isPk : D → Bool
  | .str _ => true
  | .tup _ => true
  | _ => false
theorem ix_prt {v c : D} {i : Nat} (h : (prt v)[i]? = some c) : ixD v (.int (i : Int)) = some c := by
  cases v with
  | str x =>
    have h : (x.cps.toList.map fun c => D.str ⟨#[c]⟩)[i]? = some c := h
    rw [List.getElem?_map] at h
    cases q : x.cps.toList[i]? with
    | none => rw [q] at h; cases h
    | some k =>
      rw [q] at h
      cases h
      exact ix_chr q
  | tup ds => exact ix_tup h
  | _ => cases h
theorem len_prt {v : D} (h : isPk v = true) : lenB [v] = some (.int (prt v).length) := by
  cases v with
  | str x => show some (D.int _) = some (D.int _); simp [prt, PySem.Str.length]
  | tup ds => rfl
  | _ => cases h
theorem prt_okD {deep : Nat} {v d : D} (hd : deep ≤ 3) (hv : OkV deep v) (h : d ∈ prt v) : okD d = true := by
  cases v with
  | str x =>
    obtain ⟨c, _, rfl⟩ := List.mem_map.mp (show d ∈ x.cps.toList.map fun c => D.str ⟨#[c]⟩ from h)
    rfl
  | tup ds =>
    cases deep with
    | zero => exact hv.elim
    | succ n => exact okD_of (okE_of n d (by omega) (hv.2 d h))
  | _ => cases h
theorem uix_step {as bs : List D} {i : Nat} (hi : i ≤ uix as bs) : (i < uix as bs ∧ ∃ c d, as[i]? = some c ∧ bs[i]? = some d ∧ eqv c d = true) ∨ (i = uix as bs ∧ (min as.length bs.length ≤ i ∨ ∃ c d, as[i]? = some c ∧ bs[i]? = some d ∧ eqv c d = false)) := by
  have e := uix_drop as bs i hi
  have da : ∀ l : List D, l[i]? = (l.drop i)[0]? := fun l => by rw [List.getElem?_drop]; simp
  cases qa : as.drop i with
  | nil =>
    have := List.drop_eq_nil_iff.mp qa
    rw [qa] at e
    have e0 : uix [] (bs.drop i) = 0 := by simp [uix]
    rw [e0] at e
    exact .inr ⟨by omega, .inl (by omega)⟩
  | cons c as' =>
    cases qb : bs.drop i with
    | nil =>
      have := List.drop_eq_nil_iff.mp qb
      rw [qa, qb] at e
      have e0 : uix (c :: as') [] = 0 := by simp [uix]
      rw [e0] at e
      exact .inr ⟨by omega, .inl (by omega)⟩
    | cons d bs' =>
      rw [qa, qb] at e
      have e0 : uix (c :: as') (d :: bs') = if eqv c d = true then uix as' bs' + 1 else 0 := by conv => lhs; unfold uix
      have ga : as[i]? = some c := by rw [da, qa]; rfl
      have gb : bs[i]? = some d := by rw [da, qb]; rfl
      by_cases h : eqv c d = true
      · rw [if_pos h] at e0
        exact .inl ⟨by omega, c, d, ga, gb, h⟩
      · rw [if_neg h] at e0
        exact .inr ⟨by omega, .inr ⟨c, d, ga, gb, by simpa using h⟩⟩
theorem prt_len {deep : Nat} {v : D} (hv : OkV deep v) : (prt v).length ≤ 20 := by
  cases v with
  | str x =>
    have : okS x := by cases deep <;> exact hv
    simp only [prt, List.length_map]
    exact this.1
  | tup ds =>
    cases deep with
    | zero => exact hv.elim
    | succ n => exact Nat.le_trans hv.1 (by decide)
  | _ => exact Nat.zero_le _
def isSt : D → Bool
  | .str _ => true
  | _ => false
/-- where two values are unlike: the places, from without inward -/
def DF : Nat → D → D → List D
  | 0, _, _ => []
  | n + 1, a, b => if (eqv a b || !(isPk a && isPk b) || (isSt a != isSt b)) = true then [] else
      .int (uix (prt a) (prt b)) :: (if isSt a = true then [] else match (prt a)[uix (prt a) (prt b)]?, (prt b)[uix (prt a) (prt b)]? with
        | some c, some d => DF n c d
        | _, _ => [])
theorem DF_comm : ∀ (n : Nat) (a b : D), DF n a b = DF n b a
  | 0, _, _ => rfl
  | n + 1, a, b => by
    unfold DF
    have e1 : eqv a b = eqv b a := PySem.W.eqv_comm _ _
    have e2 := uix_comm (prt a) (prt b)
    rw [e1, e2, Bool.and_comm (isPk a), show (isSt a != isSt b) = (isSt b != isSt a) by cases isSt a <;> cases isSt b <;> rfl]
    split
    · rfl
    · rename_i h
      have h3 : isSt a = isSt b := by
        cases q : isSt a <;> cases q2 : isSt b <;> simp_all
      rw [h3]
      congr 1
      split
      · rfl
      · cases (prt a)[uix (prt b) (prt a)]? with
        | none => cases (prt b)[uix (prt b) (prt a)]? <;> rfl
        | some c =>
          cases (prt b)[uix (prt b) (prt a)]? with
          | none => rfl
          | some d => exact DF_comm n c d
theorem eqD_of {a b : D} (ha : okD a = true) (hb : okD b = true) : eqD a b = some (.bl (eqv a b)) := by
  simp only [eqD, ha, hb, Bool.and_self, if_pos]
theorem okD_v {deep : Nat} {v : D} (hd : deep ≤ 3) (hv : OkV deep v) : okD v = true := okD_of (okE_of deep v hd hv)
theorem isi_int_v {deep : Nat} {v : D} (hv : OkV deep v) : isiD "int" v = some (.bl (!isPk v)) := by
  cases v with
  | int n => exact isi_int_int n
  | str x => exact isi_str_int x
  | tup ds => exact isi_tup_int ds
  | _ => cases deep <;> exact hv.elim
theorem isi_str_v {deep : Nat} {v : D} (hv : OkV deep v) : isiD "str" v = some (.bl (isSt v)) := by
  cases v with
  | int n => exact isi_int_str n
  | str x => exact isi_str_str x
  | tup ds => exact isi_tup_str ds
  | _ => cases deep <;> exact hv.elim
theorem isi_tup_all (ds : List D) : isiD "tuple" (.tup ds) = some (.bl true) := isi_tup_tup ds
theorem DF_len : ∀ (n : Nat) (a b : D), (DF n a b).length ≤ n
  | 0, _, _ => Nat.le_refl _
  | n + 1, a, b => by
    unfold DF
    split
    · exact Nat.zero_le _
    · simp only [List.length_cons]
      have : ∀ l : List D, l.length ≤ n → l.length + 1 ≤ n + 1 := fun l h => by omega
      apply this
      split
      · exact Nat.zero_le _
      · split
        · exact DF_len n _ _
        · exact Nat.zero_le _
theorem hmin (n l : Nat) : (if (l : Int) < (n : Int) then (l : Int) else (n : Int)) = ((min n l : Nat) : Int) := by
  split <;> omega
theorem hmax (n l : Nat) : (if (l : Int) > (n : Int) then (l : Int) else (n : Int)) = ((max n l : Nat) : Int) := by
  split <;> omega
theorem isSt_pk {v : D} (h : isSt v = true) : isPk v = true := by
  cases v <;> first | rfl | cases h
theorem tup_of {deep : Nat} {v : D} (hv : OkV deep v) (h1 : isPk v = true) (h2 : isSt v = false) : ∃ dp ds, deep = dp + 1 ∧ v = .tup ds ∧ ∀ d ∈ ds, OkV dp d := by
  cases v with
  | tup ds =>
    cases deep with
    | zero => exact hv.elim
    | succ dp => exact ⟨dp, ds, rfl, rfl, hv.2⟩
  | str x => cases h2
  | _ => cases h1
/-! ### one place cut out -/
def sl : D → Nat → D
  | .str x, i => .str (ofL ((x.cps.toList.drop i).take 1))
  | .tup ds, i => .tup ((ds.drop i).take 1)
  | d, _ => d
theorem cutL_one {α : Type} (l : List α) (i : Nat) : cutL l (some (i : Int)) (some ((i + 1 : Nat) : Int)) = (l.drop i).take 1 := by
  unfold cutL
  rw [HT.sIx_nat, HT.sIx_nat]
  by_cases h : i < l.length
  · rw [Nat.min_eq_left (by omega), Nat.min_eq_left (by omega)]
    congr 1
    omega
  · rw [Nat.min_eq_right (by omega), Nat.min_eq_right (by omega), List.drop_of_length_le (Nat.le_refl _), List.drop_of_length_le (show l.length ≤ i by omega)]
    simp
theorem sl_ok {v : D} (h : isPk v = true) (i : Nat) : sliD v (some (i : Int)) (some ((i + 1 : Nat) : Int)) = some (sl v i) := by
  cases v with
  | str x => simp only [sliD, cutS_cutL, cutL_one, sl]
  | tup ds => simp only [sliD, cutL_one, sl]
  | _ => cases h
theorem sl_v {deep : Nat} {v : D} (h : OkV deep v) (i : Nat) : OkV deep (sl v i) := by
  cases v with
  | str x =>
    have hx : okS x := by cases deep <;> exact h
    exact okv_str deep (okS_ofL (by simp; omega) fun c hc => hx.2 c (List.mem_of_mem_drop (List.mem_of_mem_take hc)))
  | tup ds =>
    cases deep with
    | zero => exact h.elim
    | succ n => exact ⟨by simp; omega, fun d hd => h.2 d (List.mem_of_mem_drop (List.mem_of_mem_take hd))⟩
  | int _ => exact h
  | _ => cases deep <;> exact h.elim
theorem str_ofL_eq (a b : List Nat) : ((ofL a) == (ofL b)) = (a == b) := by
  by_cases h : a = b
  · subst h
    simp
  · have : ofL a ≠ ofL b := fun z => h (by rw [← ofL_toL a, ← ofL_toL b, z])
    rw [beq_eq_false_iff_ne.mpr this, beq_eq_false_iff_ne.mpr h]
theorem take1 {α : Type} (l : List α) (i : Nat) : (l.drop i).take 1 = match l[i]? with
    | some c => [c]
    | none => [] := by
  by_cases h : i < l.length
  · rw [List.getElem?_eq_getElem h, List.drop_eq_getElem_cons h]
    rfl
  · rw [List.getElem?_eq_none (by omega), List.drop_of_length_le (by omega)]
    rfl
theorem eqv_tup (as bs : List D) : eqv (.tup as) (.tup bs) = PyData.eqvAll (toPyL as) (toPyL bs) := by
  unfold eqv toPy
  rw [PyData.eqv]
theorem eqv_one (c d : D) : PyData.eqvAll (toPyL [c]) (toPyL [d]) = eqv c d := by
  simp [toPyL, PyData.eqvAll, eqv]
theorem sl_eqv {a b : D} (ha : isPk a = true) (hb : isPk b = true) (hs : isSt a = isSt b) (i : Nat) : eqv (sl a i) (sl b i) = match (prt a)[i]?, (prt b)[i]? with
    | some c, some d => eqv c d
    | none, none => true
    | _, _ => false := by
  cases a with
  | str x =>
    cases b with
    | str y =>
      simp only [sl, eqv_str, str_ofL_eq, take1, prt, List.getElem?_map]
      cases x.cps.toList[i]? <;> cases y.cps.toList[i]? <;> simp [eqv_str, one_eq]
    | tup ds => cases hs
    | _ => cases hb
  | tup as =>
    cases b with
    | tup bs =>
      simp only [sl, eqv_tup, take1, prt]
      cases as[i]? <;> cases bs[i]? <;> first | exact eqv_one _ _ | simp [toPyL, PyData.eqvAll]
    | str x => cases hs
    | _ => cases hb
  | _ => cases ha
theorem uix_full : ∀ {as bs : List D}, uix as bs = as.length → as.length = bs.length → PyData.eqvAll (toPyL as) (toPyL bs) = true
  | [], [], _, _ => by simp [toPyL, PyData.eqvAll]
  | [], _ :: _, _, h => by cases h
  | _ :: _, [], _, h => by cases h
  | a :: as, b :: bs, h, h2 => by
    unfold uix at h
    by_cases e : eqv a b = true
    · rw [if_pos e] at h
      have ih := uix_full (as := as) (bs := bs) (by simpa using h) (by simpa using h2)
      have e : PyData.eqv (toPy a) (toPy b) = true := e
      unfold toPyL PyData.eqvAll
      rw [e, ih]
      rfl
    · rw [if_neg e] at h
      cases h
theorem eqv_signs : ∀ {l k : List Nat}, PyData.eqvAll (toPyL (l.map fun c => D.str ⟨#[c]⟩)) (toPyL (k.map fun c => D.str ⟨#[c]⟩)) = true → l = k
  | [], [], _ => rfl
  | [], _ :: _, h => by simp [toPyL, PyData.eqvAll] at h
  | _ :: _, [], h => by simp [toPyL, PyData.eqvAll] at h
  | c :: l, d :: k, h => by
    unfold List.map toPyL PyData.eqvAll at h
    rw [Bool.and_eq_true] at h
    have h1 : eqv (.str ⟨#[c]⟩) (.str ⟨#[d]⟩) = true := h.1
    rw [eqv_str, one_eq] at h1
    rw [eq_of_beq h1, eqv_signs h.2]
theorem uix_max {a b : D} (ha : isPk a = true) (hb : isPk b = true) (hs : isSt a = isSt b) (h : eqv a b = false) : uix (prt a) (prt b) < max (prt a).length (prt b).length := by
  have hu := uix_le (prt a) (prt b)
  by_cases q : uix (prt a) (prt b) < max (prt a).length (prt b).length
  · exact q
  · exfalso
    have f := uix_full (as := prt a) (bs := prt b) (by omega) (by omega)
    cases a with
    | str x =>
      cases b with
      | str y =>
        have := eqv_signs f
        have : x = y := by rw [← toL_ofL x, ← toL_ofL y, this]
        subst this
        rw [eqv_str] at h
        simp at h
      | tup ds => cases hs
      | _ => cases hb
    | tup as =>
      cases b with
      | tup bs =>
        rw [eqv_tup] at h
        have f : PyData.eqvAll (toPyL as) (toPyL bs) = true := f
        rw [h] at f
        cases f
      | str x => cases hs
      | _ => cases hb
    | _ => cases ha
theorem for_find {i : Nat} {F : Rho → RS} {v : D} (stt : Option D → Rho) (hs : ∀ o d, (stt o).set i (some d) = stt (some d)) {d : D} {post : List D} (hd : F (stt (some d)) = .rt v) : ∀ {pre : List D} {o : Option D}, (∀ x ∈ pre, F (stt (some x)) = .nx (stt (some x))) → forL (.one i) F (pre ++ d :: post) (stt o) = .rt v
  | [], o, _ => by
    show forL (.one i) F (d :: post) (stt o) = .rt v
    unfold forL
    simp only [Tg.set, R.calm, RS.bind, hs, hd]
  | x :: pre, o, h => by
    show forL (.one i) F (x :: (pre ++ d :: post)) (stt o) = .rt v
    unfold forL
    simp only [Tg.set, R.calm, RS.bind, hs, h x List.mem_cons_self]
    exact for_find stt hs hd fun y hy => h y (List.mem_cons_of_mem _ hy)
theorem upto_split {n u : Nat} (h : u < n) : ∃ post, upto n = upto u ++ D.int u :: post := by
  refine ⟨(upto n).drop (u + 1), ?_⟩
  have hl : u < (upto n).length := by rw [upto_len]; exact h
  have e1 : (upto n)[u] = D.int u := by simp [upto]
  have e2 : (upto n).take u = upto u := by
    unfold upto
    rw [← List.map_take, List.take_range, Nat.min_eq_left (by omega)]
  rw [← e1, ← List.drop_eq_getElem_cons hl, ← e2, List.take_append_drop]
theorem ne_word : neD (.tup [.str "refused", .str "BadValue"]) (.tup [.str "refused", .str "BadValue"]) = some (.bl false) := by kernel_rfl
theorem DF_int : ∀ (n : Nat) (a b : D), ∀ d ∈ DF n a b, ∃ i, d = .int i
  | 0, _, _, d, h => (nomatch h)
  | n + 1, a, b, d, h => by
    unfold DF at h
    split at h
    · cases h
    · rcases List.mem_cons.mp h with rfl | h
      · exact ⟨_, rfl⟩
      · split at h
        · cases h
        · split at h
          · exact DF_int n _ _ d h
          · cases h
theorem okD_ints {ds : List D} (h : ∀ d ∈ ds, ∃ i, d = .int i) : okD (.tup ds) = true := by
  unfold okD
  have h1 : plain (.tup ds) = true := plainL_of fun d hd => by obtain ⟨i, rfl⟩ := h d hd; rfl
  have h2 : dep (.tup ds) ≤ 1 := Nat.succ_le_succ (depL_of fun d hd => by obtain ⟨i, rfl⟩ := h d hd; exact Nat.le_refl _)
  rw [h1, decide_eq_true (by omega)]
  rfl
theorem ne_ints {ds : List D} (h : ∀ d ∈ ds, ∃ i, d = .int i) : neD (.tup ds) (.tup ds) = some (.bl false) := by
  have e : eqv (.tup ds) (.tup ds) = true := by
    rw [eqv_tup]
    exact eqvAll_self fun d hd => by obtain ⟨i, rfl⟩ := h d hd; rw [eqv_int]; simp
  simp only [neD, okD_ints h, e, Bool.and_self, if_pos, Bool.not_true]
theorem ix_end {ds : List D} (h : ds ≠ []) : ∃ d ∈ ds, ixD (.lst ds) (.int (-1)) = some d := by
  have hl : 0 < ds.length := List.length_pos_iff.mpr h
  refine ⟨ds[ds.length - 1], List.getElem_mem _, ?_⟩
  unfold ixD atI L2.ixN
  dsimp only
  rw [if_neg (by decide), if_pos (by omega)]
  have : ((-1 : Int) + (ds.length : Int)).toNat = ds.length - 1 := by omega
  simp only [this]
  exact List.getElem?_eq_getElem _
theorem pow30 : powD (.int 2) (.int 30) = some (.int 1073741824) := by kernel_rfl
theorem lg30 : (1073741824 : Int).natAbs.log2 < 9000 := by decide +kernel
theorem ixD2_lst (ds : List D) (b : D) : ixD2 (.lst ds) b = ixD (.lst ds) b := rfl
theorem ixD2_tup (ds : List D) (b : D) : ixD2 (.tup ds) b = ixD (.tup ds) b := rfl
theorem ixD2_scr (ds : List Int) (b : D) : ixD2 (.scr ds) b = ixD (.scr ds) b := rfl
theorem ixD2_str (ds : Str) (b : D) : ixD2 (.str ds) b = ixD (.str ds) b := rfl
theorem catD_ok {a b : List D} (h : a.length + b.length ≤ 1000) : catD (.lst a) (.lst b) = some (.lst (a ++ b)) := by
  show (if a.length + b.length ≤ sizeLine then some (D.lst (a ++ b)) else none) = _
  rw [if_pos (by rw [sizeLine_eq]; omega)]
theorem count (l m : Nat) (hm : 0 < m) : ∃ q : Nat, q ≤ m ∧ (if (if (l : Int) < (m : Int) then (l : Int) else (m : Int)) > 1 then (if (l : Int) < (m : Int) then (l : Int) else (m : Int)) else 1) = (q : Int) := by
  by_cases h : (l : Int) < m
  · rw [if_pos h]
    by_cases h2 : (l : Int) > 1
    · rw [if_pos h2]
      exact ⟨l, by omega, rfl⟩
    · rw [if_neg h2]
      exact ⟨1, by omega, rfl⟩
  · rw [if_neg h]
    by_cases h2 : (m : Int) > 1
    · rw [if_pos h2]
      exact ⟨m, by omega, rfl⟩
    · rw [if_neg h2]
      exact ⟨1, by omega, rfl⟩
end BV
namespace BV
open PySem PySem.Spec PyProof.Rows L2
/-! ### what the head says of a dict from texts to ints -/
def keyVal (e : DictEntry) : Option (Str × Int) := match e.key, e.val with
  | .str x _, .int i _ => some (x, i)
  | _, _ => none
def kvB (K : PySem.W.Frag) (a : Addr) (kvs : List (Str × Int)) : Bool := match K.lookup a with
  | some ⟨_, _, .dict es _, _⟩ => decide (es.toList.map keyVal = kvs.map some)
  | _ => false
theorem kv_list (z : Str) : ∀ {l : List DictEntry} {kvs : List (Str × Int)}, l.map keyVal = kvs.map some →
    (kvs.lookup z = none ∧ l.find? (fun e => e.key.isStr z) = none ∧ l.any (fun e => e.refKey) = false) ∨ ∃ i t e, kvs.lookup z = some i ∧ l.find? (fun e => e.key.isStr z) = some e ∧ e.val = .int i t
  | [], [], _ => .inl ⟨rfl, rfl, rfl⟩
  | [], _ :: _, h => by cases h
  | _ :: _, [], h => by cases h
  | e :: l, (x, i) :: kvs, h => by
    have h1 : keyVal e = some (x, i) := (List.cons.inj h).1
    have h2 : l.map keyVal = kvs.map some := (List.cons.inj h).2
    obtain ⟨k, v, hs⟩ := e
    unfold keyVal at h1
    dsimp only at h1
    split at h1
    · rename_i y t j u
      cases h1
      by_cases q : z = x
      · subst q
        refine .inr ⟨i, u, ?_, ?_, ?_, ?_⟩
        rotate_left
        · rw [List.lookup_cons, show (z == z) = true by simp]
        · rw [List.find?_cons]
          have : (Value.str z t).isStr z = true := by simp [Value.isStr]
          rw [this]
        · rfl
      · rcases kv_list z h2 with ⟨a1, a2, a3⟩ | ⟨i', t', e', a1, a2, a3⟩
        · refine .inl ⟨?_, ?_, ?_⟩
          · rw [List.lookup_cons, show (z == x) = false from beq_eq_false_iff_ne.mpr q]
            exact a1
          · rw [List.find?_cons]
            have : (Value.str x t).isStr z = false := by simp [Value.isStr]; exact fun h => q (by rw [h])
            rw [this]
            exact a2
          · rw [List.any_cons, a3]
            rfl
        · refine .inr ⟨i', t', e', ?_, ?_, a3⟩
          · rw [List.lookup_cons, show (z == x) = false from beq_eq_false_iff_ne.mpr q]
            exact a1
          · rw [List.find?_cons]
            have : (Value.str x t).isStr z = false := by simp [Value.isStr]; exact fun h => q (by rw [h])
            rw [this]
            exact a2
    · cases h1
theorem kv_ok {K : PySem.W.Frag} {a : Addr} {kvs : List (Str × Int)} (h : kvB K a kvs = true) (z : Str) : (kvs.lookup z = none ∧ PySem.W.nsIn K a z = some none) ∨ ∃ i t, kvs.lookup z = some i ∧ PySem.W.nsIn K a z = some (some (.int i t)) := by
  unfold kvB at h
  unfold PySem.W.nsIn
  split at h
  · rename_i es _ _ q
    rw [q]
    dsimp only
    rcases kv_list z (of_decide_eq_true h) with ⟨a1, a2, a3⟩ | ⟨i, t, e, a1, a2, a3⟩
    · refine .inl ⟨a1, ?_⟩
      rw [a2]
      dsimp only
      rw [a3]
      rfl
    · refine .inr ⟨i, t, a1, ?_⟩
      rw [a2]
      dsimp only
      rw [a3]
  · cases h
theorem dicG_of {w : World} {K : PySem.W.Frag} {mg : Str → Option Value} {x : Str} {kvs : List (Str × Int)} (m : mg x = some (.ref (He.ga K x))) (k : ∃ es n, KDict K w (He.ga K x) es n) (h : kvB K (He.ga K x) kvs = true) : DicG w K mg x kvs := by
  obtain ⟨es, n, k⟩ := k
  exact ⟨⟨He.ga K x, es, n, m, k, kv_ok h⟩⟩
theorem tupG_of {K : PySem.W.Frag} {mg : Str → Option Value} {x : Str} {ks : List Str} (m : mg x = some (.ref (He.ga K x))) (h : He.tupB K x (ks.map He.Dv.str) = true) : TupG K mg x ks := ⟨He.ga K x, m, fun H => by
  have := He.tupB_ok h H
  rw [List.map_map] at this
  exact this⟩
end BV
namespace WD
open PySem PySem.Spec PyProof.Rows L2 L2H LamX LN HH BV
/-! ### telling of an own error with two fields (Trouble) -/
/-- isinstance(e, C), e handled, its own dict at dd -/
def rIsX (K : PySem.W.Frag) (D a dd : Addr) : List V → Hp → VK → Prop := fun xs H Q => (∃ fs, H dd = some (.xd fs)) ∧ rIsE K D a xs H Q
theorem call_isXH {X : Cx} {a D dd : Addr} {oe : Obj} (C : ExcC X.K D) (hp : (a, oe) ∈ X.pn) (hz : Zc (.ref D) (some dd) oe) (hf : ∃ vs, oe.data = .fields vs) : CallR X (.builtin "isinstance") (rIsX X.K D a dd) := by
  rintro pins s σ H xs us Q I r ⟨⟨fs, ea⟩, c, cv, b, rfl, hcv, e, q⟩
  match us, r with
  | [_, _], .cons rx (.cons rt .nil) =>
    cases rx
    cases hcv _ rt
    obtain ⟨vs, hv⟩ := hf
    have ok : ObjOk X.prog X.w H s.heap dd (.xd fs) := I.hok dd _ ea
    obtain ⟨mA, nsA, relA⟩ := ok
    obtain ⟨od, dictAt, _⟩ := lookIn_ns nsA
    have J : PySem.W.InstAt s.heap a oe D (some od) := by
      refine ⟨(I.pin _ (List.mem_append_left _ hp)).1, hz.1, ?_, ?_⟩
      · unfold PySem.W.notCls
        rw [hv]
      · rw [hz.2]
        exact dictAt
    obtain ⟨cd, clsAt, _⟩ := PySem.W.any_some C.hd
    exact PySem.W.kia_one (PySem.W.kitx_exc (by rw [clsAt]; rfl) C.hg C.hk C.hs C.ha C.hn C.ht C.hm) I.kIn J e (fun z => nomatch z) fun tk => ⟨.bl b, H, I.kept (t' := tk) fun _ _ z => z, rfl, q⟩
/-- e.f there -/
def tXh (a dd : Addr) (n : Str) (te : TE) : TE := fun σ H Q => te σ H fun x H1 => x = .ref a ∧ ∃ fs v, H1 dd = some (.xd fs) ∧ fs.lookup n = some v ∧ Q v H1
theorem pe_xfH {X : Cx} {a C dd : Addr} {oe : Obj} {e : Expr} {te : TE} {pos : Pos} {n : Str} (G : XfC X.K C) (no : PySem.W.findIn X.K (.ref C) n = some none) (hp : (a, oe) ∈ X.pn) (hz : Zc (.ref C) (some dd) oe) (hf : ∃ vs, oe.data = .fields vs) (he : PE X e te)
    (hb : attributeBase e n X.env (eval e X.env) = eval e X.env := by rfl) : PE X (.Attribute e n pos) (tXh a dd n te) := by
  refine ⟨fun pins s σ H Q I h => attr_of hb (thn (he.run pins s σ H _ I h) ?_)⟩
  rintro u s1 ⟨x, H1, I1, rx, rfl, fs, v, ea, lk, q⟩
  obtain rfl : u = Value.ref a := rx
  obtain ⟨vs, hv⟩ := hf
  have ok : ObjOk X.prog X.w H1 s1.heap dd (.xd fs) := I1.hok dd _ ea
  obtain ⟨mA, nsA, relA⟩ := ok
  obtain ⟨od, dictAt, look⟩ := lookIn_ns nsA
  obtain ⟨w, hw, rw1⟩ := RelO.some_of (v := v) (o := mA n) (by rw [← lk]; exact relA n)
  have J : PySem.W.InstAt s1.heap a oe C (some od) := by
    refine ⟨(I1.pin _ (List.mem_append_left _ hp)).1, hz.1, ?_, ?_⟩
    · unfold PySem.W.notCls
      rw [hv]
    · rw [hz.2]
      exact dictAt
  exact HandSPX.exc_get I1.kIn J G.ga G.gg G.exC (PySem.W.findObj_own G.hdC no rfl (by rw [look, hw])) (handed_of rw1) ⟨v, H1, I1.tok _, rw1, q⟩
theorem isQ {K : PySem.W.Frag} {D a dd C : Addr} {b : Bool} {fs : List (Str × V)} {σ : L2.St} {H : Hp} {Q : VK} (hd : H dd = some (.xd fs)) (h0 : σ[0]? = some (some (.ref a))) (hk : PySem.W.kitOne K (.ref D) (.ref C) = some b) (q : Q (.bl b) H) :
    tCB (rIsX K D a dd) (tCons (tVar 0) (tCons (tC (.ref C)) tNil)) σ H Q := ⟨.ref a, h0, ⟨fs, hd⟩, .ref C, .ref C, b, rfl, fun _ r => r, hk, q⟩
theorem isQT {K : PySem.W.Frag} {D a dd : Addr} {t : String} {b : Bool} {fs : List (Str × V)} {σ : L2.St} {H : Hp} {Q : VK} (hd : H dd = some (.xd fs)) (h0 : σ[0]? = some (some (.ref a))) (hk : PySem.W.kitOne K (.ref D) (.type t) = some b) (q : Q (.bl b) H) :
    tCB (rIsX K D a dd) (tCons (tVar 0) (tCons (tC (.ty t)) tNil)) σ H Q := ⟨.ref a, h0, ⟨fs, hd⟩, .ty t, .type t, b, rfl, fun _ r => r, hk, q⟩
/-- what the head checks for Trouble -/
structure WGT (K : PySem.W.Frag) : Prop where
  k : ∀ n' ∈ seven, PySem.W.kitOne K (.ref (He.ga K "Trouble")) (.ref (He.ga K n')) = some (("Trouble" : Str) == n')
  v : PySem.W.kitOne K (.ref (He.ga K "Trouble")) (.type "ValueError") = some true
  x : ExcC K (He.ga K "Trouble")
  e : PySem.W.exmOne K (.ref (He.ga K "Trouble")) (.ref (He.ga K "TryError")) = some true
def wgtB (K : PySem.W.Frag) : Bool := excB K (He.ga K "Trouble") && (decide (PySem.W.kitOne K (.ref (He.ga K "Trouble")) (.type "ValueError") = some true) && (decide (PySem.W.exmOne K (.ref (He.ga K "Trouble")) (.ref (He.ga K "TryError")) = some true) &&
    seven.all fun n' => decide (PySem.W.kitOne K (.ref (He.ga K "Trouble")) (.ref (He.ga K n')) = some (("Trouble" : Str) == n'))))
theorem wgt_of {K : PySem.W.Frag} (h : wgtB K = true) : WGT K := by
  unfold wgtB at h
  simp only [Bool.and_eq_true, decide_eq_true_eq, List.all_eq_true] at h
  exact ⟨h.2.2.2, h.2.1, excB_ok h.1, h.2.2.1⟩
theorem bitsT_sum : ((bits "Trouble").map fun c => (if c = true then (1 : Int) else 0)).sum = 1 := by decide +kernel
end WD
namespace BV
open PySem PySem.Spec PyProof.Rows L2 LamX LN WD
def wordX (e : Exc) : R D := if e.name = ("Trouble" : Str) then (match e.fs, e.ds with
  | [f2, f1], [v, u] => if f2 = ("what" : Str) ∧ f1 = ("word" : Str) then .ok (.tup [.str "refused", u, v]) else .stuck
  | _, _ => .stuck) else wordD e
def toldRX : R D → R D
  | .ok d => .ok d
  | .exc e => wordX e
  | .stuck => .stuck
def toldX (f : Rho → R D) : Rho → R D := fun ρ => toldRX (f ρ)
def WQT (mg : Str → Option Value) : Value → Option Addr → Hp → VK → Prop := fun cls d H Q =>
  ∃ C dd fs u v, mg "Trouble" = some (.ref C) ∧ cls = .ref C ∧ d = some dd ∧ H dd = some (.xd fs) ∧ fs.lookup ("word" : Str) = some u ∧ fs.lookup ("what" : Str) = some v ∧ ∀ H' t, More H H' → H' t = none → Q (.ref t) (upd H' t (.tup [.str "refused", u, v]))
def WQ7 (mg : Str → Option Value) : Value → Option Addr → Hp → VK → Prop := fun cls d H Q => WQ6 mg cls d H Q ∨ WQT mg cls d H Q
theorem WQ7.six {mg : Str → Option Value} {cls : Value} {d : Option Addr} {H : Hp} {Q : VK} (h : WQ6 mg cls d H Q) : WQ7 mg cls d H Q := .inl h
section
variable {X : Cx} {T : List (Addr × Str)} {Γ : List Bool} {W : WX} {e : Expr} {f : Rho → R D}
theorem trouble_lk {u v : V} : ([(("what" : Str), v), (("word" : Str), u)] : List (Str × V)).lookup ("word" : Str) = some u ∧ ([(("what" : Str), v), (("word" : Str), u)] : List (Str × V)).lookup ("what" : Str) = some v := by
  have e1 : ((("word" : Str) == ("what" : Str)) = false) := by decide
  have e2 : ((("word" : Str) == ("word" : Str)) = true) := by decide
  have e3 : ((("what" : Str) == ("what" : Str)) = true) := by decide
  refine ⟨?_, ?_⟩
  · simp only [List.lookup, e1, e2]
  · simp only [List.lookup, e3]
theorem pd_toldX {CS : Addr} (h : PE X e (tLam T (TWord X.K CS (WQ7 X.mg)) fun E => tD X.K X.mg T Γ (fun c d _ H => E c d H) .v f)) (hC : ∀ n ∈ seven, ∀ C, X.mg n = some (.ref C) → PySem.W.exmOne X.K (.ref C) (.ref CS) = some true) : PD X T Γ W .v e (toldX f) :=
  PE.imp h fun σ H Q ⟨Hf, ρ, rel, p⟩ => ⟨rel.tab, fun H1 x t1 => ⟨Hf, ρ, rel.extN x t1, by
    have p : PostE X.K X.mg T Hf H .v W σ Q (toldRX (f ρ)) := p
    cases q : f ρ with
    | ok d =>
      rw [q] at p
      intro Hf2 H2 y v rk
      exact p Hf2 H2 (ExtF.extN rel.sub x t1 y) v rk
    | stuck => rw [q] at p; exact p.elim
    | exc ex =>
      rw [q] at p
      have p : PostE X.K X.mg T Hf H .v W σ Q (wordX ex) := p
      unfold wordX at p
      split at p
      · rename_i hn
        obtain ⟨xn, xf, xs⟩ := ex
        dsimp only at hn p
        subst hn
        match xf, xs, p with
        | [f2, f1], [dv, du], p =>
          have p : PostE X.K X.mg T Hf H .v W σ Q (if f2 = ("what" : Str) ∧ f1 = ("word" : Str) then .ok (.tup [.str "refused", du, dv]) else .stuck) := p
          split at p
          · rename_i hf
            obtain ⟨rfl, rfl⟩ := hf
            rintro cls dd Hf2 H2 y ⟨C, m1, m2, m3⟩
            have y2 := ExtF.extN rel.sub x t1 y
            obtain ⟨dx, fvs, m4, m5, m6, m7⟩ : ∃ d fvs, dd = some d ∧ H2 d = some (.xd fvs) ∧ fvs.map (·.1) = [("what" : Str), ("word" : Str)] ∧ RepL X.K X.mg Hf2 [dv, du] (fvs.map (·.2)) := by
              rcases m3 with m3 | ⟨_, m4⟩
              · exact nomatch m3.1
              · exact m4
            match fvs, m6, m7, m5 with
            | [(g2, vv), (g1, uv)], m6, m7, m5 =>
              simp only [List.map, List.cons.injEq, and_true] at m6
              obtain ⟨rfl, rfl⟩ := m6
              obtain ⟨_, _, e1, rv, _, _, e2, ru, _⟩ := m7
              cases e1
              cases e2
              refine ⟨by rw [m2]; exact hC ("Trouble" : Str) (by decide) C m1, .inr ⟨C, dx, _, uv, vv, m1, m2, m4, m5, trouble_lk.1, trouble_lk.2, fun H3 t mo nt => ?_⟩⟩
              have y3 : ExtF T Hf2 H2 Hf2 H3 := ⟨y2.inn.self, fun b u q => ⟨mo b u (y2.inn b u q).1, (y2.inn b u q).2⟩, ExtN.of mo, fun tb => tb.ext mo, fun _ _ q => q, Old.ext (ExtN.of mo)⟩
              have y4 : ExtF T Hf2 H3 (upd Hf2 t (.tup [.str "refused", uv, vv])) (upd H3 t (.tup [.str "refused", uv, vv])) := ExtF.newF y3.inn nt (fun ps z => nomatch z)
              refine p _ _ (y2.trans (y3.trans y4)) (.ref t) ⟨t, _, rfl, SqT.of upd_same, by show 3 ≤ sizeLine; rw [sizeLine_eq]; decide, ?_⟩
              exact ⟨_, _, rfl, ⟨rfl, refused_ok⟩, _, _, rfl, Rep.sub y4.sub ru, _, _, rfl, Rep.sub y4.sub rv, rfl⟩
          · exact p.elim
        | [], _, p => exact p.elim
        | [_], _, p => exact p.elim
        | _ :: _ :: _ :: _, _, p => exact p.elim
        | [_, _], [], p => exact p.elim
        | [_, _], [_], p => exact p.elim
        | [_, _], _ :: _ :: _ :: _, p => exact p.elim
      · have p : PostE X.K X.mg T Hf H .v W σ Q (wordD ex) := p
        unfold wordD at p
        split at p
        · rename_i hx
          obtain ⟨h1, h2, h3⟩ := hx
          rintro cls dd Hf2 H2 y ⟨C, m1, m2, m3⟩
          have y2 := ExtF.extN rel.sub x t1 y
          have hd : dd = none := by
            rcases m3 with m3 | ⟨m4, _⟩
            · exact m3.2.2
            · exact absurd h1 m4
          have h7 : ex.name ∈ seven := by revert h3; unfold six seven; simp; intro h; rcases h with h | h | h | h | h | h <;> simp [h]
          refine ⟨by rw [m2]; exact hC _ h7 C m1, .inl ⟨ex.name, C, h3, m1, m2, hd, fun H3 t mo nt => ?_⟩⟩
          have y3 : ExtF T Hf2 H2 Hf2 H3 := ⟨y2.inn.self, fun b u q => ⟨mo b u (y2.inn b u q).1, (y2.inn b u q).2⟩, ExtN.of mo, fun tb => tb.ext mo, fun _ _ q => q, Old.ext (ExtN.of mo)⟩
          have y4 : ExtF T Hf2 H3 (upd Hf2 t (.tup [.str "refused", .str ex.name])) (upd H3 t (.tup [.str "refused", .str ex.name])) := ExtF.newF y3.inn nt (fun ps z => nomatch z)
          refine p _ _ (y2.trans (y3.trans y4)) (.ref t) ⟨t, _, rfl, SqT.of upd_same, by show 2 ≤ sizeLine; rw [sizeLine_eq]; decide, ?_⟩
          exact ⟨_, _, rfl, ⟨rfl, refused_ok⟩, _, _, rfl, ⟨rfl, six_ok h3⟩, rfl⟩
        · exact p.elim⟩⟩
end
end BV
/-! a lambda with names of its own and none of others, called from anywhere -/
namespace LK
open PySem PySem.Spec PyProof.Rows L2 LamX
theorem run_lam {CX : CXT} {P : Program} {w : World} {K : PySem.W.Frag} {mg : Str → Option Value} {base : Heap} {k : Nat} {f c' : Addr} {q : Str} {params : Arguments} {body : Expr} {scope : Scope} {pm ctv : Value} {N ps : List Str} (S : FnScope N ps scope)
    {A : Around} {outer : List Env} {s : Shared} {H : Hp} {args : Args} {us : List Value} {vs : List V} {Q : VK} {E : XK} (hr : Room (k + 1) A) (e0 : Env0 P w K mg base A outer s H) (gf : s.heap.get? f = some (PySem.W.kla_obj "<lambda>" q params body scope [] pm c' ctv))
    (cr : s.heap.CodeRec (.ref c') q) (hb : bindArgs (PySem.W.kla_fn "<lambda>" q params body scope [] pm (.ref c') ctv) args = pure (ps.zip us)) (r : Vals vs us) (hl : vs.length = ps.length)
    (hbody : Room k (A.deeper (envOfC q scope s.heap.objs.size f (.ref c'))) → ∃ t, PE (cxOf CX P w K mg base N q scope f (.ref c') A outer s H E) body t ∧ t (L2.start N vs) H Q) :
    codeAny (model P w) A (.call (.ref f) args) (CR CX outer P w H s Q E) s := by
  have lim : s.heap.NoLimit := e0.mod.nolimit.keeps fun b o e => (e0.bs b o e).1
  have kinds : ∀ y ∈ ps.zip us, scope.names.lookup y.1 = some .local ∨ (scope.names.lookup y.1 = some .cell ∧ ((cellsFrom (s.heap.objs.size + 1) scope.names []).lookup y.1).isSome = true) := fun ⟨n, v⟩ hy => by
    rcases S.par n (List.of_mem_zip hy).1 with z | z
    · exact .inl z
    · exact .inr ⟨z, PySem.W.cellsFrom_some _ _ _ (.inl z)⟩
  refine PySem.W.kla_callFunE hr.depth gf rfl S.co S.gen rfl cr ?_
  rw [hb]
  refine wpAny_pure (wpAny_newFunctionEnv_cells S.kind kinds fun env he s1 x => ?_)
  subst he
  refine ⟨lim.keeps x.toInCall.keep, ?_⟩
  obtain ⟨t, ht, hq⟩ := hbody (hr.deeper _)
  have I : Inv (cxOf CX P w K mg base N q scope f (.ref c') A outer s H E) [] (L2.start N vs) H s1 := inv_start S hr.hd e0 hl r x
  exact PySem.W.kla_codeExpr (wpAny_mono (ht.run [] s1 (L2.start N vs) H Q I hq) (fun v s' ⟨v', H', J, rv, z⟩ => ⟨v', H', J.os, J.bare, J.base, J.hok, rv, z⟩) fun e s' z => z)
end LK
/-! (len(n), n) of a list, the heap told raw; the call of `lambda n: (len(n), n)` -/
namespace LK
open PySem PySem.Spec PyProof.Rows L2 LamX
theorem name_raw {Y : Cx} {pins : List (Addr × Obj)} {σ : L2.St} {H : Hp} {s : Shared} {E : Value → Shared → Prop} {Q : Value → Shared → Prop} {i : Nat} {n : Str} {r : Addr} {p : Pos} (I : Inv Y pins σ H s) (hN : Y.N[i]? = some n) (hv : Vis Y.env.scope n) (hs : σ[i]? = some (some (.ref r))) (fin : Q (.ref r) s)
    (hd : (n == ("__debug__" : Str)) = false := by decide) (hcd : (n == ("__classdict__" : Str)) = false := by decide) : wpAny (model Y.prog Y.w) Y.A (eval (.Name n p) Y.env) Q E s := by
  obtain ⟨m, hn, hl⟩ := I.loc
  obtain ⟨u, ru, l⟩ := hl i n _ hN hs hv
  obtain rfl : u = Value.ref r := ru
  rcases l with ⟨hk, hm⟩ | ⟨hk, c, hc, hcell⟩
  · exact wpAny_Name (wpAny_loadName_local I.ok.kind hk hn hm fin) hd
  · rcases hk with hk | hk
    · exact wpAny_Name (wpAny_loadName_cell I.ok.kind hk hc hcell fin) hd
    · exact wpAny_Name (wpAny_loadName_free I.ok.kind hk hc hcell fin hcd) hd
theorem body_raw {Y : Cx} {pins : List (Addr × Obj)} {σ : L2.St} {H : Hp} {s : Shared} {E : Value → Shared → Prop} {Q : Value → Shared → Prop} {i : Nat} {n : Str} {r : Addr} {vs : Array Value} {p1 p2 p3 p4 p5 : Pos} {x1} (I : Inv Y pins σ H s) (hN : Y.N[i]? = some n) (hv : Vis Y.env.scope n) (hs : σ[i]? = some (some (.ref r))) (g1 : Gl Y "len") (m1 : Y.mg "len" = none)
    (hl : s.heap.IsList r vs) (hz : vs.size ≤ sizeLine) (hd : (n == ("__debug__" : Str)) = false) (hcd : (n == ("__classdict__" : Str)) = false)
    (fin : ∀ tk t, Q (.ref s.heap.objs.size) { s with heap := s.heap.push { cls := .type "tuple", data := .seq #[.int vs.size t, .ref r] }, toks := tk }) :
    wpAny (model Y.prog Y.w) Y.A (eval (.Tuple [.Call (.Name "len" p1) [.Name n p2] [] p3, .Name n p4] x1 p5) Y.env) Q E s := by
  have hsz : sizeLine = 16777216 := sizeLine_eq
  refine wpAny_Tuple_spliced (Calls.spliced_cons ?_)
  refine Call_ (ld_blt I g1 m1 PySem.boot_len ?_); refine PyProof.Rows.callWith_builtin1 (PyProof.Rows.args_cons (name_raw I hN hv hs (PyProof.Rows.args_nil ?_) hd hcd) rfl) rfl rfl
  refine Calls.call_len_list hl (by omega) ?_
  have I2 : Inv Y pins σ H { s with toks := s.toks + 1 + 1 } := (I.tok _)
  exact Calls.spliced_cons (name_raw I2 hN hv hs (Calls.spliced_nil ⟨by rw [hsz]; show (2 : Nat) ≤ _; decide, fin _ _⟩) hd hcd)
end LK
namespace LK
open PySem PySem.Spec PyProof.Rows L2 LamX
/-- a lambda's body reached, the heap before told raw -/
theorem run_raw {CX : CXT} {P : Program} {w : World} {K : PySem.W.Frag} {mg : Str → Option Value} {base : Heap} {k : Nat} {f c' : Addr} {q : Str} {params : Arguments} {body : Expr} {scope : Scope} {pm ctv : Value} {N ps : List Str} (S : FnScope N ps scope)
    {A : Around} {outer : List Env} {s : Shared} {H : Hp} {args : Args} {us : List Value} {vs : List V} {R : Result → Shared → Prop} {E : XK} (hr : Room (k + 1) A) (e0 : Env0 P w K mg base A outer s H) (gf : s.heap.get? f = some (PySem.W.kla_obj "<lambda>" q params body scope [] pm c' ctv))
    (cr : s.heap.CodeRec (.ref c') q) (hb : bindArgs (PySem.W.kla_fn "<lambda>" q params body scope [] pm (.ref c') ctv) args = pure (ps.zip us)) (r : Vals vs us) (hl : vs.length = ps.length)
    (hbody : ∀ s1, Inv (cxOf CX P w K mg base N q scope f (.ref c') A outer s H E) [] (L2.start N vs) H s1 → (∀ b o, s.heap.get? b = some o → s1.heap.get? b = some o) → s1.os = s.os → s1.gens = s.gens →
      wpAny (model P w) (A.deeper (envOfC q scope s.heap.objs.size f (.ref c'))) (eval body (envOfC q scope s.heap.objs.size f (.ref c'))) (fun u s2 => R (.ok (.ret u)) s2) (fun e s2 => wpAny (model P w) (A.deeper (envOfC q scope s.heap.objs.size f (.ref c'))) (leaving (envOfC q scope s.heap.objs.size f (.ref c')) e) (fun _ s3 => R (.error e) s3) (fun e' s3 => R (.error e') s3) s2) s1) :
    codeAny (model P w) A (.call (.ref f) args) R s := by
  have lim : s.heap.NoLimit := e0.mod.nolimit.keeps fun b o e => (e0.bs b o e).1
  have kinds : ∀ y ∈ ps.zip us, scope.names.lookup y.1 = some .local ∨ (scope.names.lookup y.1 = some .cell ∧ ((cellsFrom (s.heap.objs.size + 1) scope.names []).lookup y.1).isSome = true) := fun ⟨n, v⟩ hy => by
    rcases S.par n (List.of_mem_zip hy).1 with z | z
    · exact .inl z
    · exact .inr ⟨z, PySem.W.cellsFrom_some _ _ _ (.inl z)⟩
  refine PySem.W.kla_callFunE hr.depth gf rfl S.co S.gen rfl cr ?_
  rw [hb]
  refine wpAny_pure (wpAny_newFunctionEnv_cells S.kind kinds fun env he s1 x => ?_)
  subst he
  refine ⟨lim.keeps x.toInCall.keep, ?_⟩
  have I : Inv (cxOf CX P w K mg base N q scope f (.ref c') A outer s H E) [] (L2.start N vs) H s1 := inv_start S hr.hd e0 hl r x
  have kp : ∀ b o, s.heap.get? b = some o → s1.heap.get? b = some o := x.toInCall.keep
  obtain ⟨h1, tk, e1, _⟩ := x.done
  exact PySem.W.kla_codeExpr (hbody s1 I kp (by rw [e1]) (by rw [e1]))
theorem reads_strs (h : Heap) : ∀ {us : List Value} {ys : List Str}, StrsAre us ys → ReadsAll h us (ys.map .str) []
  | _, _, .nil => .nil
  | _, _, .cons y t r => ReadsAll.cons (.str y t) (reads_strs h r)
/-- `lambda n: (len(n), n)` called at a list of texts that stood at z -/
theorem turn {X : Cx} {pins : List (Addr × Obj)} {σ : L2.St} {H : Hp} {z z1 : Shared} {k : Nat} {f c' r a : Addr} {q n : Str} {params : Arguments} {scope : Scope} {pm ctv : Value} {p1 p2 p3 p4 p5 : Pos} {x1} {us : Array Value} {ys : List Str} (S : FnScope [n] [n] scope) (I : Inv X pins σ H z)
    (os1 : z1.os = z.os) (g1 : AllBare z1.gens) (kp : ∀ b o, z.heap.get? b = some o → z1.heap.get? b = some o) (hr : Room (k + 1) X.A.in1.in1)
    (gf : z.heap.get? f = some (PySem.W.kla_obj "<lambda>" q params (.Tuple [.Call (.Name "len" p1) [.Name n p2] [] p3, .Name n p4] x1 p5) scope [] pm c' ctv)) (cr : z.heap.CodeRec (.ref c') q)
    (hb : bindArgs (PySem.W.kla_fn "<lambda>" q params (.Tuple [.Call (.Name "len" p1) [.Name n p2] [] p3, .Name n p4] x1 p5) scope [] pm (.ref c') ctv) ⟨[.ref r], []⟩ = pure [(n, .ref r)])
    (hv : Vis scope n) (hlen : ∀ f L, (envOfC q scope L f (.ref c')).kindOf "len" = some .globalImplicit) (m1 : X.mg "len" = none) (hl : z.heap.IsList r us) (hs : StrsAre us.toList ys) (hz : us.size ≤ sizeLine) (hd : (n == ("__debug__" : Str)) = false) (hcd : (n == ("__classdict__" : Str)) = false) (na : r ≠ a) :
    wpAny (model X.prog X.w) X.A.in1.in1 (call (.ref f) [.ref r]) (SK.KeyOff AllBare z.heap a (.tuple [.int ys.length, .list (ys.map .str)]) z1) (fun _ _ => False) z1 := by
  have I1 : Inv X pins σ H z1 := I.call' (ch := []) os1 (Un.kept kp) (I.hok.kept kp) g1 (fun b q => nomatch q)
  have cr1 : z1.heap.CodeRec (.ref c') q := by
    obtain ⟨c, o, vs, t, e, e1, e2, e3⟩ := cr
    exact ⟨c, o, vs, t, e, kp _ _ e1, e2, e3⟩
  have hl1 : z1.heap.IsList r us := by
    obtain ⟨o, e1, e2⟩ := hl
    exact ⟨o, kp _ _ e1, e2⟩
  refine wpAny_call (codeAny_mono (run_raw (CX := C8.CX0) (E := C8.E0) (N := [n]) (ps := [n]) (us := [.ref r]) (vs := [.ref r]) (R := fun res s2 => ∃ u, res = .ok (.ret u) ∧ SK.KeyOff AllBare z.heap a (.tuple [.int ys.length, .list (ys.map .str)]) z1 u s2) S hr I1.env0.in1.in1 (kp _ _ gf) cr1 hb (.cons rfl .nil) rfl fun s1 J kp1 o1 ge1 => ?_) fun res s2 hq => ?_)
  · have hl2 : s1.heap.IsList r us := by
      obtain ⟨o, e1, e2⟩ := hl1
      exact ⟨o, kp1 _ _ e1, e2⟩
    refine body_raw J (i := 0) (n := n) (r := r) (vs := us) rfl hv rfl (hlen _ _) m1 hl2 hz hd hcd fun tk t => ?_
    refine ⟨_, rfl, o1, by rw [← ge1] at g1; exact g1, fun c o e => Heap.get?_push_of_some _ (kp1 _ _ e), [] ++ ([r] ++ []), ?_, fun c hc => ?_⟩
    · have e := hs.length
      rw [Array.length_toList] at e
      obtain ⟨o, e1, e2, n2, e3⟩ := hl2
      refine Reads.tuple (xs := [.int ys.length, .list (ys.map .str)]) (Heap.get?_push_size _ rfl) rfl rfl (ReadsAll.cons ?_ (ReadsAll.cons ?_ ReadsAll.nil))
      · rw [e]; exact Reads.int _ _
      · exact Reads.list (Heap.get?_push_of_some _ e1) e2 e3 (reads_strs _ hs)
    · have : c = r := by simpa using hc
      rw [this]
      obtain ⟨o, e1, _⟩ := hl
      exact ⟨na, by rw [e1]; exact fun z => nomatch z⟩
  · obtain ⟨u, rfl, h⟩ := hq
    exact h
end LK
namespace LK
open PySem PySem.Spec PyProof.Rows L2 LamX PySem.W
/-! ### sorted(rows, key=lambda n: (len(n), n)), rows a list of lists of texts -/
def kB (b : Addr × List Str) : PyData := .tuple [.int b.2.length, .list (b.2.map .str)]
def sortB (bs : List (Addr × List Str)) : List (Addr × List Str) := bs.mergeSort (dataLe false kB)
def tSortKey (K : PySem.W.Frag) (T : List (Addr × Str)) (ta : TE) : TE := fun σ H Q => ta σ H fun x H1 => Tabs T H1 ∧ ∀ H2, ExtN H1 H2 → Tabs T H2 → ∃ (l : Addr) (bs : List (Addr × List Str)), x = V.ref l ∧ SqL K H2 l (bs.map fun b => V.ref b.1) ∧ (∀ b ∈ bs, SqL K H2 b.1 (b.2.map V.str)) ∧ bs.length ≤ 4000 ∧
  ∀ p, H2 p = none → Q (.ref p) (upd H2 p (.lst ((sortB bs).map fun b => V.ref b.1)))
theorem alike_strs : ∀ (xs ys : List Str), alikeAll (xs.map .str) (ys.map .str) = true
  | [], ys => by cases ys <;> simp [alikeAll]
  | x :: xs, [] => by simp [alikeAll]
  | x :: xs, y :: ys => by
    have := alike_strs xs ys
    simp [alikeAll, alike, this]
theorem alike_k (b c : Addr × List Str) : alike (kB b) (kB c) = true := by
  unfold kB
  simp [alike, alikeAll, alike_strs]
theorem depth_k (b : Addr × List Str) : (kB b).depth ≤ 3 := by
  unfold kB
  simp only [PyData.depth]
  have : ∀ ys : List Str, PyData.depthAll (ys.map .str) ≤ 0 := fun ys => by
    induction ys with
    | nil => simp [PyData.depthAll]
    | cons y ys ih => simp [PyData.depthAll, PyData.depth]; omega
  have := this b.2
  simp [PyData.depthAll, PyData.depth]
  omega
end LK
namespace LK
open PySem PySem.Spec PyProof.Rows L2 LamX PySem.W
theorem each_refs : ∀ {bs : List (Addr × List Str)} {us : List Value}, Vals (bs.map fun b => V.ref b.1) us → EachIs (fun v b => v = Value.ref b.1) us bs
  | [], us, r => by cases r; exact .nil
  | b :: bs, us, r => by
    cases r with
    | cons r1 r2 => exact .cons r1 (each_refs r2)
theorem refs_each : ∀ {us : List Value} {bs : List (Addr × List Str)}, EachIs (fun v b => v = Value.ref b.1) us bs → Vals (bs.map fun b => V.ref b.1) us
  | _, _, .nil => .nil
  | _, _, .cons h t => .cons h (refs_each t)
theorem each_at : ∀ {us : List Value} {bs : List (Addr × List Str)}, EachIs (fun v b => v = Value.ref b.1) us bs → ∀ (i : Nat) (v : Value) (k : PyData), us[i]? = some v → (bs.map kB)[i]? = some k → ∃ b ∈ bs, v = .ref b.1 ∧ k = kB b
  | _, _, .nil, i, v, k, h, _ => by cases h
  | _, _, .cons h t, 0, v, k, h1, h2 => by
    cases h1
    cases h2
    exact ⟨_, List.mem_cons_self, h, rfl⟩
  | _, _, .cons h t, i + 1, v, k, h1, h2 => by
    obtain ⟨b, hb, e⟩ := each_at t i v k h1 h2
    exact ⟨b, List.mem_cons_of_mem _ hb, e⟩
theorem pe_sortKey {X : Cx} {T : List (Addr × Str)} {c P : Addr} {k : Nat} {ta : TE} {a : Expr} {params : Arguments} {scope : Scope} {n : Str} {p lp kp pos p1 p2 p3 p4 p5 : Pos} {x1} (S : FnScope [n] [n] scope) (hr : Room (k + 3) X.A) (hg : Gl X "sorted") (hm : X.mg "sorted" = none) (m1 : X.mg "len" = none)
    (TB : TabB X.base X.mg c P) (hcode : X.env.code = .ref c) (hmT : (P, X.env.qual ++ "<lambda>") ∈ T) (hu : ∀ p ∈ T, p.1 = P → p.2 = X.env.qual ++ "<lambda>") (hdef : defaultsOf params X.env = ([], []))
    (hbind : ∀ (q : Str) (pm cv ctv : Value) (r : Addr), bindArgs (PySem.W.kla_fn "<lambda>" q params (.Tuple [.Call (.Name "len" p1) [.Name n p2] [] p3, .Name n p4] x1 p5) scope [] pm cv ctv) ⟨[.ref r], []⟩ = pure [(n, .ref r)])
    (hv : Vis scope n) (hlen : ∀ (q : Str) (f L c' : Addr), (envOfC q scope L f (.ref c')).kindOf "len" = some .globalImplicit) (hcl : ∀ cells : List (Str × Addr), cloFrom cells scope.names [] = []) (hd : (n == ("__debug__" : Str)) = false) (hcd : (n == ("__classdict__" : Str)) = false) (ha : PE X a ta)
    (st : starEach [a] X.env = (false, eval a X.env) :: starEach [] X.env := by rfl) (he : backTo pos (starEach [a] X.env) = (false, eval a X.env) :: backTo pos (starEach [] X.env) := by rfl) (hpl : (backTo pos (starEach [a] X.env)).any (·.1) = false := by rfl) :
    PE X (.Call (.Name "sorted" p) [a] [⟨some "key", .Lambda params (.Tuple [.Call (.Name "len" p1) [.Name n p2] [] p3, .Name n p4] x1 p5) scope lp, kp⟩] pos) (tSortKey X.K T ta) := by
  refine ⟨fun pins z σ H Q I h => ?_⟩
  refine wpAny_Call_Name_kw (ld_blt I hg hm PyProof.Rows.boot_sorted ?_)
  have hA : PA X [a] (tCons ta tNil) := pa_cons (hs := st) ha pa_nil
  refine PyProof.Rows.callWith_kw (thn (hA.run pos pins z σ H (fun vs H1 => match vs with
    | [x] => Tabs T H1 ∧ ∀ H2, ExtN H1 H2 → Tabs T H2 → ∃ (l : Addr) (bs : List (Addr × List Str)), x = V.ref l ∧ SqL X.K H2 l (bs.map fun b => V.ref b.1) ∧ (∀ b ∈ bs, SqL X.K H2 b.1 (b.2.map V.str)) ∧ bs.length ≤ 4000 ∧ ∀ p, H2 p = none → Q (.ref p) (upd H2 p (.lst ((sortB bs).map fun b => V.ref b.1)))
    | _ => False) I h) fun us s1 ⟨vs, H1, I1, r1, q1⟩ => ?_) he hpl rfl rfl
  match vs, r1, q1 with
  | [x], r1, q1 =>
    obtain ⟨hT, q1⟩ := q1
    show wpAny _ _ (evalAll [(do let v ← eval (.Lambda params (.Tuple [.Call (.Name "len" p1) [.Name n p2] [] p3, .Name n p4] x1 p5) scope lp) X.env; standAt pos; pure v)]) _ _ s1
    refine wpAny_evalAll_cons (wpAny_bind (lam_make2 I1 TB hcode hmT hu hT hdef (fun y hy e => absurd e (S.nofree y hy)) fun f c' pm ctv H2 s2 I2 xN hT2 gf nf ff ec => wpAny_bind (wpAny_standAt (wpAny_pure (wpAny_evalAll_nil ?_)))))
    obtain ⟨l, bs, rfl, hq, hrows, few, fin⟩ := q1 H2 xN hT2
    obtain rfl := Vals.ref1 r1
    obtain ⟨its, rv, pl, hz⟩ := I2.list hq
    have ei := each_refs rv
    have lb : its.length = bs.length := ei.length
    rw [hcl] at gf
    obtain ⟨⟨oc, vo, t, k1, k2, k3⟩, _, _⟩ := I2.hok c' _ ec
    have hun := hr.un
    have hsl : (4000 : Nat) ≤ sizeLine := by decide
    refine SK.sorted_key (z := s2) (vs := its) (kz := bs.map kB) (G := AllBare) (b := false) (kw := [("key", .ref f)]) pl.isList (by rw [List.length_map, lb]) (fun d hd2 d' hd' => ?_) (.inl fun d hd2 => ?_) (by rw [lb]; omega) (fun d hd2 => ?_) (ksk_s1 _ _) (fun x => ksk_l1 _ _) (fun x => ksk_t1 f x)
      (fun i v kk hv2 hk z1 os1 g1 kp1 => ?_) I2.bare fun out c2 z2 os2 g2 kp2 hD ko => ?_
    · obtain ⟨b, _, rfl⟩ := List.mem_map.mp hd2
      obtain ⟨b', _, rfl⟩ := List.mem_map.mp hd'
      exact alike_k b b'
    · obtain ⟨b, _, rfl⟩ := List.mem_map.mp hd2
      exact ⟨_, _, rfl⟩
    · obtain ⟨b, _, rfl⟩ := List.mem_map.mp hd2
      have := depth_k b
      omega
    · obtain ⟨b, hb, rfl, rfl⟩ := each_at ei i v kk hv2 hk
      obtain ⟨us2, rv2, pl2, hz2⟩ := I2.list (hrows b hb)
      have hs := strs_of_vals rv2
      have lt : b.1 < s2.heap.objs.size := by
        obtain ⟨o, e, _⟩ := pl2.isList
        exact Heap.lt_size e
      have e2 : us2.length = b.2.length := hs.length
      exact turn S I2 os1 g1 kp1 hr.in1.in1 gf ⟨c', oc, vo, t, rfl, k1, k2, k3⟩ (hbind _ _ _ _ _) hv (fun f L => hlen _ f L c') m1 pl2.isList (by simpa using hs) (by rw [List.size_toArray]; rw [List.length_map] at hz2; omega) hd hcd (Nat.ne_of_lt (Nat.lt_succ_of_lt lt))
    · have eo := keyedOut_each kB ko ei
      have hn : H2 (s2.heap.objs.size + 1) = none := I2.hok.fresh (Nat.le_succ _)
      have ll : (sortB bs).length = bs.length := (List.mergeSort_perm _ _).length_eq
      have I3 : Inv X pins σ (upd H2 (s2.heap.objs.size + 1) (.lst ((sortB bs).map fun b => V.ref b.1))) z2 := I2.call' (ch := []) os2 (Un.laid kp2 (Nat.le_succ _) hn) (I2.hok.laid kp2 (Nat.le_succ _) ⟨by rw [List.length_map, ll]; omega, out, c2, refs_each eo, hD⟩) g2 (fun b q => nomatch q)
      exact ⟨.ref (s2.heap.objs.size + 1), _, I3, rfl, fin _ hn⟩
end LK
namespace BV
open PySem PySem.Spec PyProof.Rows L2 LamX
/-! ### sorted(rows, key=lambda n: (len(n), n)) -/
def rowsS : List D → Option (List (List Str))
  | [] => some []
  | .lst ss :: ds => match strsOf ss with
    | none => none
    | some ys => match rowsS ds with
      | none => none
      | some r => some (ys :: r)
  | _ => none
def kS (ys : List Str) : PyData := .tuple [.int ys.length, .list (ys.map .str)]
def srtK (yss : List (List Str)) : List (List Str) := yss.mergeSort (PySem.W.dataLe false kS)
def rowD2 (ys : List Str) : D := .lst (ys.map .str)
theorem dataLe_k (b c : Addr × List Str) : PySem.W.dataLe false LK.kB b c = PySem.W.dataLe false kS b.2 c.2 := rfl
theorem sortB_snd (bs : List (Addr × List Str)) : (LK.sortB bs).map (·.2) = srtK (bs.map (·.2)) := List.map_mergeSort fun b _ c _ => dataLe_k b c
section
variable {K : PySem.W.Frag} {mg : Str → Option Value} {Hf : Hp}
theorem strsOf_eq : ∀ {ds : List D} {ys : List Str}, strsOf ds = some ys → ds = ys.map .str
  | [], ys, h => by cases h; rfl
  | d :: ds, ys, h => by
    cases d <;> simp only [strsOf, reduceCtorEq] at h
    cases q : strsOf ds with
    | none => rw [q] at h; cases h
    | some ms => rw [q] at h; cases h; rw [strsOf_eq q]; rfl
theorem rowsS_ok : ∀ {ds : List D} {vs : List V} {yss : List (List Str)}, rowsS ds = some yss → RepL K mg Hf ds vs → ∃ bs : List (Addr × List Str), vs = bs.map (fun b => V.ref b.1) ∧ bs.map (·.2) = yss ∧ ∀ b ∈ bs, Rep K mg Hf (rowD2 b.2) (.ref b.1) ∧ Hf b.1 = some (.lst (b.2.map V.str))
  | [], vs, yss, h, r => by cases h; exact ⟨[], r, rfl, fun b hb => nomatch hb⟩
  | d :: ds, vs, yss, h, r => by
    obtain ⟨v, r', rfl, h1, h2⟩ := r
    cases d <;> simp only [rowsS, reduceCtorEq] at h
    rename_i ss
    cases q : strsOf ss with
    | none => rw [q] at h; cases h
    | some ys =>
      rw [q] at h
      cases q2 : rowsS ds with
      | none => rw [q2] at h; cases h
      | some ms =>
        rw [q2] at h
        cases h
        obtain ⟨bs, rfl, e2, hb⟩ := rowsS_ok q2 h2
        obtain ⟨a, ws, rfl, e3, e4, e5⟩ := id h1
        obtain ⟨rfl, _⟩ := strsOf_ok q e5
        have eq := strsOf_eq q
        refine ⟨(a, ys) :: bs, rfl, by rw [List.map_cons, e2], fun b hb2 => ?_⟩
        rcases List.mem_cons.mp hb2 with rfl | hb2
        · exact ⟨by show Rep K mg Hf (.lst (ys.map .str)) _; rw [← eq]; exact h1, e3⟩
        · exact hb b hb2
theorem repL_map : ∀ {bs : List (Addr × List Str)}, (∀ b ∈ bs, Rep K mg Hf (rowD2 b.2) (.ref b.1)) → RepL K mg Hf (bs.map fun b => rowD2 b.2) (bs.map fun b => V.ref b.1)
  | [], _ => rfl
  | b :: bs, h => ⟨_, _, rfl, h b List.mem_cons_self, repL_map fun c hc => h c (List.mem_cons_of_mem _ hc)⟩
end
def srkD : D → Option D
  | .lst ds => match rowsS ds with
    | none => none
    | some yss => if yss.length ≤ 4000 then some (.lst ((srtK yss).map rowD2)) else none
  | _ => none
section
variable {X : Cx} {T : List (Addr × Str)} {Γ : List Bool} {W : WX} {e a : Expr} {fa : Rho → R D}
theorem pd_sortKey (h : PE X e (LK.tSortKey X.K T (tD X.K X.mg T Γ W .b fa))) : PD X T Γ W .o e (unE srkD fa) :=
  PE.imp h fun σ H Q ⟨Hf, ρ, rel, p⟩ => ⟨Hf, ρ, rel, PostE.bind p fun d v Hf1 H1 e1 x1 rk p1 => by
    obtain ⟨d3, e3, p3⟩ := of_some p1
    have rel1 := rel.ext x1
    refine ⟨rel1.tab, fun H2 xN t2 => ?_⟩
    cases d with
    | lst ds =>
      have e3 : (match rowsS ds with
        | none => none
        | some yss => if yss.length ≤ 4000 then some (D.lst ((srtK yss).map rowD2)) else none) = some d3 := e3
      cases qs : rowsS ds with
      | none => rw [qs] at e3; cases e3
      | some yss =>
        rw [qs] at e3
        have e3 : (if yss.length ≤ 4000 then some (D.lst ((srtK yss).map rowD2)) else none) = some d3 := e3
        split at e3
        · rename_i hc
          cases e3
          obtain ⟨q, ws, rfl, h1, h2, h3⟩ := RK.lst x1.inn rk
          obtain ⟨bs, rfl, rfl, hb⟩ := rowsS_ok qs h3
          rw [List.length_map] at hc
          have s2 : Sub Hf1 H2 := x1.inn.ext xN
          have q2 : H2 q = some (.lst (bs.map fun b => V.ref b.1)) := xN _ _ h1 fun ps z => by cases z
          have h4 : (4000 : Nat) ≤ sizeLine := by decide
          refine ⟨q, bs, rfl, SqL.of q2, fun b hb2 => SqL.of ((s2 _ _ (hb b hb2).2).1), hc, fun l hl => ?_⟩
          have no : ¬ Old H1 l := fun o => by
            obtain ⟨o', e', _⟩ := Old.ext xN l o
            rw [hl] at e'
            cases e'
          have em : (srtK (bs.map (·.2))).map rowD2 = (LK.sortB bs).map fun b => rowD2 b.2 := by rw [← sortB_snd, List.map_map]; rfl
          refine p3 Hf1 _ (ExtF.extN x1.inn xN t2 (ExtF.new s2 hl)) _ ⟨l, _, rfl, s2.none hl, no, upd_same, _, rfl, ?_, ?_⟩
          · rw [em, List.length_map, show (LK.sortB bs).length = bs.length from (List.mergeSort_perm _ _).length_eq]
            omega
          · rw [em]
            exact repL_map fun b hb2 => (hb b ((List.mergeSort_perm _ _).mem_iff.mp hb2)).1
        · cases e3
    | _ => cases e3⟩
end
end BV
namespace Kk51
open PySem PySem.Spec PyProof.Rows L2 BV
def kv_STRENGTHS : List (Str × Int) := [(("or" : Str), 1), (("and" : Str), 2), (("not" : Str), 3), (("name" : Str), 4)]
def _law_drawn_F : Rho → RS := (seqS (setS 2 (opE modD (opE addD (opE mulRD (varE 0) (conE (.int 6364136223846793005))) (opE mulRD (opE addD (varE 1) (conE (.int 1))) (conE (.int 1442695040888963407)))) (conE (.int 340282366920938463463374607431768211507)))) (seqS (setS 2 (opE modD (opE mulD (varE 2) (varE 2)) (conE (.int 340282366920938463463374607431768211297)))) (seqS (setS 2 (opE mulD (opE mulD (opE addD (opE modD (varE 2) (conE (.int 18446744073709551557))) (conE (.int 1))) (opE addD (opE divD (varE 2) (conE (.int 18446744073709551557))) (conE (.int 1)))) (varE 2))) (retS (opE modD (varE 2) (conE (.int 340282366920938463463374607431768211507)))))))
def _law_drawn_f : List D → R D := runF 3 _law_drawn_F
def _law_cell_F : Rho → RS := (seqS (ifS (tstE (opE eqD (varE 0) (lstE nilE))) (retS (opE mulRD (varE 1) (conE (.int 7919)))) nxS) (retS (opE addD (opE ixD2 (varE 0) (opE modD (varE 1) (calE lenB (consE (varE 0) nilE)))) (opE mulRD (opE divD (varE 1) (calE lenB (consE (varE 0) nilE))) (conE (.int 104729))))))
def _law_cell_f : List D → R D := runF 2 _law_cell_F
def _law_pairs_F : Rho → RS := (retS (tupE (consE (conE (.str "and")) (consE (tupE (consE (conE (.str "name")) (consE (conE (.str "e")) nilE))) (consE (tupE (consE (conE (.str "name")) (consE (conE (.str "f")) nilE))) nilE)))))
def _law_pairs_f : List D → R D := runF 0 _law_pairs_F
def need_F : Rho → RS := (ifS (notT (tstE (varE 0))) (excS "BadChoice") nxS)
def need_f : List D → R D := runF 1 need_F
def is_name_F : Rho → RS := (seqS (ifS (orT (notT (tstE (unE (isiD "str") (varE 0)))) (tstE (opE (inD2 false) (varE 0) (conE (.tup ((["and", "or", "not", "row"] : List Str).map .str)))))) (retS (conE (.bl false))) nxS) (retS (unE D.sca (andE (chnE leD leD (conE (.int 1)) (calE lenB (consE (varE 0) nilE)) (conE (.int 10))) (calE allB (consE (compE (itE (varE 0)) [1] (.one 1) yesE (opE (inD2 false) (varE 1) (conE (.str "abcdefghijklmnopqrstuvwxyz")))) nilE))))))
def is_name_f : List D → R D := runF 2 is_name_F
def need_deep_F (r_need_deep : List D → R D) : Rho → RS := (seqS (drpS (appE need_f (consE (unE D.sca (andE (unE (isiD "tuple") (varE 0)) (andE (opE gtD (calE lenB (consE (varE 0) nilE)) (conE (.int 1))) (andE (unE (isiD "str") (opE ixD2 (varE 0) (conE (.int 0)))) (unE (inK false kv_STRENGTHS) (opE ixD2 (varE 0) (conE (.int 0)))))))) nilE))) (seqS (drpS (appE need_f (consE (opE ltD (varE 1) (conE (.int 8))) nilE))) (ifS (tstE (opE eqD (opE ixD2 (varE 0) (conE (.int 0))) (conE (.str "name")))) (drpS (appE need_f (consE (unE D.sca (andE (opE eqD (calE lenB (consE (varE 0) nilE)) (conE (.int 2))) (appE is_name_f (consE (opE ixD2 (varE 0) (conE (.int 1))) nilE)))) nilE))) (seqS (drpS (appE need_f (consE (opE eqD (calE lenB (consE (varE 0) nilE)) (ifE (tstE (opE eqD (opE ixD2 (varE 0) (conE (.int 0))) (conE (.str "not")))) (conE (.int 2)) (conE (.int 3)))) nilE))) (forS (itE (slcE sliD (varE 0) (somO (conE (.int 1))) nonO)) (.one 2) (drpS (appE r_need_deep (consE (varE 2) (consE (opE addD (varE 1) (conE (.int 1))) nilE)))))))))
def need_deep_r : Nat → List D → R D
  | 0 => fun _ => .stuck
  | n + 1 => runF 3 (need_deep_F (need_deep_r n))
def need_choice_F : Rho → RS := (drpS (appE (need_deep_r 12) (consE (varE 0) (consE (conE (.int 0)) nilE))))
def need_choice_f : List D → R D := runF 1 need_choice_F
def is_so_F (r_is_so : List D → R D) : Rho → RS := (seqS (setS 2 (opE ixD2 (varE 0) (conE (.int 0)))) (seqS (ifS (tstE (opE eqD (varE 2) (conE (.str "name")))) (retS (opE (inD2 false) (opE ixD2 (varE 0) (conE (.int 1))) (varE 1))) nxS) (seqS (ifS (tstE (opE eqD (varE 2) (conE (.str "not")))) (retS (unE D.sca (notE (appE r_is_so (consE (opE ixD2 (varE 0) (conE (.int 1))) (consE (varE 1) nilE)))))) nxS) (seqS (ifS (tstE (opE eqD (varE 2) (conE (.str "and")))) (retS (unE D.sca (andE (appE r_is_so (consE (opE ixD2 (varE 0) (conE (.int 1))) (consE (varE 1) nilE))) (appE r_is_so (consE (opE ixD2 (varE 0) (conE (.int 2))) (consE (varE 1) nilE)))))) nxS) (retS (unE D.sca (orE (appE r_is_so (consE (opE ixD2 (varE 0) (conE (.int 1))) (consE (varE 1) nilE))) (appE r_is_so (consE (opE ixD2 (varE 0) (conE (.int 2))) (consE (varE 1) nilE))))))))))
def is_so_r : Nat → List D → R D
  | 0 => fun _ => .stuck
  | n + 1 => runF 3 (is_so_F (is_so_r n))
def names_in_F (r_names_in : List D → R D) : Rho → RS := (seqS (ifS (tstE (opE eqD (opE ixD2 (varE 0) (conE (.int 0))) (conE (.str "name")))) (retS (lstE (consE (opE ixD2 (varE 0) (conE (.int 1))) nilE))) nxS) (seqS (setS 1 (lstE nilE)) (seqS (forS (itE (slcE sliD (varE 0) (somO (conE (.int 1))) nonO)) (.one 2) (setS 1 (opE catD (varE 1) (appE r_names_in (consE (varE 2) nilE))))) (retS (varE 1)))))
def names_in_r : Nat → List D → R D
  | 0 => fun _ => .stuck
  | n + 1 => runF 3 (names_in_F (names_in_r n))
def unlike_by_F : Rho → RS := (seqS (drpS (appE need_choice_f (consE (varE 0) nilE))) (seqS (drpS (appE need_choice_f (consE (varE 1) nilE))) (seqS (setS 2 (unE srtD (opE catD (appE (names_in_r 12) (consE (varE 0) nilE)) (appE (names_in_r 12) (consE (varE 1) nilE))))) (seqS (drpS (appE need_f (consE (opE leD (calE lenB (consE (varE 2) nilE)) (conE (.int 6))) nilE))) (seqS (setS 3 (lstE (consE (lstE nilE) nilE))) (seqS (forS (itE (varE 2)) (.one 4) (setS 3 (opE catD (varE 3) (compE (itE (varE 3)) [5] (.one 5) yesE (opE catD (varE 5) (lstE (consE (varE 4) nilE))))))) (seqS (forS (itE (unE srkD (varE 3))) (.one 5) (ifS (tstE (opE neD (appE (is_so_r 12) (consE (varE 0) (consE (varE 5) nilE))) (appE (is_so_r 12) (consE (varE 1) (consE (varE 5) nilE))))) (retS (varE 5)) nxS)) (retS (conE .non)))))))))
def unlike_by_f : List D → R D := runF 6 unlike_by_F
def _law_tower_F : Rho → RS := (seqS (setS 1 (tupE (consE (conE (.str "name")) (consE (conE (.str "a")) nilE)))) (seqS (forS (rngE (consE (varE 0) nilE)) (.one 2) (setS 1 (opE ixD2 (lstE (consE (tupE (consE (conE (.str "not")) (consE (varE 1) nilE))) (consE (tupE (consE (conE (.str "or")) (consE (tupE (consE (conE (.str "name")) (consE (conE (.str "b")) nilE))) (consE (varE 1) nilE)))) nilE))) (opE modD (varE 2) (conE (.int 2)))))) (retS (varE 1))))
def _law_tower_f : List D → R D := runF 3 _law_tower_F
def _law_none_F : Rho → RS := (seqS (setS 0 (tupE (consE (conE (.str "name")) (consE (conE (.str "a")) nilE)))) (seqS (setS 1 (lstE (consE (conE .non) (consE (conE (.str "a")) (consE (tupE nilE) (consE (tupE (consE (conE (.str "name")) nilE)) (consE (tupE (consE (conE (.str "name")) (consE (conE (.str "and")) nilE))) (consE (tupE (consE (conE (.str "name")) (consE (conE (.str "row")) nilE))) (consE (tupE (consE (conE (.str "name")) (consE (conE (.str "A")) nilE))) nilE))))))))) (seqS (setS 1 (opE catD (varE 1) (lstE (consE (tupE (consE (conE (.str "name")) (consE (conE (.str "")) nilE))) (consE (tupE (consE (conE (.str "name")) (consE (conE (.int 5)) nilE))) (consE (lstE (consE (conE (.str "name")) (consE (conE (.str "a")) nilE))) nilE)))))) (seqS (setS 1 (opE catD (varE 1) (lstE (consE (tupE (consE (conE (.str "name")) (consE (conE (.str "a")) (consE (varE 0) nilE)))) (consE (tupE (consE (conE (.str "not")) nilE)) (consE (tupE (consE (conE (.str "not")) (consE (varE 0) (consE (varE 0) nilE)))) (consE (tupE (consE (conE (.str "not")) (consE (conE (.str "a")) nilE))) (consE (tupE (consE (conE (.str "and")) (consE (varE 0) nilE))) nilE)))))))) (seqS (setS 1 (opE catD (varE 1) (lstE (consE (tupE (consE (conE (.str "and")) (consE (varE 0) (consE (varE 0) (consE (varE 0) nilE))))) (consE (tupE (consE (conE (.str "or")) (consE (varE 0) (consE (conE .non) nilE)))) nilE))))) (retS (opE catD (varE 1) (lstE (consE (tupE (consE (conE (.str "xor")) (consE (varE 0) (consE (varE 0) nilE)))) (consE (tupE (consE (conE (.int 5)) (consE (varE 0) nilE))) (consE (tupE (consE (conE (.str "name")) (consE (conE (.str "abcdefghijk")) nilE))) (consE (appE _law_tower_f (consE (conE (.int 8)) nilE)) (consE (tupE (consE (conE (.str "and")) (consE (varE 0) (consE (tupE (consE (conE (.str "or")) (consE (varE 0) nilE))) nilE)))) nilE)))))))))))))
def _law_none_f : List D → R D := runF 2 _law_none_F
def _law_texts_F : Rho → RS := (seqS (setS 0 (lstE (consE (conE (.str "")) (consE (conE (.str "  ")) (consE (conE (.str "and")) (consE (conE (.str "a b")) (consE (conE (.str "a and")) (consE (conE (.str "or a")) (consE (conE (.str "not")) (consE (conE (.str "a not b")) (consE (conE (.str "(a")) (consE (conE (.str "a)")) (consE (conE (.str "()")) nilE))))))))))))) (seqS (setS 0 (opE catD (varE 0) (lstE (consE (conE (.str "a or or b")) (consE (conE (.str "(a) b")) (consE (conE (.str "a and (or b)")) nilE)))))) (seqS (setS 0 (opE catD (varE 0) (lstE (consE (conE (.str "A")) (consE (conE (.str "a1")) (consE (conE (.str "a & b")) (consE (conE (.str "a,b")) (consE (conE (.str "a\n")) (consE (conE (.str "row")) (consE (conE (.str "a or row")) (consE (conE (.str "abcdefghijk")) (consE (conE (.str "not not")) nilE)))))))))))) (seqS (setS 0 (opE catD (varE 0) (lstE (consE (conE (.str "((a)")) (consE (conE (.str "not (a b)")) (consE (conE (.str "a - b")) nilE)))))) (retS (opE catD (varE 0) (lstE (consE (opE addD (opE repSD (conE (.str "not ")) (conE (.int 8))) (conE (.str "a"))) (consE (opE addD (conE (.str "a")) (opE repSD (conE (.str " or a")) (conE (.int 8)))) (consE (opE addD (opE repSD (conE (.str "a or ")) (conE (.int 20))) (conE (.str "a"))) (consE (opE addD (opE addD (opE repSD (conE (.str "(")) (conE (.int 50))) (conE (.str "a"))) (opE repSD (conE (.str ")")) (conE (.int 50)))) nilE)))))))))))
def _law_texts_f : List D → R D := runF 1 _law_texts_F
def Reader__init_F : Rho → List D → RSM := (seqM (setFM "Reader" "words" (varM 0) (varM 1)) (setFM "Reader" "reached" (varM 0) (pureM (conE (.int 0)))))
def Reader__init_f : List D → List D → RM D := runM 2 Reader__init_F
def Reader__ahead_F : Rho → RS := (retS (ifE (tstE (opE ltD (unE (fldD ["Reader"] "reached") (varE 0)) (calE lenB (consE (unE (fldD ["Reader"] "words") (varE 0)) nilE)))) (opE ixD2 (unE (fldD ["Reader"] "words") (varE 0)) (unE (fldD ["Reader"] "reached") (varE 0))) (conE (.str ""))))
def Reader__ahead_f : List D → R D := runF 1 Reader__ahead_F
def Reader__take_F : Rho → List D → RSM := (seqM (setM 1 (pureM (methE "Reader" "ahead" Reader__ahead_f (varE 0) nilE))) (seqM (setFM "Reader" "reached" (varM 0) (pureM (opE addD (unE (fldD ["Reader"] "reached") (varE 0)) (conE (.int 1))))) (retM (varM 1))))
def Reader__take_f : List D → List D → RM D := runM 2 Reader__take_F
def Reader__choice_F (r_Reader__choice : List D → List D → RM D) (r_Reader__one : List D → List D → RM D) : Rho → List D → RSM := (seqM (setM 2 (methM "Reader" "one" r_Reader__one (varM 0) nilM)) (seqM (whlLM (tstM (andT (tstE (opE (inD2 false) (methE "Reader" "ahead" Reader__ahead_f (varE 0) nilE) (tupE (consE (conE (.str "and")) (consE (conE (.str "or")) nilE))))) (tstE (opE geD (unE (ixK kv_STRENGTHS) (methE "Reader" "ahead" Reader__ahead_f (varE 0) nilE)) (varE 1))))) (seqM (setM 3 (methM "Reader" "take" Reader__take_f (varM 0) nilM)) (setM 2 (tupM (consM (varM 3) (consM (varM 2) (consM (methM "Reader" "choice" r_Reader__choice (varM 0) (consM (pureM (opE addD (unE (ixK kv_STRENGTHS) (varE 3)) (conE (.int 1)))) nilM)) nilM)))))) 40) (retM (varM 2))))
def Reader__one_F (r_Reader__choice : List D → List D → RM D) (r_Reader__one : List D → List D → RM D) : Rho → List D → RSM := (seqM (setM 1 (methM "Reader" "take" Reader__take_f (varM 0) nilM)) (seqM (ifM (tstM (tstE (opE eqD (varE 1) (conE (.str "not"))))) (retM (tupM (consM (pureM (conE (.str "not"))) (consM (methM "Reader" "one" r_Reader__one (varM 0) nilM) nilM)))) nxM) (seqM (ifM (tstM (tstE (opE eqD (varE 1) (conE (.str "("))))) (seqM (setM 2 (methM "Reader" "choice" r_Reader__choice (varM 0) (consM (pureM (conE (.int 1))) nilM))) (seqM (drpM (appM need_f (consM (opM eqD (methM "Reader" "take" Reader__take_f (varM 0) nilM) (pureM (conE (.str ")")))) nilM))) (retM (varM 2)))) nxM) (seqM (drpM (pureM (appE need_f (consE (appE is_name_f (consE (varE 1) nilE)) nilE)))) (retM (pureM (tupE (consE (conE (.str "name")) (consE (varE 1) nilE)))))))))
def Reader__choice_g : Nat → (List D → List D → RM D) × (List D → List D → RM D)
  | 0 => (fun _ _ => .stuck, fun _ _ => .stuck)
  | n + 1 => (runM 4 (Reader__choice_F (Reader__choice_g n).1 (Reader__choice_g n).2), runM 3 (Reader__one_F (Reader__choice_g n).1 (Reader__choice_g n).2))
def Reader__choice_r (n : Nat) : List D → List D → RM D := (Reader__choice_g n).1
def Reader__one_r (n : Nat) : List D → List D → RM D := (Reader__choice_g n).2
def words_of_F : Rho → RS := (seqS (drpS (appE need_f (consE (opE leD (calE lenB (consE (varE 0) nilE)) (conE (.int 100))) nilE))) (seqS (setS 1 (lstE nilE)) (seqS (setS 2 (conE (.int 0))) (seqS (whlS 110 (tstE (opE ltD (varE 2) (calE lenB (consE (varE 0) nilE)))) (seqS (setS 3 (varE 2)) (seqS (whlS 40 (andT (tstE (opE ltD (varE 3) (calE lenB (consE (varE 0) nilE)))) (tstE (opE (inD2 false) (opE ixD2 (varE 0) (varE 3)) (conE (.str "abcdefghijklmnopqrstuvwxyz"))))) (setS 3 (opE addD (varE 3) (conE (.int 1))))) (seqS (ifS (tstE (opE gtD (varE 3) (varE 2))) (appS 1 (slcE sliD (varE 0) (somO (varE 2)) (somO (varE 3)))) (seqS (drpS (appE need_f (consE (opE (inD2 false) (opE ixD2 (varE 0) (varE 2)) (conE (.str "() "))) nilE))) (seqS (setS 3 (opE addD (varE 2) (conE (.int 1)))) (extS 1 (ifE (tstE (opE neD (opE ixD2 (varE 0) (varE 2)) (conE (.str " ")))) (lstE (consE (opE ixD2 (varE 0) (varE 2)) nilE)) (lstE nilE)))))) (setS 2 (varE 3)))))) (retS (varE 1))))))
def words_of_f : List D → R D := runF 4 words_of_F
def read_choice_F : Rho → List D → RSM := (seqM (setM 1 (makeM "Reader" Reader__init_f (consM (newX (appE words_of_f (consE (varE 0) nilE))) nilM))) (seqM (setM 2 (methM "Reader" "choice" (Reader__choice_r 110) (varM 1) (consM (pureM (conE (.int 1))) nilM))) (seqM (drpM (pureM (appE need_f (consE (opE eqD (methE "Reader" "ahead" Reader__ahead_f (varE 1) nilE) (conE (.str ""))) nilE)))) (seqM (drpM (pureM (appE need_choice_f (consE (varE 2) nilE)))) (retX (varM 2))))))
def read_choice_f : List D → R D := runX 3 read_choice_F
def _law_nots_F : Rho → RS := (seqS (setS 1 (tupE (consE (conE (.str "name")) (consE (conE (.str "a")) nilE)))) (seqS (forS (rngE (consE (varE 0) nilE)) (.one 2) (setS 1 (tupE (consE (conE (.str "not")) (consE (varE 1) nilE))))) (retS (varE 1))))
def _law_nots_f : List D → R D := runF 3 _law_nots_F
def within_F (r_within : List D → R D) (r_plain_text : List D → R D) : Rho → RS := (seqS (setS 2 (appE r_plain_text (consE (varE 0) nilE))) (retS (ifE (tstE (opE geD (unE (ixK kv_STRENGTHS) (opE ixD2 (varE 0) (conE (.int 0)))) (varE 1))) (varE 2) (opE addD (opE addD (conE (.str "(")) (varE 2)) (conE (.str ")"))))))
def plain_text_F (r_within : List D → R D) (r_plain_text : List D → R D) : Rho → RS := (seqS (setS 1 (opE ixD2 (varE 0) (conE (.int 0)))) (seqS (ifS (tstE (opE eqD (varE 1) (conE (.str "name")))) (retS (opE ixD2 (varE 0) (conE (.int 1)))) nxS) (seqS (setS 2 (unE (ixK kv_STRENGTHS) (varE 1))) (seqS (ifS (tstE (opE eqD (varE 1) (conE (.str "not")))) (retS (opE addD (conE (.str "not ")) (appE r_within (consE (opE ixD2 (varE 0) (conE (.int 1))) (consE (varE 2) nilE))))) nxS) (retS (opE addD (opE addD (opE addD (opE addD (appE r_within (consE (opE ixD2 (varE 0) (conE (.int 1))) (consE (varE 2) nilE))) (conE (.str " "))) (varE 1)) (conE (.str " "))) (appE r_within (consE (opE ixD2 (varE 0) (conE (.int 2))) (consE (opE addD (varE 2) (conE (.int 1))) nilE)))))))))
def within_g : Nat → (List D → R D) × (List D → R D)
  | 0 => (fun _ => .stuck, fun _ => .stuck)
  | n + 1 => (runF 3 (within_F (within_g n).1 (within_g n).2), runF 3 (plain_text_F (within_g n).1 (within_g n).2))
def within_r (n : Nat) : List D → R D := (within_g n).1
def plain_text_r (n : Nat) : List D → R D := (within_g n).2
def written_choice_F : Rho → RS := (seqS (drpS (appE need_choice_f (consE (varE 0) nilE))) (retS (appE (plain_text_r 24) (consE (varE 0) nilE))))
def written_choice_f : List D → R D := runF 1 written_choice_F
def is_chosen_F : Rho → RS := (seqS (drpS (appE need_choice_f (consE (varE 0) nilE))) (retS (appE (is_so_r 12) (consE (varE 0) (consE (varE 1) nilE)))))
def is_chosen_f : List D → R D := runF 2 is_chosen_F
def law_F : Rho → RS := (seqS (forS (rngE (consE (calE max2B (consE (conE (.int 1)) (consE (calE min2B (consE (conE (.int 4)) (consE (calE lenB (consE (varE 0) nilE)) nilE))) nilE))) nilE)) (.one 1) (seqS (setS 2 (appE _law_drawn_f (consE (appE _law_cell_f (consE (varE 0) (consE (varE 1) nilE))) (consE (varE 1) nilE)))) (seqS (forS (rngE (consE (conE (.int 5)) nilE)) (.one 3) (seqS (setS 4 (appE _law_drawn_f (consE (varE 2) (consE (varE 3) nilE)))) (seqS (setS 5 (tupE (consE (conE (.str "name")) (consE (conE (.str "a")) nilE)))) (seqS (setS 6 (opE ixD2 (appE _law_none_f nilE) (opE modD (opE divD (varE 4) (conE (.int 8))) (calE lenB (consE (appE _law_none_f nilE) nilE))))) (seqS (setS 7 (opE ixD2 (lstE (consE (varE 6) (consE (tupE (consE (conE (.str "not")) (consE (varE 6) nilE))) (consE (tupE (consE (conE (.str "and")) (consE (varE 5) (consE (varE 6) nilE)))) (consE (tupE (consE (conE (.str "or")) (consE (varE 6) (consE (varE 5) nilE)))) (consE (tupE (consE (conE (.str "not")) (consE (tupE (consE (conE (.str "or")) (consE (varE 5) (consE (varE 6) nilE)))) nilE))) nilE)))))) (opE modD (varE 4) (conE (.int 5))))) (seqS (setS 8 (lstE (consE (toldX (appE need_choice_f (consE (varE 7) nilE))) nilE))) (seqS (appS 8 (toldX (appE written_choice_f (consE (varE 7) nilE)))) (seqS (appS 8 (toldX (appE is_chosen_f (consE (varE 7) (consE (lstE (consE (conE (.str "a")) nilE)) nilE))))) (seqS (appS 8 (toldX (appE unlike_by_f (consE (varE 5) (consE (varE 7) nilE))))) (seqS (appS 8 (toldX (appE unlike_by_f (consE (varE 7) (consE (varE 5) nilE))))) (seqS (ifS (tstE (opE neD (varE 8) (opE repLD (lstE (consE (tupE (consE (conE (.str "refused")) (consE (conE (.str "BadChoice")) nilE))) nilE)) (conE (.int 5))))) (retS (conE (.bl false))) nxS) (seqS (setS 9 (opE ixD2 (appE _law_texts_f nilE) (opE modD (opE divD (varE 4) (opE powD (conE (.int 2)) (conE (.int 20)))) (calE lenB (consE (appE _law_texts_f nilE) nilE))))) (ifS (tstE (opE neD (toldX (appE read_choice_f (consE (varE 9) nilE))) (tupE (consE (conE (.str "refused")) (consE (conE (.str "BadChoice")) nilE))))) (retS (conE (.bl false))) nxS))))))))))))) (seqS (ifS (orT (tstE (opE neD (appE read_choice_f (consE (opE addD (opE repSD (conE (.str "not ")) (conE (.int 7))) (conE (.str "a"))) nilE)) (appE _law_nots_f (consE (conE (.int 7)) nilE)))) (tstE (unE isntNonD (appE need_choice_f (consE (appE _law_tower_f (consE (conE (.int 7)) nilE)) nilE))))) (retS (conE (.bl false))) nxS) (seqS (forS (itE (lstE (consE (opE addD (opE addD (opE repSD (conE (.str " ")) (conE (.int 50))) (conE (.str "a"))) (opE repSD (conE (.str " ")) (conE (.int 49)))) (consE (opE addD (opE addD (opE repSD (conE (.str "(")) (conE (.int 49))) (conE (.str "a"))) (opE repSD (conE (.str ")")) (conE (.int 49)))) nilE)))) (.one 9) (ifS (tstE (opE neD (appE read_choice_f (consE (varE 9) nilE)) (tupE (consE (conE (.str "name")) (consE (conE (.str "a")) nilE))))) (retS (conE (.bl false))) nxS)) (seqS (setS 10 (tupE (consE (conE (.str "or")) (consE (tupE (consE (conE (.str "or")) (consE (tupE (consE (conE (.str "or")) (consE (tupE (consE (conE (.str "name")) (consE (conE (.str "a")) nilE))) (consE (tupE (consE (conE (.str "name")) (consE (conE (.str "b")) nilE))) nilE)))) (consE (tupE (consE (conE (.str "or")) (consE (tupE (consE (conE (.str "name")) (consE (conE (.str "c")) nilE))) (consE (tupE (consE (conE (.str "name")) (consE (conE (.str "d")) nilE))) nilE)))) nilE)))) (consE (appE _law_pairs_f nilE) nilE))))) (seqS (ifS (tstE (unE isntNonD (appE unlike_by_f (consE (varE 10) (consE (varE 10) nilE))))) (retS (conE (.bl false))) nxS) (ifS (tstE (opE neD (toldX (appE unlike_by_f (consE (varE 10) (consE (tupE (consE (conE (.str "name")) (consE (conE (.str "g")) nilE))) nilE)))) (tupE (consE (conE (.str "refused")) (consE (conE (.str "BadChoice")) nilE))))) (retS (conE (.bl false))) nxS)))))))) (retS (conE (.bl true))))
def law_f : List D → R D := runF 11 law_F
end Kk51
namespace Kk51
open PySem PySem.Spec PyProof.Rows L2 BV
theorem drawn_ok (c k : Int) : _law_drawn_f [.int c, .int k] = .ok (.int (dr c k)) := by
  have ha : ∀ x : Int, 0 ≤ x % 340282366920938463463374607431768211507 ∧ x % 340282366920938463463374607431768211507 < 2 ^ 129 := fun x =>
    ⟨Int.emod_nonneg _ (by decide), Int.lt_trans (Int.emod_lt_of_pos _ (by decide)) (by decide)⟩
  have hb : ∀ x : Int, 0 ≤ x % 340282366920938463463374607431768211297 ∧ x % 340282366920938463463374607431768211297 < 2 ^ 128 := fun x =>
    ⟨Int.emod_nonneg _ (by decide), Int.lt_trans (Int.emod_lt_of_pos _ (by decide)) (by decide)⟩
  have l1 := log_le (ha (c * 6364136223846793005 + (k + 1) * 1442695040888963407)).1 (ha _).2 (by decide)
  generalize e1 : (c * 6364136223846793005 + (k + 1) * 1442695040888963407) % 340282366920938463463374607431768211507 = a at l1
  have h2 := hb (a * a)
  generalize e2 : a * a % 340282366920938463463374607431768211297 = b at h2
  have l2 := log_le h2.1 h2.2 (by decide)
  have m1 : 0 ≤ b % 18446744073709551557 ∧ b % 18446744073709551557 < 18446744073709551557 := ⟨Int.emod_nonneg _ (by decide), Int.emod_lt_of_pos _ (by decide)⟩
  have m2 : 0 ≤ b / 18446744073709551557 := Int.ediv_nonneg h2.1 (by decide)
  have m3 : b / 18446744073709551557 < 2 ^ 128 := Int.lt_of_le_of_lt (Int.ediv_le_self _ h2.1) h2.2
  have l3 : (b % 18446744073709551557 + 1).natAbs.log2 < 65 := log_le (by omega) (by omega) (by decide)
  have l4 : (b / 18446744073709551557 + 1).natAbs.log2 < 129 := log_le (by omega) (by omega) (by decide)
  have m5 : 0 ≤ (b % 18446744073709551557 + 1) * (b / 18446744073709551557 + 1) := Int.mul_nonneg (by omega) (by omega)
  have m6 : (b % 18446744073709551557 + 1) * (b / 18446744073709551557 + 1) < 2 ^ 200 := by
    calc (b % 18446744073709551557 + 1) * (b / 18446744073709551557 + 1) ≤ 18446744073709551557 * (b / 18446744073709551557 + 1) := Int.mul_le_mul_of_nonneg_right (by omega) (by omega)
      _ ≤ 18446744073709551557 * (2 ^ 128 + 1) := Int.mul_le_mul_of_nonneg_left (by omega) (by decide)
      _ < 2 ^ 200 := by decide
  have l5 := log_le m5 m6 (by decide)
  unfold _law_drawn_f _law_drawn_F
  simp only [runF_ap, List.map, List.length, List.replicate, List.append, List.cons_append, List.nil_append, seqS_ap, setS_ap, opE_ap, varE_0, varE_s, conE_ap, R.of, R.op2_ok, mulRD_int _ _ (show -(2 ^ 64 : Int) < 6364136223846793005 ∧ (6364136223846793005 : Int) < 2 ^ 64 by decide), mulRD_int _ _ (show -(2 ^ 64 : Int) < 1442695040888963407 ∧ (1442695040888963407 : Int) < 2 ^ 64 by decide), addD_int,
    modD_int _ _ (show (0 : Int) < 340282366920938463463374607431768211507 by decide), R.set_ok, List.set, RS.seq_nx, e1, mulD_int a a (by omega), modD_int _ _ (show (0 : Int) < 340282366920938463463374607431768211297 by decide), e2,
    modD_int _ _ (show (0 : Int) < 18446744073709551557 by decide), divD_int _ _ (show (0 : Int) < 18446744073709551557 ∧ (18446744073709551557 : Int).natAbs.log2 < 9000 by decide +kernel), mulD_int (b % 18446744073709551557 + 1) (b / 18446744073709551557 + 1) (by omega), mulD_int _ b (show ((b % 18446744073709551557 + 1) * (b / 18446744073709551557 + 1)).natAbs.log2 + b.natAbs.log2 < 1000000 by omega), retS_ap, RS.bind, out_rt]
  unfold dr
  simp only [e1, e2]
theorem cell_ok (ns : List Int) (k : Int) (hk : 0 ≤ k) (hl : ns.length ≤ 63) : ∃ c, _law_cell_f [.scr ns, .int k] = .ok (.int c) := by
  unfold _law_cell_f _law_cell_F
  simp only [runF_ap, List.map, List.length, List.replicate, List.append, List.cons_append, List.nil_append, seqS_ap, ifS_ap, tstE_ap, opE_ap, varE_0, varE_s, R.of, lstE_ap, nilE_ap, R.bind, R.op2_ok, eqD_scr_nil, bind_asB_bl]
  cases h : ns.isEmpty with
  | true =>
    simp only [RS.ite_tt, retS_ap, opE_ap, varE_0, varE_s, conE_ap, R.of, R.op2_ok, mulRD_int _ _ (show -(2 ^ 64 : Int) < 7919 ∧ (7919 : Int) < 2 ^ 64 by decide), RS.bind, RS.seq_rt, out_rt]
    exact ⟨_, rfl⟩
  | false =>
    have hp : 0 < ns.length := by
      cases ns with
      | nil => cases h
      | cons a b => simp
    have hp2 : (0 : Int) < ns.length := by omega
    obtain ⟨y, hy, _⟩ := atI_nat (xs := ns) (i := k % ns.length) (Int.emod_nonneg _ (by omega)) (Int.emod_lt_of_pos _ hp2)
    have hx : ixD (.scr ns) (.int (k % ns.length)) = some (.int y) := by
      unfold ixD
      simp only [hy, Option.map]
    have lg : (ns.length : Int).natAbs.log2 < 9000 := by
      have : ns.length.log2 < 7 := log2_small (by omega) (by decide)
      simp only [Int.natAbs_natCast]
      omega
    simp only [RS.ite_ff, nxS_ap, RS.seq_nx, retS_ap, opE_ap, varE_0, varE_s, conE_ap, R.of, calE_ap, consE_ap, nilE_ap, R.cons_ok, R.bind, lenB, R.op2_ok, modD_int k _ hp2, divD_int k _ ⟨hp2, lg⟩, ixD2_scr, hx, mulRD_int _ _ (show -(2 ^ 64 : Int) < 104729 ∧ (104729 : Int) < 2 ^ 64 by decide), addD_int, RS.bind, out_rt]
    exact ⟨_, rfl⟩
end Kk51
namespace Kk51
open PySem PySem.Spec PyProof.Rows L2 BV
abbrev refD : D := .tup [.str (Str.ofString "refused"), .str (Str.ofString "BadChoice")]
abbrev badC : Exc := ⟨"BadChoice", [], []⟩
def isBad : R D → Bool
  | .exc ⟨n, [], []⟩ => n == "BadChoice"
  | _ => false
theorem isBad_eq {r : R D} (h : isBad r = true) : r = .exc badC := by
  unfold isBad at h
  split at h
  · rw [eq_of_beq h]
  · cases h
def lstOf : R D → List D
  | .ok (.lst l) => l
  | _ => []
def NONES : List D := lstOf (_law_none_f [])
def TEXTS : List D := lstOf (_law_texts_f [])
theorem nones_eq : _law_none_f [] = .ok (.lst NONES) := by kernel_rfl
theorem texts_eq : _law_texts_f [] = .ok (.lst TEXTS) := by kernel_rfl
abbrev nA : D := .tup [.str (Str.ofString "name"), .str (Str.ofString "a")]
def forms (n : D) : List D := [n, .tup [.str (Str.ofString "not"), n], .tup [.str (Str.ofString "and"), nA, n], .tup [.str (Str.ofString "or"), n, nA], .tup [.str (Str.ofString "not"), .tup [.str (Str.ofString "or"), nA, n]]]
def bad5 (t : D) : Bool := isBad (need_choice_f [t]) && (isBad (written_choice_f [t]) && (isBad (is_chosen_f [t, .lst [.str (Str.ofString "a")]]) && (isBad (unlike_by_f [nA, t]) && isBad (unlike_by_f [t, nA]))))
theorem all_bad : (NONES.all fun n => (forms n).all bad5) = true := by kernel_rfl
theorem all_texts : (TEXTS.all fun t => isBad (read_choice_f [t])) = true := by kernel_rfl
end Kk51
namespace Kk51
open PySem PySem.Spec PyProof.Rows L2 BV
theorem toldX_ap (f : Rho → R D) (ρ : Rho) : toldX f ρ = toldRX (f ρ) := rfl
theorem toldRX_bad : toldRX (.exc badC) = .ok refD := by kernel_rfl
theorem n_pos : 0 < NONES.length := by decide +kernel
theorem t_pos : 0 < TEXTS.length := by decide +kernel
theorem at_mem {l : List D} (h : 0 < l.length) (z : Int) : ∃ y ∈ l, ixD2 (.lst l) (.int (z % (l.length : Int))) = some y := by
  obtain ⟨y, e1, e2⟩ := atI_nat (xs := l) (i := z % (l.length : Int)) (Int.emod_nonneg _ (by omega)) (Int.emod_lt_of_pos _ (by omega))
  exact ⟨y, List.mem_of_getElem? e2, e1⟩
theorem bad_of {n t : D} (hn : n ∈ NONES) (ht : t ∈ forms n) : need_choice_f [t] = .exc badC ∧ written_choice_f [t] = .exc badC ∧ is_chosen_f [t, .lst [.str (Str.ofString "a")]] = .exc badC ∧ unlike_by_f [nA, t] = .exc badC ∧ unlike_by_f [t, nA] = .exc badC := by
  have h := List.all_eq_true.mp (List.all_eq_true.mp all_bad n hn) t ht
  unfold bad5 at h
  simp only [Bool.and_eq_true] at h
  exact ⟨isBad_eq h.1, isBad_eq h.2.1, isBad_eq h.2.2.1, isBad_eq h.2.2.2.1, isBad_eq h.2.2.2.2⟩
theorem text_of {t : D} (ht : t ∈ TEXTS) : read_choice_f [t] = .exc badC := isBad_eq (List.all_eq_true.mp all_texts t ht)
theorem pow20 : powD (.int 2) (.int 20) = some (.int 1048576) := by kernel_rfl
theorem app_ok5 {ds : List D} {d : D} {i : Nat} {ρ : Rho} (h : ds.length < 10) : R.app (.ok ds) (.ok d) i ρ = .nx (ρ.set i (some (.lst (ds ++ [d])))) := app_ok (Nat.lt_of_lt_of_le h (by decide))
theorem five_ne : neD (.lst [refD, refD, refD, refD, refD]) (.lst [refD, refD, refD, refD, refD]) = some (.bl false) := by kernel_rfl
theorem five_rep : repLD (.lst [refD]) (.int 5) = some (.lst [refD, refD, refD, refD, refD]) := by kernel_rfl
theorem ref_ne : neD refD refD = some (.bl false) := by kernel_rfl
theorem inner_ok (s k o4 o5 o6 o7 o8 o9 o10 : Option D) (m j : Int) :
    ∃ p4 p5 p6 p7 p8 p9, ((seqS (setS 4 (appE _law_drawn_f (consE (varE 2) (consE (varE 3) nilE)))) (seqS (setS 5 (tupE (consE (conE (.str "name")) (consE (conE (.str "a")) nilE)))) (seqS (setS 6 (opE ixD2 (appE _law_none_f nilE) (opE modD (opE divD (varE 4) (conE (.int 8))) (calE lenB (consE (appE _law_none_f nilE) nilE))))) (seqS (setS 7 (opE ixD2 (lstE (consE (varE 6) (consE (tupE (consE (conE (.str "not")) (consE (varE 6) nilE))) (consE (tupE (consE (conE (.str "and")) (consE (varE 5) (consE (varE 6) nilE)))) (consE (tupE (consE (conE (.str "or")) (consE (varE 6) (consE (varE 5) nilE)))) (consE (tupE (consE (conE (.str "not")) (consE (tupE (consE (conE (.str "or")) (consE (varE 5) (consE (varE 6) nilE)))) nilE))) nilE)))))) (opE modD (varE 4) (conE (.int 5))))) (seqS (setS 8 (lstE (consE (toldX (appE need_choice_f (consE (varE 7) nilE))) nilE))) (seqS (appS 8 (toldX (appE written_choice_f (consE (varE 7) nilE)))) (seqS (appS 8 (toldX (appE is_chosen_f (consE (varE 7) (consE (lstE (consE (conE (.str "a")) nilE)) nilE))))) (seqS (appS 8 (toldX (appE unlike_by_f (consE (varE 5) (consE (varE 7) nilE))))) (seqS (appS 8 (toldX (appE unlike_by_f (consE (varE 7) (consE (varE 5) nilE))))) (seqS (ifS (tstE (opE neD (varE 8) (opE repLD (lstE (consE (tupE (consE (conE (.str "refused")) (consE (conE (.str "BadChoice")) nilE))) nilE)) (conE (.int 5))))) (retS (conE (.bl false))) nxS) (seqS (setS 9 (opE ixD2 (appE _law_texts_f nilE) (opE modD (opE divD (varE 4) (opE powD (conE (.int 2)) (conE (.int 20)))) (calE lenB (consE (appE _law_texts_f nilE) nilE))))) (ifS (tstE (opE neD (toldX (appE read_choice_f (consE (varE 9) nilE))) (tupE (consE (conE (.str "refused")) (consE (conE (.str "BadChoice")) nilE))))) (retS (conE (.bl false))) nxS))))))))))))) [s, k, some (.int m), some (.int j), o4, o5, o6, o7, o8, o9, o10] = .nx [s, k, some (.int m), some (.int j), p4, p5, p6, p7, p8, p9, o10] := by
  generalize hz : dr m j = z
  obtain ⟨n, hn, en⟩ := at_mem n_pos (z / 8)
  obtain ⟨t, ht, et⟩ := at_mem (l := forms n) (by show 0 < 5; decide) z
  have et : ixD2 (.lst (forms n)) (.int (z % 5)) = some t := et
  unfold forms at et
  obtain ⟨x, hx, ex⟩ := at_mem t_pos (z / 1048576)
  obtain ⟨b1, b2, b3, b4, b5⟩ := bad_of hn ht
  have bt := text_of hx
  have d8 : divD (.int z) (.int 8) = some (.int (z / 8)) := divD_int _ _ ⟨by decide, lg8⟩
  have dp : divD (.int z) (.int 1048576) = some (.int (z / 1048576)) := divD_int _ _ ⟨by decide, by decide +kernel⟩
  have m5 : modD (.int z) (.int 5) = some (.int (z % 5)) := modD_int _ _ (by decide)
  have mn := modD_int (z / 8) (NONES.length : Int) (by have := n_pos; omega)
  have mt := modD_int (z / 1048576) (TEXTS.length : Int) (by have := t_pos; omega)
  refine ⟨some (.int z), some nA, some n, some t, some (.lst [refD, refD, refD, refD, refD]), some x, ?_⟩
  simp only [runF_ap, List.map, List.length, List.replicate, List.append, List.cons_append, List.nil_append, seqS_ap, setS_ap, ifS_ap, ifE_ap, orT_ap, andT_ap, notT_ap, tstE_ap, opE_ap, unE_ap, varE_0, varE_s, conE_ap, R.of, R.op2_ok, R.set_ok, List.set, RS.seq_nx, RS.seq_rt, RS.seq_exc, R.bind, RS.bind, bind_asB_bl, lstE_ap, tupE_ap, consE_ap, nilE_ap, R.cons_ok, appE_ap, calE_ap, retS_ap, nxS_ap, out_rt, out_nx, out_exc, RS.ite_tt, RS.ite_ff, R.ite_tt, R.ite_ff, okT_ap, okF_ap, dT_ap, dF_ap, andE_ap, orE_ap, notE_ap, notR_ok, nbl_ok, compE_ap, itE_ap, rngE_ap, D.iter, wipeR, slcE_ap, somO_ap, nonO_ap, asI_int, asS_str, joinE_ap, addD_int, subD_int, ltD_int, leD_int, gtD_int, geD_int, negD_int, eqD_int, neD_int, eqD_str, neD_str, excS_ap, forS_ap, ownL_0, ownL_s, appS_ap, decide_true, decide_false, Bool.not_true, Bool.not_false, drawn_ok, hz, nones_eq, texts_eq, lenB, d8, dp, m5, mn, mt, en, et, ex, pow20, toldX_ap, b1, b2, b3, b4, b5, bt, toldRX_bad, app_ok5 (show [refD].length < 10 by decide), app_ok5 (show [refD, refD].length < 10 by decide), app_ok5 (show [refD, refD, refD].length < 10 by decide), app_ok5 (show [refD, refD, refD, refD].length < 10 by decide), five_rep, five_ne, ref_ne]
/-! ### a whole choice is like itself -/
abbrev nm (x : Str) : D := .tup [.str (Str.ofString "name"), .str x]
abbrev orD (a b : D) : D := .tup [.str (Str.ofString "or"), a, b]
abbrev andD (a b : D) : D := .tup [.str (Str.ofString "and"), a, b]
def WH : D := orD (orD (orD (nm "a") (nm "b")) (orD (nm "c") (nm "d"))) (andD (nm "e") (nm "f"))
theorem o_n : (Str.ofString "or" == Str.ofString "name") = false := by kernel_rfl
theorem o_t : (Str.ofString "or" == Str.ofString "not") = false := by kernel_rfl
theorem o_a : (Str.ofString "or" == Str.ofString "and") = false := by kernel_rfl
theorem a_n : (Str.ofString "and" == Str.ofString "name") = false := by kernel_rfl
theorem a_t : (Str.ofString "and" == Str.ofString "not") = false := by kernel_rfl
theorem a_a : (Str.ofString "and" == Str.ofString "and") = true := by kernel_rfl
theorem n_n : (Str.ofString "name" == Str.ofString "name") = true := by kernel_rfl
theorem sca_bl (b : Bool) : (D.bl b).sca = some (.bl b) := rfl
theorem ix0 (a : D) (ds : List D) : ixD2 (.tup (a :: ds)) (.int 0) = some a := by rw [ixD2_tup]; exact ix_tup (i := 0) rfl
theorem ix1 (a b : D) (ds : List D) : ixD2 (.tup (a :: b :: ds)) (.int 1) = some b := by rw [ixD2_tup]; exact ix_tup (i := 1) rfl
theorem ix2 (a b c : D) (ds : List D) : ixD2 (.tup (a :: b :: c :: ds)) (.int 2) = some c := by rw [ixD2_tup]; exact ix_tup (i := 2) rfl
theorem so_name (m : Nat) (x : Str) (ys : List Str) : ∃ b, is_so_r (m + 1) [nm x, rowD2 ys] = .ok (.bl b) := by
  have h1 : okD (rowD2 ys) = true := okD_lst fun d hd => by
    obtain ⟨y, _, rfl⟩ := List.mem_map.mp hd
    exact ⟨rfl, Nat.zero_le _⟩
  have e : inD2 false (.str x) (rowD2 ys) = some (.bl (xor false ((ys.map D.str).any fun z => eqv z (.str x)))) := by
    show (if (okD (.str x) && okD (rowD2 ys)) = true then some (D.bl (xor false ((ys.map D.str).any fun z => eqv z (.str x)))) else none) = _
    rw [h1]
    exact if_pos rfl
  generalize xor false ((ys.map D.str).any fun z => eqv z (.str x)) = b at e
  refine ⟨b, ?_⟩
  unfold is_so_r is_so_F
  simp only [runF_ap, List.map, List.length, List.replicate, List.append, List.cons_append, List.nil_append, seqS_ap, setS_ap, ifS_ap, ifE_ap, orT_ap, andT_ap, notT_ap, tstE_ap, opE_ap, unE_ap, varE_0, varE_s, conE_ap, R.of, R.op2_ok, R.set_ok, List.set, RS.seq_nx, RS.seq_rt, RS.seq_exc, R.bind, RS.bind, bind_asB_bl, lstE_ap, tupE_ap, consE_ap, nilE_ap, R.cons_ok, appE_ap, calE_ap, retS_ap, nxS_ap, out_rt, out_nx, out_exc, RS.ite_tt, RS.ite_ff, R.ite_tt, R.ite_ff, okT_ap, okF_ap, dT_ap, dF_ap, andE_ap, orE_ap, notE_ap, notR_ok, nbl_ok, compE_ap, itE_ap, rngE_ap, D.iter, wipeR, slcE_ap, somO_ap, nonO_ap, asI_int, asS_str, joinE_ap, addD_int, subD_int, ltD_int, leD_int, gtD_int, geD_int, negD_int, eqD_int, neD_int, eqD_str, neD_str, excS_ap, forS_ap, ownL_0, ownL_s, appS_ap, decide_true, decide_false, Bool.not_true, Bool.not_false, ix0, ix1, n_n, e]
  try rfl
theorem so_or {m : Nat} {a b L : D} (ha : ∃ p, is_so_r m [a, L] = .ok (.bl p)) (hb : ∃ q, is_so_r m [b, L] = .ok (.bl q)) : ∃ c, is_so_r (m + 1) [orD a b, L] = .ok (.bl c) := by
  obtain ⟨p, ha⟩ := ha
  obtain ⟨q, hb⟩ := hb
  cases p with
  | true =>
    refine ⟨true, ?_⟩
    unfold is_so_r is_so_F
    simp only [runF_ap, List.map, List.length, List.replicate, List.append, List.cons_append, List.nil_append, seqS_ap, setS_ap, ifS_ap, ifE_ap, orT_ap, andT_ap, notT_ap, tstE_ap, opE_ap, unE_ap, varE_0, varE_s, conE_ap, R.of, R.op2_ok, R.set_ok, List.set, RS.seq_nx, RS.seq_rt, RS.seq_exc, R.bind, RS.bind, bind_asB_bl, lstE_ap, tupE_ap, consE_ap, nilE_ap, R.cons_ok, appE_ap, calE_ap, retS_ap, nxS_ap, out_rt, out_nx, out_exc, RS.ite_tt, RS.ite_ff, R.ite_tt, R.ite_ff, okT_ap, okF_ap, dT_ap, dF_ap, andE_ap, orE_ap, notE_ap, notR_ok, nbl_ok, compE_ap, itE_ap, rngE_ap, D.iter, wipeR, slcE_ap, somO_ap, nonO_ap, asI_int, asS_str, joinE_ap, addD_int, subD_int, ltD_int, leD_int, gtD_int, geD_int, negD_int, eqD_int, neD_int, eqD_str, neD_str, excS_ap, forS_ap, ownL_0, ownL_s, appS_ap, decide_true, decide_false, Bool.not_true, Bool.not_false, ix0, ix1, ix2, o_n, o_t, o_a, ha, hb, sca_bl]
    try rfl
  | false =>
    refine ⟨q, ?_⟩
    unfold is_so_r is_so_F
    simp only [runF_ap, List.map, List.length, List.replicate, List.append, List.cons_append, List.nil_append, seqS_ap, setS_ap, ifS_ap, ifE_ap, orT_ap, andT_ap, notT_ap, tstE_ap, opE_ap, unE_ap, varE_0, varE_s, conE_ap, R.of, R.op2_ok, R.set_ok, List.set, RS.seq_nx, RS.seq_rt, RS.seq_exc, R.bind, RS.bind, bind_asB_bl, lstE_ap, tupE_ap, consE_ap, nilE_ap, R.cons_ok, appE_ap, calE_ap, retS_ap, nxS_ap, out_rt, out_nx, out_exc, RS.ite_tt, RS.ite_ff, R.ite_tt, R.ite_ff, okT_ap, okF_ap, dT_ap, dF_ap, andE_ap, orE_ap, notE_ap, notR_ok, nbl_ok, compE_ap, itE_ap, rngE_ap, D.iter, wipeR, slcE_ap, somO_ap, nonO_ap, asI_int, asS_str, joinE_ap, addD_int, subD_int, ltD_int, leD_int, gtD_int, geD_int, negD_int, eqD_int, neD_int, eqD_str, neD_str, excS_ap, forS_ap, ownL_0, ownL_s, appS_ap, decide_true, decide_false, Bool.not_true, Bool.not_false, ix0, ix1, ix2, o_n, o_t, o_a, ha, hb, sca_bl]
    try rfl
theorem so_and {m : Nat} {a b L : D} (ha : ∃ p, is_so_r m [a, L] = .ok (.bl p)) (hb : ∃ q, is_so_r m [b, L] = .ok (.bl q)) : ∃ c, is_so_r (m + 1) [andD a b, L] = .ok (.bl c) := by
  obtain ⟨p, ha⟩ := ha
  obtain ⟨q, hb⟩ := hb
  cases p with
  | true =>
    refine ⟨q, ?_⟩
    unfold is_so_r is_so_F
    simp only [runF_ap, List.map, List.length, List.replicate, List.append, List.cons_append, List.nil_append, seqS_ap, setS_ap, ifS_ap, ifE_ap, orT_ap, andT_ap, notT_ap, tstE_ap, opE_ap, unE_ap, varE_0, varE_s, conE_ap, R.of, R.op2_ok, R.set_ok, List.set, RS.seq_nx, RS.seq_rt, RS.seq_exc, R.bind, RS.bind, bind_asB_bl, lstE_ap, tupE_ap, consE_ap, nilE_ap, R.cons_ok, appE_ap, calE_ap, retS_ap, nxS_ap, out_rt, out_nx, out_exc, RS.ite_tt, RS.ite_ff, R.ite_tt, R.ite_ff, okT_ap, okF_ap, dT_ap, dF_ap, andE_ap, orE_ap, notE_ap, notR_ok, nbl_ok, compE_ap, itE_ap, rngE_ap, D.iter, wipeR, slcE_ap, somO_ap, nonO_ap, asI_int, asS_str, joinE_ap, addD_int, subD_int, ltD_int, leD_int, gtD_int, geD_int, negD_int, eqD_int, neD_int, eqD_str, neD_str, excS_ap, forS_ap, ownL_0, ownL_s, appS_ap, decide_true, decide_false, Bool.not_true, Bool.not_false, ix0, ix1, ix2, a_n, a_t, a_a, ha, hb, sca_bl]
    try rfl
  | false =>
    refine ⟨false, ?_⟩
    unfold is_so_r is_so_F
    simp only [runF_ap, List.map, List.length, List.replicate, List.append, List.cons_append, List.nil_append, seqS_ap, setS_ap, ifS_ap, ifE_ap, orT_ap, andT_ap, notT_ap, tstE_ap, opE_ap, unE_ap, varE_0, varE_s, conE_ap, R.of, R.op2_ok, R.set_ok, List.set, RS.seq_nx, RS.seq_rt, RS.seq_exc, R.bind, RS.bind, bind_asB_bl, lstE_ap, tupE_ap, consE_ap, nilE_ap, R.cons_ok, appE_ap, calE_ap, retS_ap, nxS_ap, out_rt, out_nx, out_exc, RS.ite_tt, RS.ite_ff, R.ite_tt, R.ite_ff, okT_ap, okF_ap, dT_ap, dF_ap, andE_ap, orE_ap, notE_ap, notR_ok, nbl_ok, compE_ap, itE_ap, rngE_ap, D.iter, wipeR, slcE_ap, somO_ap, nonO_ap, asI_int, asS_str, joinE_ap, addD_int, subD_int, ltD_int, leD_int, gtD_int, geD_int, negD_int, eqD_int, neD_int, eqD_str, neD_str, excS_ap, forS_ap, ownL_0, ownL_s, appS_ap, decide_true, decide_false, Bool.not_true, Bool.not_false, ix0, ix1, ix2, a_n, a_t, a_a, ha, hb, sca_bl]
    try rfl
theorem so_wh (ys : List Str) : ∃ b, is_so_r 12 [WH, rowD2 ys] = .ok (.bl b) :=
  so_or (so_or (so_or (so_name 8 _ ys) (so_name 8 _ ys)) (so_or (so_name 8 _ ys) (so_name 8 _ ys))) (so_and (so_name 9 _ ys) (so_name 9 _ ys))
def SOME : List D := match forL (.one 4) (setS 3 (opE catD (varE 3) (compE (itE (varE 3)) [5] (.one 5) yesE (opE catD (varE 5) (lstE (consE (varE 4) nilE)))))) [.str (Str.ofString "a"), .str (Str.ofString "b"), .str (Str.ofString "c"), .str (Str.ofString "d"), .str (Str.ofString "e"), .str (Str.ofString "f")] [none, none, none, some (.lst [.lst []]), none, none] with
  | .nx ρ => lstOf (varE 3 ρ)
  | _ => []
def YS : List (List Str) := (rowsS SOME).getD []
theorem ys_eq : rowsS SOME = some YS := by kernel_rfl
theorem ys_len : YS.length ≤ 4000 := by decide +kernel
theorem some_eq : forL (.one 4) (setS 3 (opE catD (varE 3) (compE (itE (varE 3)) [5] (.one 5) yesE (opE catD (varE 5) (lstE (consE (varE 4) nilE)))))) [.str (Str.ofString "a"), .str (Str.ofString "b"), .str (Str.ofString "c"), .str (Str.ofString "d"), .str (Str.ofString "e"), .str (Str.ofString "f")] [some WH, some WH, some (.lst [.str (Str.ofString "a"), .str (Str.ofString "b"), .str (Str.ofString "c"), .str (Str.ofString "d"), .str (Str.ofString "e"), .str (Str.ofString "f")]), some (.lst [.lst []]), none, none] = .nx [some WH, some WH, some (.lst [.str (Str.ofString "a"), .str (Str.ofString "b"), .str (Str.ofString "c"), .str (Str.ofString "d"), .str (Str.ofString "e"), .str (Str.ofString "f")]), some (.lst SOME), some (.str (Str.ofString "f")), none] := by kernel_rfl
theorem need_wh : need_choice_f [WH] = .ok .non := by kernel_rfl
def NW : List D := lstOf (names_in_r 12 [WH])
theorem names_wh : srtD (.lst (NW ++ NW)) = some (.lst [.str (Str.ofString "a"), .str (Str.ofString "b"), .str (Str.ofString "c"), .str (Str.ofString "d"), .str (Str.ofString "e"), .str (Str.ofString "f")]) := by kernel_rfl
theorem names_in_wh : names_in_r 12 [WH] = .ok (.lst NW) := by kernel_rfl
theorem cat_wh : catD (.lst NW) (.lst NW) = some (.lst (NW ++ NW)) := by kernel_rfl
theorem need_t : need_f [.bl true] = .ok .non := by kernel_rfl
theorem drpS_ap (f : Rho → R D) (ρ : Rho) : drpS f ρ = RS.bind (f ρ) fun _ => .nx ρ := rfl
theorem srk_eq : srkD (.lst SOME) = some (.lst ((srtK YS).map rowD2)) := by
  show (match rowsS SOME with
    | none => none
    | some yss => if yss.length ≤ 4000 then some (D.lst ((srtK yss).map rowD2)) else none) = _
  rw [ys_eq]
  exact if_pos ys_len
theorem ne_bl (b : Bool) : neD (.bl b) (.bl b) = some (.bl false) := by cases b <;> kernel_rfl
theorem unlike_ww : unlike_by_f [WH, WH] = .ok .non := by
  obtain ⟨ρ, e, o4, o5, rfl⟩ := for_inv (i := 5) (ds := (srtK YS).map rowD2) (F := ifS (tstE (opE neD (appE (is_so_r 12) (consE (varE 0) (consE (varE 5) nilE))) (appE (is_so_r 12) (consE (varE 1) (consE (varE 5) nilE))))) (retS (varE 5)) nxS) (I := fun ρ => ∃ o4 o5, ρ = [some WH, some WH, some (.lst [.str (Str.ofString "a"), .str (Str.ofString "b"), .str (Str.ofString "c"), .str (Str.ofString "d"), .str (Str.ofString "e"), .str (Str.ofString "f")]), some (.lst SOME), o4, o5])
    (ρ := [some WH, some WH, some (.lst [.str (Str.ofString "a"), .str (Str.ofString "b"), .str (Str.ofString "c"), .str (Str.ofString "d"), .str (Str.ofString "e"), .str (Str.ofString "f")]), some (.lst SOME), some (.str (Str.ofString "f")), none]) ⟨_, _, rfl⟩ (by
    rintro d hd ρ ⟨o4, o5, rfl⟩
    obtain ⟨ys, _, rfl⟩ := List.mem_map.mp hd
    obtain ⟨b, hb⟩ := so_wh ys
    refine ⟨_, .inl ?_, o4, some (rowD2 ys), rfl⟩
    simp only [runF_ap, List.map, List.length, List.replicate, List.append, List.cons_append, List.nil_append, seqS_ap, setS_ap, ifS_ap, ifE_ap, orT_ap, andT_ap, notT_ap, tstE_ap, opE_ap, unE_ap, varE_0, varE_s, conE_ap, R.of, R.op2_ok, R.set_ok, List.set, RS.seq_nx, RS.seq_rt, RS.seq_exc, R.bind, RS.bind, bind_asB_bl, lstE_ap, tupE_ap, consE_ap, nilE_ap, R.cons_ok, appE_ap, calE_ap, retS_ap, nxS_ap, out_rt, out_nx, out_exc, RS.ite_tt, RS.ite_ff, R.ite_tt, R.ite_ff, okT_ap, okF_ap, dT_ap, dF_ap, andE_ap, orE_ap, notE_ap, notR_ok, nbl_ok, compE_ap, itE_ap, rngE_ap, D.iter, wipeR, slcE_ap, somO_ap, nonO_ap, asI_int, asS_str, joinE_ap, addD_int, subD_int, ltD_int, leD_int, gtD_int, geD_int, negD_int, eqD_int, neD_int, eqD_str, neD_str, excS_ap, forS_ap, ownL_0, ownL_s, appS_ap, decide_true, decide_false, Bool.not_true, Bool.not_false, hb, ne_bl])
  unfold unlike_by_f unlike_by_F
  rw [runF_ap]
  show RS.out (seqS _ _ [some WH, some WH, none, none, none, none]) = _
  rw [seqS_ap, drpS_ap]
  simp only [appE_ap, consE_ap, nilE_ap, varE_0, varE_s, R.of, R.cons_ok, R.bind, need_wh, RS.bind, RS.seq_nx]
  rw [seqS_ap, drpS_ap]
  simp only [appE_ap, consE_ap, nilE_ap, varE_0, varE_s, R.of, R.cons_ok, R.bind, need_wh, RS.bind, RS.seq_nx]
  rw [seqS_ap, setS_ap]
  simp only [unE_ap, opE_ap, appE_ap, consE_ap, nilE_ap, varE_0, varE_s, R.of, R.op2_ok, R.cons_ok, R.bind, names_in_wh, cat_wh, names_wh, R.set_ok, List.set, RS.seq_nx]
  rw [seqS_ap, drpS_ap]
  simp only [appE_ap, calE_ap, opE_ap, conE_ap, consE_ap, nilE_ap, varE_0, varE_s, R.of, R.op2_ok, R.cons_ok, R.bind, show lenB [.lst [.str (Str.ofString "a"), .str (Str.ofString "b"), .str (Str.ofString "c"), .str (Str.ofString "d"), .str (Str.ofString "e"), .str (Str.ofString "f")]] = some (.int 6) from rfl, show leD (.int 6) (.int 6) = some (.bl true) from rfl, need_t, RS.bind, RS.seq_nx]
  rw [seqS_ap, setS_ap]
  simp only [lstE_ap, consE_ap, nilE_ap, R.cons_ok, R.bind, R.set_ok, List.set, RS.seq_nx]
  rw [seqS_ap, forS_ap]
  simp only [itE_ap, varE_0, varE_s, R.of, R.bind, D.iter, RS.bind]
  rw [some_eq, RS.seq_nx, seqS_ap, forS_ap]
  simp only [itE_ap, unE_ap, varE_0, varE_s, R.of, R.bind, srk_eq, D.iter, RS.bind]
  rw [e, RS.seq_nx]
  rfl
/-! ### the law -/
theorem rest_ok (ns : List Int) (k : Option D) (m : Int) (o3 o4 o5 o6 o7 o8 o9 o10 : Option D) :
    ∃ p3 p4 p5 p6 p7 p8 p9 p10, ((seqS (forS (rngE (consE (conE (.int 5)) nilE)) (.one 3) (seqS (setS 4 (appE _law_drawn_f (consE (varE 2) (consE (varE 3) nilE)))) (seqS (setS 5 (tupE (consE (conE (.str "name")) (consE (conE (.str "a")) nilE)))) (seqS (setS 6 (opE ixD2 (appE _law_none_f nilE) (opE modD (opE divD (varE 4) (conE (.int 8))) (calE lenB (consE (appE _law_none_f nilE) nilE))))) (seqS (setS 7 (opE ixD2 (lstE (consE (varE 6) (consE (tupE (consE (conE (.str "not")) (consE (varE 6) nilE))) (consE (tupE (consE (conE (.str "and")) (consE (varE 5) (consE (varE 6) nilE)))) (consE (tupE (consE (conE (.str "or")) (consE (varE 6) (consE (varE 5) nilE)))) (consE (tupE (consE (conE (.str "not")) (consE (tupE (consE (conE (.str "or")) (consE (varE 5) (consE (varE 6) nilE)))) nilE))) nilE)))))) (opE modD (varE 4) (conE (.int 5))))) (seqS (setS 8 (lstE (consE (toldX (appE need_choice_f (consE (varE 7) nilE))) nilE))) (seqS (appS 8 (toldX (appE written_choice_f (consE (varE 7) nilE)))) (seqS (appS 8 (toldX (appE is_chosen_f (consE (varE 7) (consE (lstE (consE (conE (.str "a")) nilE)) nilE))))) (seqS (appS 8 (toldX (appE unlike_by_f (consE (varE 5) (consE (varE 7) nilE))))) (seqS (appS 8 (toldX (appE unlike_by_f (consE (varE 7) (consE (varE 5) nilE))))) (seqS (ifS (tstE (opE neD (varE 8) (opE repLD (lstE (consE (tupE (consE (conE (.str "refused")) (consE (conE (.str "BadChoice")) nilE))) nilE)) (conE (.int 5))))) (retS (conE (.bl false))) nxS) (seqS (setS 9 (opE ixD2 (appE _law_texts_f nilE) (opE modD (opE divD (varE 4) (opE powD (conE (.int 2)) (conE (.int 20)))) (calE lenB (consE (appE _law_texts_f nilE) nilE))))) (ifS (tstE (opE neD (toldX (appE read_choice_f (consE (varE 9) nilE))) (tupE (consE (conE (.str "refused")) (consE (conE (.str "BadChoice")) nilE))))) (retS (conE (.bl false))) nxS))))))))))))) (seqS (ifS (orT (tstE (opE neD (appE read_choice_f (consE (opE addD (opE repSD (conE (.str "not ")) (conE (.int 7))) (conE (.str "a"))) nilE)) (appE _law_nots_f (consE (conE (.int 7)) nilE)))) (tstE (unE isntNonD (appE need_choice_f (consE (appE _law_tower_f (consE (conE (.int 7)) nilE)) nilE))))) (retS (conE (.bl false))) nxS) (seqS (forS (itE (lstE (consE (opE addD (opE addD (opE repSD (conE (.str " ")) (conE (.int 50))) (conE (.str "a"))) (opE repSD (conE (.str " ")) (conE (.int 49)))) (consE (opE addD (opE addD (opE repSD (conE (.str "(")) (conE (.int 49))) (conE (.str "a"))) (opE repSD (conE (.str ")")) (conE (.int 49)))) nilE)))) (.one 9) (ifS (tstE (opE neD (appE read_choice_f (consE (varE 9) nilE)) (tupE (consE (conE (.str "name")) (consE (conE (.str "a")) nilE))))) (retS (conE (.bl false))) nxS)) (seqS (setS 10 (tupE (consE (conE (.str "or")) (consE (tupE (consE (conE (.str "or")) (consE (tupE (consE (conE (.str "or")) (consE (tupE (consE (conE (.str "name")) (consE (conE (.str "a")) nilE))) (consE (tupE (consE (conE (.str "name")) (consE (conE (.str "b")) nilE))) nilE)))) (consE (tupE (consE (conE (.str "or")) (consE (tupE (consE (conE (.str "name")) (consE (conE (.str "c")) nilE))) (consE (tupE (consE (conE (.str "name")) (consE (conE (.str "d")) nilE))) nilE)))) nilE)))) (consE (appE _law_pairs_f nilE) nilE))))) (seqS (ifS (tstE (unE isntNonD (appE unlike_by_f (consE (varE 10) (consE (varE 10) nilE))))) (retS (conE (.bl false))) nxS) (ifS (tstE (opE neD (toldX (appE unlike_by_f (consE (varE 10) (consE (tupE (consE (conE (.str "name")) (consE (conE (.str "g")) nilE))) nilE)))) (tupE (consE (conE (.str "refused")) (consE (conE (.str "BadChoice")) nilE))))) (retS (conE (.bl false))) nxS))))))) [some (.scr ns), k, some (.int m), o3, o4, o5, o6, o7, o8, o9, o10] = .nx [some (.scr ns), k, some (.int m), p3, p4, p5, p6, p7, p8, p9, p10] := by
  obtain ⟨ρ1, e1, q3, q4, q5, q6, q7, q8, q9, rfl⟩ := for_inv (i := 3) (ds := upto 5) (F := (seqS (setS 4 (appE _law_drawn_f (consE (varE 2) (consE (varE 3) nilE)))) (seqS (setS 5 (tupE (consE (conE (.str "name")) (consE (conE (.str "a")) nilE)))) (seqS (setS 6 (opE ixD2 (appE _law_none_f nilE) (opE modD (opE divD (varE 4) (conE (.int 8))) (calE lenB (consE (appE _law_none_f nilE) nilE))))) (seqS (setS 7 (opE ixD2 (lstE (consE (varE 6) (consE (tupE (consE (conE (.str "not")) (consE (varE 6) nilE))) (consE (tupE (consE (conE (.str "and")) (consE (varE 5) (consE (varE 6) nilE)))) (consE (tupE (consE (conE (.str "or")) (consE (varE 6) (consE (varE 5) nilE)))) (consE (tupE (consE (conE (.str "not")) (consE (tupE (consE (conE (.str "or")) (consE (varE 5) (consE (varE 6) nilE)))) nilE))) nilE)))))) (opE modD (varE 4) (conE (.int 5))))) (seqS (setS 8 (lstE (consE (toldX (appE need_choice_f (consE (varE 7) nilE))) nilE))) (seqS (appS 8 (toldX (appE written_choice_f (consE (varE 7) nilE)))) (seqS (appS 8 (toldX (appE is_chosen_f (consE (varE 7) (consE (lstE (consE (conE (.str "a")) nilE)) nilE))))) (seqS (appS 8 (toldX (appE unlike_by_f (consE (varE 5) (consE (varE 7) nilE))))) (seqS (appS 8 (toldX (appE unlike_by_f (consE (varE 7) (consE (varE 5) nilE))))) (seqS (ifS (tstE (opE neD (varE 8) (opE repLD (lstE (consE (tupE (consE (conE (.str "refused")) (consE (conE (.str "BadChoice")) nilE))) nilE)) (conE (.int 5))))) (retS (conE (.bl false))) nxS) (seqS (setS 9 (opE ixD2 (appE _law_texts_f nilE) (opE modD (opE divD (varE 4) (opE powD (conE (.int 2)) (conE (.int 20)))) (calE lenB (consE (appE _law_texts_f nilE) nilE))))) (ifS (tstE (opE neD (toldX (appE read_choice_f (consE (varE 9) nilE))) (tupE (consE (conE (.str "refused")) (consE (conE (.str "BadChoice")) nilE))))) (retS (conE (.bl false))) nxS))))))))))))) (I := fun ρ => ∃ o3 o4 o5 o6 o7 o8 o9, ρ = [some (.scr ns), k, some (.int m), o3, o4, o5, o6, o7, o8, o9, o10]) (ρ := [some (.scr ns), k, some (.int m), o3, o4, o5, o6, o7, o8, o9, o10]) ⟨_, _, _, _, _, _, _, rfl⟩ (by
    rintro d hd ρ ⟨o3, o4, o5, o6, o7, o8, o9, rfl⟩
    obtain ⟨j, hj, rfl⟩ := upto_mem hd
    obtain ⟨p4, p5, p6, p7, p8, p9, e⟩ := inner_ok (some (.scr ns)) k o4 o5 o6 o7 o8 o9 o10 m j
    exact ⟨_, .inl e, _, _, _, _, _, _, _, rfl⟩)
  obtain ⟨ρ2, e2, q9', rfl⟩ := for_inv (i := 9) (ds := [.str (Str.ofString (String.ofList (List.replicate 50 ' ') ++ "a" ++ String.ofList (List.replicate 49 ' '))), .str (Str.ofString (String.ofList (List.replicate 49 '(') ++ "a" ++ String.ofList (List.replicate 49 ')')))]) (F := (ifS (tstE (opE neD (appE read_choice_f (consE (varE 9) nilE)) (tupE (consE (conE (.str "name")) (consE (conE (.str "a")) nilE))))) (retS (conE (.bl false))) nxS)) (I := fun ρ => ∃ o9, ρ = [some (.scr ns), k, some (.int m), q3, q4, q5, q6, q7, q8, o9, o10]) (ρ := [some (.scr ns), k, some (.int m), q3, q4, q5, q6, q7, q8, q9, o10]) ⟨_, rfl⟩ (by
    rintro d hd ρ ⟨o9, rfl⟩
    have he : read_choice_f [d] = .ok nA := by
      simp only [List.mem_cons, List.not_mem_nil, or_false] at hd
      rcases hd with rfl | rfl <;> kernel_rfl
    have hn : neD nA nA = some (.bl false) := by kernel_rfl
    refine ⟨_, .inl ?_, some d, rfl⟩
    simp only [runF_ap, List.map, List.length, List.replicate, List.append, List.cons_append, List.nil_append, seqS_ap, setS_ap, ifS_ap, ifE_ap, orT_ap, andT_ap, notT_ap, tstE_ap, opE_ap, unE_ap, varE_0, varE_s, conE_ap, R.of, R.op2_ok, R.set_ok, List.set, RS.seq_nx, RS.seq_rt, RS.seq_exc, R.bind, RS.bind, bind_asB_bl, lstE_ap, tupE_ap, consE_ap, nilE_ap, R.cons_ok, appE_ap, calE_ap, retS_ap, nxS_ap, out_rt, out_nx, out_exc, RS.ite_tt, RS.ite_ff, R.ite_tt, R.ite_ff, okT_ap, okF_ap, dT_ap, dF_ap, andE_ap, orE_ap, notE_ap, notR_ok, nbl_ok, compE_ap, itE_ap, rngE_ap, D.iter, wipeR, slcE_ap, somO_ap, nonO_ap, asI_int, asS_str, joinE_ap, addD_int, subD_int, ltD_int, leD_int, gtD_int, geD_int, negD_int, eqD_int, neD_int, eqD_str, neD_str, excS_ap, forS_ap, ownL_0, ownL_s, appS_ap, decide_true, decide_false, Bool.not_true, Bool.not_false, he, hn])
  refine ⟨q3, q4, q5, q6, q7, q8, q9', some WH, ?_⟩
  rw [seqS_ap, forS_ap]
  rw [show ∀ ρ, rngE (consE (conE (.int 5)) nilE) ρ = .ok (upto 5) from fun ρ => by simp only [runF_ap, List.map, List.length, List.replicate, List.append, List.cons_append, List.nil_append, seqS_ap, setS_ap, ifS_ap, ifE_ap, orT_ap, andT_ap, notT_ap, tstE_ap, opE_ap, unE_ap, varE_0, varE_s, conE_ap, R.of, R.op2_ok, R.set_ok, List.set, RS.seq_nx, RS.seq_rt, RS.seq_exc, R.bind, RS.bind, bind_asB_bl, lstE_ap, tupE_ap, consE_ap, nilE_ap, R.cons_ok, appE_ap, calE_ap, retS_ap, nxS_ap, out_rt, out_nx, out_exc, RS.ite_tt, RS.ite_ff, R.ite_tt, R.ite_ff, okT_ap, okF_ap, dT_ap, dF_ap, andE_ap, orE_ap, notE_ap, notR_ok, nbl_ok, compE_ap, itE_ap, rngE_ap, D.iter, wipeR, slcE_ap, somO_ap, nonO_ap, asI_int, asS_str, joinE_ap, addD_int, subD_int, ltD_int, leD_int, gtD_int, geD_int, negD_int, eqD_int, neD_int, eqD_str, neD_str, excS_ap, forS_ap, ownL_0, ownL_s, appS_ap, decide_true, decide_false, Bool.not_true, Bool.not_false, show rngD [.int 5] = .ok (upto 5) from rng_ok (n := 5) (by decide)]]
  simp only [RS.bind]
  rw [e1, RS.seq_nx]
  rw [seqS_ap]
  rw [show ∀ a b c d e f g h i j l, ((ifS (orT (tstE (opE neD (appE read_choice_f (consE (opE addD (opE repSD (conE (.str "not ")) (conE (.int 7))) (conE (.str "a"))) nilE)) (appE _law_nots_f (consE (conE (.int 7)) nilE)))) (tstE (unE isntNonD (appE need_choice_f (consE (appE _law_tower_f (consE (conE (.int 7)) nilE)) nilE))))) (retS (conE (.bl false))) nxS)) [a, b, c, d, e, f, g, h, i, j, l] = .nx [a, b, c, d, e, f, g, h, i, j, l] from fun a b c d e f g h i j l => by kernel_rfl]
  rw [RS.seq_nx, seqS_ap]
  rw [show ∀ a b c d e f g h i j l, ((forS (itE (lstE (consE (opE addD (opE addD (opE repSD (conE (.str " ")) (conE (.int 50))) (conE (.str "a"))) (opE repSD (conE (.str " ")) (conE (.int 49)))) (consE (opE addD (opE addD (opE repSD (conE (.str "(")) (conE (.int 49))) (conE (.str "a"))) (opE repSD (conE (.str ")")) (conE (.int 49)))) nilE)))) (.one 9) (ifS (tstE (opE neD (appE read_choice_f (consE (varE 9) nilE)) (tupE (consE (conE (.str "name")) (consE (conE (.str "a")) nilE))))) (retS (conE (.bl false))) nxS))) [a, b, c, d, e, f, g, h, i, j, l] = forL (.one 9) ((ifS (tstE (opE neD (appE read_choice_f (consE (varE 9) nilE)) (tupE (consE (conE (.str "name")) (consE (conE (.str "a")) nilE))))) (retS (conE (.bl false))) nxS)) [.str (Str.ofString (String.ofList (List.replicate 50 ' ') ++ "a" ++ String.ofList (List.replicate 49 ' '))), .str (Str.ofString (String.ofList (List.replicate 49 '(') ++ "a" ++ String.ofList (List.replicate 49 ')')))] [a, b, c, d, e, f, g, h, i, j, l] from fun a b c d e f g h i j l => by kernel_rfl]
  rw [e2, RS.seq_nx, seqS_ap]
  rw [show ∀ a b c d e f g h i j l, ((setS 10 (tupE (consE (conE (.str "or")) (consE (tupE (consE (conE (.str "or")) (consE (tupE (consE (conE (.str "or")) (consE (tupE (consE (conE (.str "name")) (consE (conE (.str "a")) nilE))) (consE (tupE (consE (conE (.str "name")) (consE (conE (.str "b")) nilE))) nilE)))) (consE (tupE (consE (conE (.str "or")) (consE (tupE (consE (conE (.str "name")) (consE (conE (.str "c")) nilE))) (consE (tupE (consE (conE (.str "name")) (consE (conE (.str "d")) nilE))) nilE)))) nilE)))) (consE (appE _law_pairs_f nilE) nilE)))))) [a, b, c, d, e, f, g, h, i, j, l] = .nx [a, b, c, d, e, f, g, h, i, j, some WH] from fun a b c d e f g h i j l => by kernel_rfl]
  rw [RS.seq_nx, seqS_ap]
  rw [show ∀ a b c d e f g h i j, ((ifS (tstE (unE isntNonD (appE unlike_by_f (consE (varE 10) (consE (varE 10) nilE))))) (retS (conE (.bl false))) nxS)) [a, b, c, d, e, f, g, h, i, j, some WH] = .nx [a, b, c, d, e, f, g, h, i, j, some WH] from fun a b c d e f g h i j => by
    simp only [ifS_ap, tstE_ap, unE_ap, appE_ap, consE_ap, nilE_ap, varE_0, varE_s, R.of, R.cons_ok, R.bind, unlike_ww, show isntNonD .non = some (.bl false) from rfl, bind_asB_bl, RS.ite_ff, nxS_ap]]
  rw [RS.seq_nx]
  rw [show ∀ a b c d e f g h i j, ((ifS (tstE (opE neD (toldX (appE unlike_by_f (consE (varE 10) (consE (tupE (consE (conE (.str "name")) (consE (conE (.str "g")) nilE))) nilE)))) (tupE (consE (conE (.str "refused")) (consE (conE (.str "BadChoice")) nilE))))) (retS (conE (.bl false))) nxS)) [a, b, c, d, e, f, g, h, i, j, some WH] = .nx [a, b, c, d, e, f, g, h, i, j, some WH] from fun a b c d e f g h i j => by kernel_rfl]
theorem law_true (ns : List Int) (hl : ns.length ≤ 63) (hb : ∀ z ∈ ns, Builtin.Int.intBits z ≤ 1048576) : law_f [.scr ns] = .ok (.bl true) := by
  unfold law_f law_F
  obtain ⟨q, hq, eq⟩ := count ns.length 4 (by decide)
  have eq : (if (if (ns.length : Int) < 4 then (ns.length : Int) else 4) > 1 then (if (ns.length : Int) < 4 then (ns.length : Int) else 4) else 1) = (q : Int) := eq
  simp only [runF_ap, List.map, List.length, List.replicate, List.append, List.cons_append, List.nil_append, seqS_ap, setS_ap, ifS_ap, ifE_ap, orT_ap, andT_ap, notT_ap, tstE_ap, opE_ap, unE_ap, varE_0, varE_s, conE_ap, R.of, R.op2_ok, R.set_ok, List.set, RS.seq_nx, RS.seq_rt, RS.seq_exc, R.bind, RS.bind, bind_asB_bl, lstE_ap, tupE_ap, consE_ap, nilE_ap, R.cons_ok, appE_ap, calE_ap, retS_ap, nxS_ap, out_rt, out_nx, out_exc, RS.ite_tt, RS.ite_ff, R.ite_tt, R.ite_ff, okT_ap, okF_ap, dT_ap, dF_ap, andE_ap, orE_ap, notE_ap, notR_ok, nbl_ok, compE_ap, itE_ap, rngE_ap, D.iter, wipeR, slcE_ap, somO_ap, nonO_ap, asI_int, asS_str, joinE_ap, addD_int, subD_int, ltD_int, leD_int, gtD_int, geD_int, negD_int, eqD_int, neD_int, eqD_str, neD_str, excS_ap, forS_ap, ownL_0, ownL_s, appS_ap, decide_true, decide_false, Bool.not_true, Bool.not_false, lenB, min2B, max2B, eq, rng_ok (show q ≤ 1000000 from by omega)]
  obtain ⟨ρ', e, _⟩ := for_inv (i := 1) (ds := upto q) (I := fun ρ => ∃ a b c d e f g h i j, ρ = [some (D.scr ns), a, b, c, d, e, f, g, h, i, j]) (ρ := [some (D.scr ns), none, none, none, none, none, none, none, none, none, none])
    (F := (seqS (setS 2 (appE _law_drawn_f (consE (appE _law_cell_f (consE (varE 0) (consE (varE 1) nilE))) (consE (varE 1) nilE)))) (seqS (forS (rngE (consE (conE (.int 5)) nilE)) (.one 3) (seqS (setS 4 (appE _law_drawn_f (consE (varE 2) (consE (varE 3) nilE)))) (seqS (setS 5 (tupE (consE (conE (.str "name")) (consE (conE (.str "a")) nilE)))) (seqS (setS 6 (opE ixD2 (appE _law_none_f nilE) (opE modD (opE divD (varE 4) (conE (.int 8))) (calE lenB (consE (appE _law_none_f nilE) nilE))))) (seqS (setS 7 (opE ixD2 (lstE (consE (varE 6) (consE (tupE (consE (conE (.str "not")) (consE (varE 6) nilE))) (consE (tupE (consE (conE (.str "and")) (consE (varE 5) (consE (varE 6) nilE)))) (consE (tupE (consE (conE (.str "or")) (consE (varE 6) (consE (varE 5) nilE)))) (consE (tupE (consE (conE (.str "not")) (consE (tupE (consE (conE (.str "or")) (consE (varE 5) (consE (varE 6) nilE)))) nilE))) nilE)))))) (opE modD (varE 4) (conE (.int 5))))) (seqS (setS 8 (lstE (consE (toldX (appE need_choice_f (consE (varE 7) nilE))) nilE))) (seqS (appS 8 (toldX (appE written_choice_f (consE (varE 7) nilE)))) (seqS (appS 8 (toldX (appE is_chosen_f (consE (varE 7) (consE (lstE (consE (conE (.str "a")) nilE)) nilE))))) (seqS (appS 8 (toldX (appE unlike_by_f (consE (varE 5) (consE (varE 7) nilE))))) (seqS (appS 8 (toldX (appE unlike_by_f (consE (varE 7) (consE (varE 5) nilE))))) (seqS (ifS (tstE (opE neD (varE 8) (opE repLD (lstE (consE (tupE (consE (conE (.str "refused")) (consE (conE (.str "BadChoice")) nilE))) nilE)) (conE (.int 5))))) (retS (conE (.bl false))) nxS) (seqS (setS 9 (opE ixD2 (appE _law_texts_f nilE) (opE modD (opE divD (varE 4) (opE powD (conE (.int 2)) (conE (.int 20)))) (calE lenB (consE (appE _law_texts_f nilE) nilE))))) (ifS (tstE (opE neD (toldX (appE read_choice_f (consE (varE 9) nilE))) (tupE (consE (conE (.str "refused")) (consE (conE (.str "BadChoice")) nilE))))) (retS (conE (.bl false))) nxS))))))))))))) (seqS (ifS (orT (tstE (opE neD (appE read_choice_f (consE (opE addD (opE repSD (conE (.str "not ")) (conE (.int 7))) (conE (.str "a"))) nilE)) (appE _law_nots_f (consE (conE (.int 7)) nilE)))) (tstE (unE isntNonD (appE need_choice_f (consE (appE _law_tower_f (consE (conE (.int 7)) nilE)) nilE))))) (retS (conE (.bl false))) nxS) (seqS (forS (itE (lstE (consE (opE addD (opE addD (opE repSD (conE (.str " ")) (conE (.int 50))) (conE (.str "a"))) (opE repSD (conE (.str " ")) (conE (.int 49)))) (consE (opE addD (opE addD (opE repSD (conE (.str "(")) (conE (.int 49))) (conE (.str "a"))) (opE repSD (conE (.str ")")) (conE (.int 49)))) nilE)))) (.one 9) (ifS (tstE (opE neD (appE read_choice_f (consE (varE 9) nilE)) (tupE (consE (conE (.str "name")) (consE (conE (.str "a")) nilE))))) (retS (conE (.bl false))) nxS)) (seqS (setS 10 (tupE (consE (conE (.str "or")) (consE (tupE (consE (conE (.str "or")) (consE (tupE (consE (conE (.str "or")) (consE (tupE (consE (conE (.str "name")) (consE (conE (.str "a")) nilE))) (consE (tupE (consE (conE (.str "name")) (consE (conE (.str "b")) nilE))) nilE)))) (consE (tupE (consE (conE (.str "or")) (consE (tupE (consE (conE (.str "name")) (consE (conE (.str "c")) nilE))) (consE (tupE (consE (conE (.str "name")) (consE (conE (.str "d")) nilE))) nilE)))) nilE)))) (consE (appE _law_pairs_f nilE) nilE))))) (seqS (ifS (tstE (unE isntNonD (appE unlike_by_f (consE (varE 10) (consE (varE 10) nilE))))) (retS (conE (.bl false))) nxS) (ifS (tstE (opE neD (toldX (appE unlike_by_f (consE (varE 10) (consE (tupE (consE (conE (.str "name")) (consE (conE (.str "g")) nilE))) nilE)))) (tupE (consE (conE (.str "refused")) (consE (conE (.str "BadChoice")) nilE))))) (retS (conE (.bl false))) nxS))))))))
    ⟨_, _, _, _, _, _, _, _, _, _, rfl⟩ (by
      rintro d hd ρ ⟨a, b, c, d', e, f, g, h, i', j, rfl⟩
      obtain ⟨i, hi, rfl⟩ := upto_mem hd
      obtain ⟨cl, hc⟩ := cell_ok ns i (by omega) hl
      generalize hm : dr cl i = m
      obtain ⟨p3, p4, p5, p6, p7, p8, p9, p10, er⟩ := rest_ok ns (some (.int i)) m c d' e f g h i' j
      refine ⟨[some (D.scr ns), some (.int i), some (.int m), p3, p4, p5, p6, p7, p8, p9, p10], .inl ?_, _, _, _, _, _, _, _, _, _, _, rfl⟩
      rw [seqS_ap]
      simp only [setS_ap, appE_ap, consE_ap, nilE_ap, varE_0, varE_s, R.of, R.cons_ok, R.bind, List.set, hc, drawn_ok, hm, R.set_ok, RS.seq_nx]
      exact er)
  rw [e]
  rfl
end Kk51
namespace Kk51
open PySem PySem.Spec PyProof.Rows L2 BV L2H LamX LN HH WD
def top (i : Nat) : Stmt := PySem.Challenge.pw_trywright_k51_choices_refused.main.body.getD i (.Pass ⟨0, 0, 0, 0⟩)
def topM (i j : Nat) : Stmt := (C8.clsBody (top i)).getD j (.Pass ⟨0, 0, 0, 0⟩)
structure Gx (w : World) (K : PySem.W.Frag) (mg : Str → Option Value) (fd : Nat → FuncData) : Prop where
  g_all : mg "all" = none
  g_isinstance : mg "isinstance" = none
  g_len : mg "len" = none
  g_max : mg "max" = none
  g_min : mg "min" = none
  g_range : mg "range" = none
  g_set : mg "set" = none
  g_sorted : mg "sorted" = none
  g_str : mg "str" = none
  g_tuple : mg "tuple" = none
  v_LETTERS : ∃ t, mg "LETTERS" = some (.str "abcdefghijklmnopqrstuvwxyz" t)
  v_MOST_NAME : ∃ t, mg "MOST_NAME" = some (.int 10 t)
  v_MOST_NAMES : ∃ t, mg "MOST_NAMES" = some (.int 6 t)
  v_MOST_SIGNS : ∃ t, mg "MOST_SIGNS" = some (.int 100 t)
  v_MOST_WITHIN : ∃ t, mg "MOST_WITHIN" = some (.int 8 t)
  e_BadChoice : ExcG K mg "BadChoice"
  t_BARRED : TupG K mg "BARRED" ["and", "or", "not", "row"]
  d_STRENGTHS : DicG w K mg "STRENGTHS" kv_STRENGTHS
  c_Reader : ClsG K mg "Reader"
  na_Reader_reached : NoAttr K (He.ga K "Reader") "reached"
  na_Reader_words : NoAttr K (He.ga K "Reader") "words"
  fc_Reader_reached : ∀ C ∈ (["Reader"] : List Str), ClsG K mg C ∧ NoAttr K (He.ga K C) "reached"
  fc_Reader_words : ∀ C ∈ (["Reader"] : List Str), ClsG K mg C ∧ NoAttr K (He.ga K C) "words"
  me_Reader__ahead : Meth K (He.ga K "Reader") "ahead" (He.ma K (He.ga K "Reader") "ahead")
  me_Reader__choice : Meth K (He.ga K "Reader") "choice" (He.ma K (He.ga K "Reader") "choice")
  me_Reader__one : Meth K (He.ga K "Reader") "one" (He.ma K (He.ga K "Reader") "one")
  me_Reader__take : Meth K (He.ga K "Reader") "take" (He.ma K (He.ga K "Reader") "take")
  mk_Reader : Mk K (He.ga K "Reader") (He.ma K (He.ga K "Reader") "__init__")
  x_Trouble : XcG K mg "Trouble" "word" "what"
  wg : WG K mg
  wt : WGT K
  g_is_name : mg "is_name" = some (.ref (He.ga K "is_name"))
  f_is_name : FunD K "is_name" "is_name" (defArgs (top 13)) (defBody (top 13)) (defScope (top 13)) [] [] (He.ga K "is_name") (fd 0)
  g_need : mg "need" = some (.ref (He.ga K "need"))
  f_need : FunD K "need" "need" (defArgs (top 19)) (defBody (top 19)) (defScope (top 19)) [] [] (He.ga K "need") (fd 1)
  g_need_deep : mg "need_deep" = some (.ref (He.ga K "need_deep"))
  f_need_deep : FunD K "need_deep" "need_deep" (defArgs (top 20)) (defBody (top 20)) (defScope (top 20)) [] [] (He.ga K "need_deep") (fd 2)
  g_need_choice : mg "need_choice" = some (.ref (He.ga K "need_choice"))
  f_need_choice : FunD K "need_choice" "need_choice" (defArgs (top 21)) (defBody (top 21)) (defScope (top 21)) [] [] (He.ga K "need_choice") (fd 3)
  g_within : mg "within" = some (.ref (He.ga K "within"))
  f_within : FunD K "within" "within" (defArgs (top 22)) (defBody (top 22)) (defScope (top 22)) [] [] (He.ga K "within") (fd 4)
  g_plain_text : mg "plain_text" = some (.ref (He.ga K "plain_text"))
  f_plain_text : FunD K "plain_text" "plain_text" (defArgs (top 23)) (defBody (top 23)) (defScope (top 23)) [] [] (He.ga K "plain_text") (fd 5)
  g_written_choice : mg "written_choice" = some (.ref (He.ga K "written_choice"))
  f_written_choice : FunD K "written_choice" "written_choice" (defArgs (top 24)) (defBody (top 24)) (defScope (top 24)) [] [] (He.ga K "written_choice") (fd 6)
  g_words_of : mg "words_of" = some (.ref (He.ga K "words_of"))
  f_words_of : FunD K "words_of" "words_of" (defArgs (top 25)) (defBody (top 25)) (defScope (top 25)) [] [] (He.ga K "words_of") (fd 7)
  f_Reader__init : FunD K "__init__" "Reader.__init__" (defArgs (topM 26 0)) (defBody (topM 26 0)) (defScope (topM 26 0)) [] [] (He.ma K (He.ga K "Reader") "__init__") (fd 8)
  f_Reader__ahead : FunD K "ahead" "Reader.ahead" (defArgs (topM 26 1)) (defBody (topM 26 1)) (defScope (topM 26 1)) [] [] (He.ma K (He.ga K "Reader") "ahead") (fd 9)
  f_Reader__take : FunD K "take" "Reader.take" (defArgs (topM 26 2)) (defBody (topM 26 2)) (defScope (topM 26 2)) [] [] (He.ma K (He.ga K "Reader") "take") (fd 10)
  f_Reader__choice : FunD K "choice" "Reader.choice" (defArgs (topM 26 3)) (defBody (topM 26 3)) (defScope (topM 26 3)) [] [] (He.ma K (He.ga K "Reader") "choice") (fd 11)
  f_Reader__one : FunD K "one" "Reader.one" (defArgs (topM 26 4)) (defBody (topM 26 4)) (defScope (topM 26 4)) [] [] (He.ma K (He.ga K "Reader") "one") (fd 12)
  g_read_choice : mg "read_choice" = some (.ref (He.ga K "read_choice"))
  f_read_choice : FunD K "read_choice" "read_choice" (defArgs (top 27)) (defBody (top 27)) (defScope (top 27)) [] [] (He.ga K "read_choice") (fd 13)
  g_is_so : mg "is_so" = some (.ref (He.ga K "is_so"))
  f_is_so : FunD K "is_so" "is_so" (defArgs (top 28)) (defBody (top 28)) (defScope (top 28)) [] [] (He.ga K "is_so") (fd 14)
  g_is_chosen : mg "is_chosen" = some (.ref (He.ga K "is_chosen"))
  f_is_chosen : FunD K "is_chosen" "is_chosen" (defArgs (top 29)) (defBody (top 29)) (defScope (top 29)) [] [] (He.ga K "is_chosen") (fd 15)
  g_names_in : mg "names_in" = some (.ref (He.ga K "names_in"))
  f_names_in : FunD K "names_in" "names_in" (defArgs (top 30)) (defBody (top 30)) (defScope (top 30)) [] [] (He.ga K "names_in") (fd 16)
  g_unlike_by : mg "unlike_by" = some (.ref (He.ga K "unlike_by"))
  f_unlike_by : FunD K "unlike_by" "unlike_by" (defArgs (top 31)) (defBody (top 31)) (defScope (top 31)) [] [] (He.ga K "unlike_by") (fd 17)
  g__law_cell : mg "_law_cell" = some (.ref (He.ga K "_law_cell"))
  f__law_cell : FunD K "_law_cell" "_law_cell" (defArgs (top 33)) (defBody (top 33)) (defScope (top 33)) [] [] (He.ga K "_law_cell") (fd 18)
  g__law_drawn : mg "_law_drawn" = some (.ref (He.ga K "_law_drawn"))
  f__law_drawn : FunD K "_law_drawn" "_law_drawn" (defArgs (top 34)) (defBody (top 34)) (defScope (top 34)) [] [] (He.ga K "_law_drawn") (fd 19)
  g__law_word : mg "_law_word" = some (.ref (He.ga K "_law_word"))
  f__law_word : FunD K "_law_word" "_law_word" (defArgs (top 35)) (defBody (top 35)) (defScope (top 35)) [] [] (He.ga K "_law_word") (fd 27)
  g__law_told : mg "_law_told" = some (.ref (He.ga K "_law_told"))
  f__law_told : FunD K "_law_told" "_law_told" (defArgs (top 36)) (defBody (top 36)) (defScope (top 36)) [] [] (He.ga K "_law_told") (fd 26)
  g__law_none : mg "_law_none" = some (.ref (He.ga K "_law_none"))
  f__law_none : FunD K "_law_none" "_law_none" (defArgs (top 37)) (defBody (top 37)) (defScope (top 37)) [] [] (He.ga K "_law_none") (fd 20)
  g__law_tower : mg "_law_tower" = some (.ref (He.ga K "_law_tower"))
  f__law_tower : FunD K "_law_tower" "_law_tower" (defArgs (top 38)) (defBody (top 38)) (defScope (top 38)) [] [] (He.ga K "_law_tower") (fd 21)
  g__law_texts : mg "_law_texts" = some (.ref (He.ga K "_law_texts"))
  f__law_texts : FunD K "_law_texts" "_law_texts" (defArgs (top 39)) (defBody (top 39)) (defScope (top 39)) [] [] (He.ga K "_law_texts") (fd 22)
  g__law_pairs : mg "_law_pairs" = some (.ref (He.ga K "_law_pairs"))
  f__law_pairs : FunD K "_law_pairs" "_law_pairs" (defArgs (top 40)) (defBody (top 40)) (defScope (top 40)) [] [] (He.ga K "_law_pairs") (fd 23)
  g__law_nots : mg "_law_nots" = some (.ref (He.ga K "_law_nots"))
  f__law_nots : FunD K "_law_nots" "_law_nots" (defArgs (top 41)) (defBody (top 41)) (defScope (top 41)) [] [] (He.ga K "_law_nots") (fd 24)
  g_law : mg "law" = some (.ref (He.ga K "law"))
  f_law : FunD K "law" "law" (defArgs (top 42)) (defBody (top 42)) (defScope (top 42)) [] [] (He.ga K "law") (fd 25)
theorem s__law_word : FnScope (["_law_e", "_law_flags", "_law_flag", "_law_words"] : List Str) (["_law_e"] : List Str) (defScope (top 35)) := scope_of (by kernel_rfl)
section
variable {P : Program} {w : World} {K : PySem.W.Frag} {mg : Str → Option Value} {base : Heap}
theorem words (g : WG K mg) (k : Nat) (f : Addr) : Words P w K mg base k "_law_word" (["_law_e", "_law_flags", "_law_flag", "_law_words"] : List Str) (defScope (top 35)) f (defBody (top 35)) (WQ6 mg) := by
  intro cdv A outer s H Q a oe cls d hot hr hz hf hn ⟨n, C, hn6, hm, ec, ed, q⟩
  subst ec ed
  have S := s__law_word
  have n7 : n ∈ seven := by revert hn6; unfold six seven; simp; intro h; rcases h with h | h | h | h | h | h <;> simp [h]
  have eC : C = He.ga K n := by
    have := g.m n n7
    rw [hm] at this
    cases this
    rfl
  subst eC
  have hc : HotC (cxH C8.CX0 P w K mg base (["_law_e", "_law_flags", "_law_flag", "_law_words"] : List Str) "_law_word" (defScope (top 35)) f cdv A outer s H C8.E0 (a, oe)) := ⟨(a, oe), hot, List.mem_singleton.mpr rfl⟩
  have isx := call_isEH (X := cxH C8.CX0 P w K mg base (["_law_e", "_law_flags", "_law_flag", "_law_words"] : List Str) "_law_word" (defScope (top 35)) f cdv A outer s H C8.E0 (a, oe)) (g.x n hn6) (List.mem_singleton.mpr rfl) hz hf
  refine ⟨_, pss_cons (ps_set (i := 1) S.nd rfl (loc_of (by kernel_rfl)) (pe_lst (pa_cons (pe_callB isx (gl_of (by kernel_rfl)) g.f1 bt_isinstance (pa_cons (pe_var (i := 0) rfl (vis_of (by kernel_rfl))) (pa_cons (pe_glob (v := .ref (He.ga K "BadValue")) (gl_of (by kernel_rfl)) (g.m "BadValue" (by decide)) rfl) pa_nil))) (pa_cons (pe_callB isx (gl_of (by kernel_rfl)) g.f1 bt_isinstance (pa_cons (pe_var (i := 0) rfl (vis_of (by kernel_rfl))) (pa_cons (pe_glob (v := .ref (He.ga K "BadSteps")) (gl_of (by kernel_rfl)) (g.m "BadSteps" (by decide)) rfl) pa_nil))) (pa_cons (pe_callB isx (gl_of (by kernel_rfl)) g.f1 bt_isinstance (pa_cons (pe_var (i := 0) rfl (vis_of (by kernel_rfl))) (pa_cons (pe_glob (v := .ref (He.ga K "BadHouse")) (gl_of (by kernel_rfl)) (g.m "BadHouse" (by decide)) rfl) pa_nil))) pa_nil)))))
    (pss_cons (ps_set (i := 1) S.nd rfl (loc_of (by kernel_rfl)) (pe_op op_cat (pe_var (i := 1) rfl (vis_of (by kernel_rfl))) (pe_lst (pa_cons (pe_callB isx (gl_of (by kernel_rfl)) g.f1 bt_isinstance (pa_cons (pe_var (i := 0) rfl (vis_of (by kernel_rfl))) (pa_cons (pe_glob (v := .ref (He.ga K "BadName")) (gl_of (by kernel_rfl)) (g.m "BadName" (by decide)) rfl) pa_nil))) pa_nil))))
    (pss_cons (ps_set (i := 1) S.nd rfl (loc_of (by kernel_rfl)) (pe_op op_cat (pe_var (i := 1) rfl (vis_of (by kernel_rfl))) (pe_lst (pa_cons (pe_callB isx (gl_of (by kernel_rfl)) g.f1 bt_isinstance (pa_cons (pe_var (i := 0) rfl (vis_of (by kernel_rfl))) (pa_cons (pe_glob (v := .ref (He.ga K "BadChoice")) (gl_of (by kernel_rfl)) (g.m "BadChoice" (by decide)) rfl) pa_nil))) (pa_cons (pe_callB isx (gl_of (by kernel_rfl)) g.f1 bt_isinstance (pa_cons (pe_var (i := 0) rfl (vis_of (by kernel_rfl))) (pa_cons (pe_glob (v := .ref (He.ga K "BadRecord")) (gl_of (by kernel_rfl)) (g.m "BadRecord" (by decide)) rfl) pa_nil))) (pa_cons (pe_callB isx (gl_of (by kernel_rfl)) g.f1 bt_isinstance (pa_cons (pe_var (i := 0) rfl (vis_of (by kernel_rfl))) (pa_cons (pe_glob (v := .ref (He.ga K "Trouble")) (gl_of (by kernel_rfl)) (g.m "Trouble" (by decide)) rfl) pa_nil))) pa_nil))))))
    (pss_cons (ps_if (pw_or (pt_cmpR op_ne (pe_callB (cr_sumH hc) (gl_of (by kernel_rfl)) g.f2 bt_sum (pa_cons (pe_lcH (own := [("_law_flag", 2)]) hc S.nd (pe_var (i := 1) rfl (vis_of (by kernel_rfl))) (blkOk_by (by kernel_rfl)) (fun _ _ _ _ _ => pg_name (i := 2) S.nd rfl (loc_of (by kernel_rfl)) (hf_of (by kernel_rfl))) (fun _ _ _ _ _ => pts_nil) (fun _ _ _ _ _ => pe_callTy call_int1 (gl_of (by kernel_rfl)) g.f3 bt_int (pa_cons (pe_var (i := 2) rfl (vis_of (by kernel_rfl))) pa_nil))) pa_nil)) pe_int (nomark _)) (pw_or1 (pt_not (pt_val (pe_callB isx (gl_of (by kernel_rfl)) g.f1 bt_isinstance (pa_cons (pe_var (i := 0) rfl (vis_of (by kernel_rfl))) (pa_cons (pe_bltn (v := .ty "ValueError") (gl_of (by kernel_rfl)) g.f4 (by decide +kernel) rfl) pa_nil))))))).pt pss_no pss_nil)
    (pss_cons (ps_if (pt_val (pe_callB isx (gl_of (by kernel_rfl)) g.f1 bt_isinstance (pa_cons (pe_var (i := 0) rfl (vis_of (by kernel_rfl))) (pa_cons (pe_glob (v := .ref (He.ga K "Trouble")) (gl_of (by kernel_rfl)) (g.m "Trouble" (by decide)) rfl) pa_nil)))) pss_no pss_nil)
    (pss_cons (ps_set (i := 3) S.nd rfl (loc_of (by kernel_rfl)) (pe_lst (pa_cons pe_str (pa_cons pe_str (pa_cons pe_str (pa_cons pe_str (pa_cons pe_str (pa_cons pe_str pa_nil))))))))
    (pss_one (ps_ret (pe_tup (pa_cons pe_str (pa_cons (pe_ix ix_seq (pe_var (i := 3) rfl (vis_of (by kernel_rfl))) (pe_bm PySem.F.plainAttrs_list PySem.F.slot_list_index PySem.F.type_list_index mt_index (pe_var (i := 1) rfl (vis_of (by kernel_rfl))) (pa_cons pe_bl pa_nil)) (fun _ _ => rfl)) pa_nil)))))))))), ?_⟩
  have kk := g.k n hn6
  have z7 : 7 < sizeLine := by rw [sizeLine_eq]; decide
  refine isP rfl (kk "BadValue" (by decide)) (isP rfl (kk "BadSteps" (by decide)) (isP rfl (kk "BadHouse" (by decide)) ⟨by show 3 ≤ sizeLine; omega, fun q1 hq1 => ?_⟩))
  refine ⟨.ref q1, rfl, ?_⟩
  refine isP rfl (kk "BadName" (by decide)) ⟨by show 1 ≤ sizeLine; omega, fun q2 hq2 => ?_⟩
  have n0 : q1 ≠ q2 := fun z => by subst z; rw [upd_same] at hq2; cases hq2
  refine ⟨q1, q2, _, _, rfl, rfl, (by rw [upd_ne n0]; exact upd_same), upd_same, by show 3 + 1 ≤ sizeLine; omega, fun p1 hp1 => ?_⟩
  refine ⟨.ref p1, rfl, ?_⟩
  refine isP rfl (kk "BadChoice" (by decide)) (isP rfl (kk "BadRecord" (by decide)) (isP rfl (kk "Trouble" (by decide)) ⟨by show 3 ≤ sizeLine; omega, fun p2 hp2 => ?_⟩))
  have n12 : p1 ≠ p2 := fun z => by subst z; rw [upd_same] at hp2; cases hp2
  refine ⟨p1, p2, _, _, rfl, rfl, (by rw [upd_ne n12]; exact upd_same), upd_same, by show 4 + 3 ≤ sizeLine; omega, fun p3 hp3 => ?_⟩
  have m3 := (More.new hq1 _).trans ((More.new hq2 _).trans ((More.new hp1 _).trans ((More.new hp2 _).trans (More.new hp3 (.lst ((bits n).map V.bl))))))
  dsimp only [gName, tSeq, tIfS, tOr, tTest, tOp, tCons, List.map]
  unfold tCB
  dsimp only
  refine lcP (a := p3) (vs := (bits n).map V.bl) (ys := (bits n).map fun c => V.int (if c = true then 1 else 0)) rfl upd_same (by simp) z7 (by simp [L2.start]) (fun m v y hv hy σ' H' Q' h2 q2 => ?_) (fun p4 hp4 => ?_)
  · rw [List.getElem?_map] at hv hy
    cases hb : (bits n)[m]? with
    | none => rw [hb] at hv; cases hv
    | some c =>
      rw [hb] at hv hy
      cases hv
      cases hy
      exact ⟨_, h2, .inr ⟨c, rfl, q2⟩⟩
  have e4 : (bits n).map (fun c => V.int (if c = true then 1 else 0)) = ((bits n).map fun c => (if c = true then (1 : Int) else 0)).map V.int := by rw [List.map_map]; rfl
  refine ⟨p4, _, rfl, SqL.of (by rw [upd_same, e4]), ?_⟩
  rw [bits_sum n hn6]
  refine ⟨rfl, false, rfl, ?_⟩
  refine iteF (isPT rfl (g.v n hn6) ⟨true, rfl, iteF ?_⟩)
  refine isP rfl (kk "Trouble" (by decide)) ⟨_, rfl, ?_⟩
  dsimp only
  rw [if_neg (by rw [bits_tr n hn6]; decide)]
  refine ⟨by show 6 ≤ sizeLine; omega, fun p5 hp5 => ?_⟩
  obtain ⟨j, hj6, hj, hlt, hw⟩ := bits_ix n hn6
  have m5 := (More.new hp4 (.lst ((bits n).map fun c => V.int (if c = true then 1 else 0)))).trans (More.new hp5 (.lst [.str "BadValue", .str "BadSteps", .str "BadHouse", .str "BadName", .str "BadChoice", .str "BadRecord"]))
  have s3 := m5 p3 _ upd_same
  refine ⟨.ref p5, rfl, .ref p3, rfl, .inl ⟨rfl, _, SqL.of s3⟩, ?_⟩
  refine ⟨p3, (bits n).map V.bl, .bl true, j, .bl true, rfl, rfl, SqL.of s3, rfl, ?_, by rw [List.getElem?_map, hj]; rfl, rfl, fun m z hm hz2 => ?_, ?_⟩
  · rw [List.all_map]
    exact List.all_eq_true.mpr fun _ _ => rfl
  · rw [List.getElem?_map, hlt m hm] at hz2
    cases hz2
    rfl
  refine .inl ⟨p5, six.map V.str, j, .str n, rfl, rfl, SqL.of upd_same, ?_, ⟨by show 2 ≤ sizeLine; omega, fun t ht => q _ t (m3.trans m5) ht⟩⟩
  have h6 : (six.map V.str)[j]? = some (V.str n) := by rw [List.getElem?_map, hw]; rfl
  unfold atI L2.ixN
  rw [if_pos (by omega), if_pos (by show (j : Int) < 6; omega)]
  exact h6
theorem wordsT (g : WG K mg) (gt : WGT K) (gx : XcG K mg "Trouble" "word" "what") (k : Nat) (f : Addr) : Words P w K mg base k "_law_word" (["_law_e", "_law_flags", "_law_flag", "_law_words"] : List Str) (defScope (top 35)) f (defBody (top 35)) (WQT mg) := by
  intro cdv A outer s H Q a oe cls d hot hr hz hf hn ⟨C, dd, fs, u, v, hm, ec, ed, hd, l1, l2, q⟩
  subst ec ed
  have S := s__law_word
  have eC : C = He.ga K "Trouble" := by
    have := g.m "Trouble" (by decide)
    rw [hm] at this
    cases this
    rfl
  subst eC
  have hc : HotC (cxH C8.CX0 P w K mg base (["_law_e", "_law_flags", "_law_flag", "_law_words"] : List Str) "_law_word" (defScope (top 35)) f cdv A outer s H C8.E0 (a, oe)) := ⟨(a, oe), hot, List.mem_singleton.mpr rfl⟩
  have isx := call_isXH (X := cxH C8.CX0 P w K mg base (["_law_e", "_law_flags", "_law_flag", "_law_words"] : List Str) "_law_word" (defScope (top 35)) f cdv A outer s H C8.E0 (a, oe)) gt.x (List.mem_singleton.mpr rfl) hz hf
  refine ⟨_, pss_cons (ps_set (i := 1) S.nd rfl (loc_of (by kernel_rfl)) (pe_lst (pa_cons (pe_callB isx (gl_of (by kernel_rfl)) g.f1 bt_isinstance (pa_cons (pe_var (i := 0) rfl (vis_of (by kernel_rfl))) (pa_cons (pe_glob (v := .ref (He.ga K "BadValue")) (gl_of (by kernel_rfl)) (g.m "BadValue" (by decide)) rfl) pa_nil))) (pa_cons (pe_callB isx (gl_of (by kernel_rfl)) g.f1 bt_isinstance (pa_cons (pe_var (i := 0) rfl (vis_of (by kernel_rfl))) (pa_cons (pe_glob (v := .ref (He.ga K "BadSteps")) (gl_of (by kernel_rfl)) (g.m "BadSteps" (by decide)) rfl) pa_nil))) (pa_cons (pe_callB isx (gl_of (by kernel_rfl)) g.f1 bt_isinstance (pa_cons (pe_var (i := 0) rfl (vis_of (by kernel_rfl))) (pa_cons (pe_glob (v := .ref (He.ga K "BadHouse")) (gl_of (by kernel_rfl)) (g.m "BadHouse" (by decide)) rfl) pa_nil))) pa_nil)))))
    (pss_cons (ps_set (i := 1) S.nd rfl (loc_of (by kernel_rfl)) (pe_op op_cat (pe_var (i := 1) rfl (vis_of (by kernel_rfl))) (pe_lst (pa_cons (pe_callB isx (gl_of (by kernel_rfl)) g.f1 bt_isinstance (pa_cons (pe_var (i := 0) rfl (vis_of (by kernel_rfl))) (pa_cons (pe_glob (v := .ref (He.ga K "BadName")) (gl_of (by kernel_rfl)) (g.m "BadName" (by decide)) rfl) pa_nil))) pa_nil))))
    (pss_cons (ps_set (i := 1) S.nd rfl (loc_of (by kernel_rfl)) (pe_op op_cat (pe_var (i := 1) rfl (vis_of (by kernel_rfl))) (pe_lst (pa_cons (pe_callB isx (gl_of (by kernel_rfl)) g.f1 bt_isinstance (pa_cons (pe_var (i := 0) rfl (vis_of (by kernel_rfl))) (pa_cons (pe_glob (v := .ref (He.ga K "BadChoice")) (gl_of (by kernel_rfl)) (g.m "BadChoice" (by decide)) rfl) pa_nil))) (pa_cons (pe_callB isx (gl_of (by kernel_rfl)) g.f1 bt_isinstance (pa_cons (pe_var (i := 0) rfl (vis_of (by kernel_rfl))) (pa_cons (pe_glob (v := .ref (He.ga K "BadRecord")) (gl_of (by kernel_rfl)) (g.m "BadRecord" (by decide)) rfl) pa_nil))) (pa_cons (pe_callB isx (gl_of (by kernel_rfl)) g.f1 bt_isinstance (pa_cons (pe_var (i := 0) rfl (vis_of (by kernel_rfl))) (pa_cons (pe_glob (v := .ref (He.ga K "Trouble")) (gl_of (by kernel_rfl)) (g.m "Trouble" (by decide)) rfl) pa_nil))) pa_nil))))))
    (pss_cons (ps_if (pw_or (pt_cmpR op_ne (pe_callB (cr_sumH hc) (gl_of (by kernel_rfl)) g.f2 bt_sum (pa_cons (pe_lcH (own := [("_law_flag", 2)]) hc S.nd (pe_var (i := 1) rfl (vis_of (by kernel_rfl))) (blkOk_by (by kernel_rfl)) (fun _ _ _ _ _ => pg_name (i := 2) S.nd rfl (loc_of (by kernel_rfl)) (hf_of (by kernel_rfl))) (fun _ _ _ _ _ => pts_nil) (fun _ _ _ _ _ => pe_callTy call_int1 (gl_of (by kernel_rfl)) g.f3 bt_int (pa_cons (pe_var (i := 2) rfl (vis_of (by kernel_rfl))) pa_nil))) pa_nil)) pe_int (nomark _)) (pw_or1 (pt_not (pt_val (pe_callB isx (gl_of (by kernel_rfl)) g.f1 bt_isinstance (pa_cons (pe_var (i := 0) rfl (vis_of (by kernel_rfl))) (pa_cons (pe_bltn (v := .ty "ValueError") (gl_of (by kernel_rfl)) g.f4 (by decide +kernel) rfl) pa_nil))))))).pt pss_no pss_nil)
    (pss_cons (ps_if (pt_val (pe_callB isx (gl_of (by kernel_rfl)) g.f1 bt_isinstance (pa_cons (pe_var (i := 0) rfl (vis_of (by kernel_rfl))) (pa_cons (pe_glob (v := .ref (He.ga K "Trouble")) (gl_of (by kernel_rfl)) (g.m "Trouble" (by decide)) rfl) pa_nil)))) (pss_one (ps_ret (pe_tup (pa_cons pe_str (pa_cons (pe_xfH (n := "word") gx.x gx.n1 (List.mem_singleton.mpr rfl) hz hf (pe_var (i := 0) rfl (vis_of (by kernel_rfl)))) (pa_cons (pe_xfH (n := "what") gx.x gx.n2 (List.mem_singleton.mpr rfl) hz hf (pe_var (i := 0) rfl (vis_of (by kernel_rfl)))) pa_nil)))))) pss_nil) pss_no)))), ?_⟩
  have kk := gt.k
  have z7 : 7 < sizeLine := by rw [sizeLine_eq]; decide
  refine (isQ hd rfl (kk "BadValue" (by decide)) (isQ hd rfl (kk "BadSteps" (by decide)) (isQ hd rfl (kk "BadHouse" (by decide)) ⟨by show 3 ≤ sizeLine; omega, fun q1 hq1 => ?_⟩)))
  have mq1 := More.new hq1 (.lst [.bl (("Trouble" : Str) == "BadValue"), .bl (("Trouble" : Str) == "BadSteps"), .bl (("Trouble" : Str) == "BadHouse")])
  refine ⟨.ref q1, rfl, ?_⟩
  refine (isQ (mq1 _ _ hd) rfl (kk "BadName" (by decide)) ⟨by show 1 ≤ sizeLine; omega, fun q2 hq2 => ?_⟩)
  have mq2 := mq1.trans (More.new hq2 (.lst [.bl (("Trouble" : Str) == "BadName")]))
  have n0 : q1 ≠ q2 := fun z => by subst z; rw [upd_same] at hq2; cases hq2
  refine ⟨q1, q2, _, _, rfl, rfl, (by rw [upd_ne n0]; exact upd_same), upd_same, by show 3 + 1 ≤ sizeLine; omega, fun p1 hp1 => ?_⟩
  have m1 := mq2.trans (More.new hp1 (.lst [.bl (("Trouble" : Str) == "BadValue"), .bl (("Trouble" : Str) == "BadSteps"), .bl (("Trouble" : Str) == "BadHouse"), .bl (("Trouble" : Str) == "BadName")]))
  refine ⟨.ref p1, rfl, ?_⟩
  refine (isQ (m1 _ _ hd) rfl (kk "BadChoice" (by decide)) (isQ (m1 _ _ hd) rfl (kk "BadRecord" (by decide)) (isQ (m1 _ _ hd) rfl (kk "Trouble" (by decide)) ⟨by show 3 ≤ sizeLine; omega, fun p2 hp2 => ?_⟩)))
  have n12 : p1 ≠ p2 := fun z => by subst z; rw [upd_same] at hp2; cases hp2
  refine ⟨p1, p2, _, _, rfl, rfl, (by rw [upd_ne n12]; exact upd_same), upd_same, by show 4 + 3 ≤ sizeLine; omega, fun p3 hp3 => ?_⟩
  have m3 := m1.trans ((More.new hp2 _).trans (More.new hp3 (.lst ((bits "Trouble").map V.bl))))
  dsimp only [gName, tSeq, tIfS, tOr, tTest, tOp, tCons, List.map]
  unfold tCB
  dsimp only
  refine lcP (a := p3) (vs := (bits "Trouble").map V.bl) (ys := (bits "Trouble").map fun c => V.int (if c = true then 1 else 0)) rfl upd_same (by simp) z7 (by simp [L2.start]) (fun m v y hv hy σ' H' Q' h2 q2 => ?_) (fun p4 hp4 => ?_)
  · rw [List.getElem?_map] at hv hy
    cases hb : (bits "Trouble")[m]? with
    | none => rw [hb] at hv; cases hv
    | some c =>
      rw [hb] at hv hy
      cases hv
      cases hy
      exact ⟨_, h2, .inr ⟨c, rfl, q2⟩⟩
  have e4 : (bits "Trouble").map (fun c => V.int (if c = true then 1 else 0)) = ((bits "Trouble").map fun c => (if c = true then (1 : Int) else 0)).map V.int := by rw [List.map_map]; rfl
  have m4 := m3.trans (More.new hp4 (.lst ((bits "Trouble").map fun c => V.int (if c = true then 1 else 0))))
  have hd4 := m4 _ _ hd
  refine ⟨p4, _, rfl, SqL.of (by rw [upd_same, e4]), ?_⟩
  rw [bitsT_sum]
  refine ⟨rfl, false, rfl, ?_⟩
  refine iteF (isQT hd4 rfl gt.v ⟨true, rfl, iteF ?_⟩)
  refine isQ hd4 rfl (kk "Trouble" (by decide)) ⟨_, rfl, ?_⟩
  dsimp only
  rw [if_pos (by decide)]
  exact ⟨.ref a, rfl, rfl, fs, u, hd4, l1, .ref a, rfl, rfl, fs, v, hd4, l2, by show 3 ≤ sizeLine; omega, fun t ht => q _ t m4 ht⟩
theorem words7 (g : WG K mg) (gt : WGT K) (gx : XcG K mg "Trouble" "word" "what") (k : Nat) (f : Addr) : Words P w K mg base k "_law_word" (["_law_e", "_law_flags", "_law_flag", "_law_words"] : List Str) (defScope (top 35)) f (defBody (top 35)) (WQ7 mg) := by
  intro cdv A outer s H Q a oe cls d hot hr hz hf hn h
  rcases h with h | h
  · exact words g k f cdv A outer s H Q a oe cls d hot hr hz hf hn h
  · exact wordsT g gt gx k f cdv A outer s H Q a oe cls d hot hr hz hf hn h
end
theorem s__law_told : FnScope (["_law_deed", "_law_e"] : List Str) (["_law_deed"] : List Str) (defScope (top 36)) := scope_of (by kernel_rfl)
theorem told_call {X : Cx} {T : List (Addr × Str)} {Γ : List Bool} {W : WX} {fdt fdw : FuncData} {lv : Nat} {c P : Addr} {params : Arguments} {body : Expr} {scope : Scope} {f : Rho → R D} {p lpos pos : Pos} (g : WG X.K X.mg) (gt7 : WGT X.K) (gx : XcG X.K X.mg "Trouble" "word" "what")
    (ft : FunD X.K "_law_told" "_law_told" (defArgs (top 36)) (defBody (top 36)) (defScope (top 36)) [] [] (He.ga X.K "_law_told") fdt) (fw : FunD X.K "_law_word" "_law_word" (defArgs (top 35)) (defBody (top 35)) (defScope (top 35)) [] [] (He.ga X.K "_law_word") fdw)
    (gt : X.mg "_law_told" = some (.ref (He.ga X.K "_law_told"))) (gw : X.mg "_law_word" = some (.ref (He.ga X.K "_law_word"))) (hg : Gl X "_law_told") (hr : Room (lv + 2) X.A)
    (TB : TabB X.base X.mg c P) (hcode : X.env.code = .ref c) (hmT : (P, X.env.qual ++ "<lambda>") ∈ T) (hu : ∀ p ∈ T, p.1 = P → p.2 = X.env.qual ++ "<lambda>") (L : LamS X.env.scope scope) (hdef : defaultsOf params X.env = ([], []))
    (hbind : ∀ (q : Str) (cl : List (Str × Addr)) (pm cv ctv : Value), bindArgs (PySem.W.kla_fn "<lambda>" q params body scope cl pm cv ctv) ⟨[], []⟩ = pure [])
    (hbody : ∀ (A : Around) (outer : List Env) (s : Shared) (H : Hp) (E : XK) (f1 c' : Addr), Room lv (A.deeper (lamEnv X scope s.heap.objs.size f1 c')) → PD (lamN X A outer s H E scope f1 c') T Γ (fun cls d _ H => E cls d H) .v body f) :
    PD X T Γ W .v (.Call (.Name "_law_told" p) [.Lambda params body scope lpos] [] pos) (toldX f) := by
  have bt : L2.Binds X.K fdt (["_law_deed"] : List Str) [] := ft.bindsN fun _ _ _ _ _ _ us hl => match us, hl with | [_], _ => rfl
  have bw : L2.Binds X.K fdw (["_law_e"] : List Str) [] := fw.bindsN fun _ _ _ _ _ _ us hl => match us, hl with | [_], _ => rfl
  obtain ⟨oc, od, dV, kV, doc, pm, an, cdt, ct, osl, h1, h2, h3, _, _⟩ := ft.ex
  obtain ⟨oc2, od2, dV2, kV2, doc2, pm2, an2, cdw, ct2, osl2, h4, h5, h6, _, _⟩ := fw.ex
  subst h1 h4
  refine pd_toldX (CS := He.ga X.K "TryError") (lamcall (Ng := (["_law_deed", "_law_e"] : List Str)) (t := fun E => tD X.K X.mg T Γ (fun cls d _ H => E cls d H) .v f) (TT := TWord X.K (He.ga X.K "TryError") (WQ7 X.mg)) hg gt ft.kp h2 h3 bt s__law_told rfl (vis_of (by kernel_rfl)) (fun cdv => ?_) TB hcode hmT hu hr L hdef hbind (fun A outer s H E f1 c' h => hbody A outer s H E f1 c' h)) fun n hn C hC => ?_
  · exact tells (N := (["_law_e", "_law_flags", "_law_flag", "_law_words"] : List Str)) s__law_told rfl rfl (by decide) (by kernel_rfl) (by kernel_rfl) g.t (by decide) h5 h6 s__law_word fw.kp bw (by kernel_rfl) gw (words7 g gt7 gx lv _) (by decide) (by decide) (by decide)
  · have := g.m n hn
    rw [hC] at this
    cases this
    by_cases h6 : n ∈ six
    · exact g.e n h6
    · have : n = "Trouble" := by revert hn h6; unfold six seven; simp; intro h; rcases h with h | h | h | h | h | h | h <;> simp [h]
      subst this
      exact gt7.e
def tf : List He.Defn := [("unlike_by", none), ("law", none)]
def TT (K : PySem.W.Frag) : List (Addr × Str) := tf.map fun p => ((He.cT K p).2, p.1 ++ ".<locals>." ++ "<lambda>")
theorem tm_unlike_by (K : PySem.W.Frag) : ((He.cT K ("unlike_by", none)).2, (("unlike_by" : Str) ++ ".<locals>." ++ "<lambda>" : Str)) ∈ TT K := List.mem_map.mpr ⟨("unlike_by", none), by decide, rfl⟩
theorem tu_unlike_by (K : PySem.W.Frag) (nd : ((tf.map fun p => (He.cT K p).2)).Nodup) : ∀ p ∈ TT K, p.1 = (He.cT K ("unlike_by", none)).2 → p.2 = ("unlike_by" : Str) ++ ".<locals>." ++ "<lambda>" := tab_uni nd (by decide)
theorem tm_law (K : PySem.W.Frag) : ((He.cT K ("law", none)).2, (("law" : Str) ++ ".<locals>." ++ "<lambda>" : Str)) ∈ TT K := List.mem_map.mpr ⟨("law", none), by decide, rfl⟩
theorem tu_law (K : PySem.W.Frag) (nd : ((tf.map fun p => (He.cT K p).2)).Nodup) : ∀ p ∈ TT K, p.1 = (He.cT K ("law", none)).2 → p.2 = ("law" : Str) ++ ".<locals>." ++ "<lambda>" := tab_uni nd (by decide)
section
variable {P : Program} {w : World} {K : PySem.W.Frag} {mg : Str → Option Value} {base : Heap} {T : List (Addr × Str)} {fd : Nat → FuncData}
theorem s__law_drawn : FnScope (["_law_cell_here", "_law_k", "_law_more"] : List Str) (["_law_cell_here", "_law_k"] : List Str) (defScope (top 34)) := scope_of (by kernel_rfl)
theorem b__law_drawn (g : Gx w K mg fd) : Binds K (fd 19) (["_law_cell_here", "_law_k"] : List Str) [] := g.f__law_drawn.bindsN fun _ _ _ _ _ _ us hl => match us, hl with | [_, _], _ => rfl
theorem ok__law_drawn (g : Gx w K mg fd) (tb : ∀ p ∈ tf, TabB base mg (He.cT K p).1 (He.cT K p).2) (nd : ((tf.map fun p => (He.cT K p).2)).Nodup) : FnD P w K mg base (TT K) 1 (He.ga K "_law_drawn") (fd 19) (["_law_cell_here", "_law_k"] : List Str) .v _law_drawn_f :=
  fnD_fun (lv := 0) (k := .v) (_law_drawn_F) 3 (0 + 1) (_law_drawn_f) g.f__law_drawn s__law_drawn rfl (by omega) rfl (.inl rfl) fun cdv A outer s H E hr => by
    have S := s__law_drawn
    show PDSs _ _ [false, false, false] [false, false, false] [false, false, false] _ _
    exact (pdss_cons (Γ1 := [false, false, false]) (pds_set S.nd (i := 2) rfl (loc_of (by kernel_rfl)) (pd_op (pe_op op_mod (PD.vb (pd_op (pe_op op_addU (PD.vb (pd_op (pe_op op_mul (PD.vb (pd_var 0 rfl (vis_of (by kernel_rfl)) (by decide))) (PD.vb pd_int)) od_mulR)) (PD.vb (pd_op (pe_op op_mul (PD.vb (pd_op (pe_op op_addU (PD.vb (pd_var 1 rfl (vis_of (by kernel_rfl)) (by decide))) (PD.vb pd_int)) od_add)) (PD.vb pd_int)) od_mulR))) od_add)) (PD.vb pd_int)) od_mod) (.inl rfl)) (pdss_cons (Γ1 := [false, false, false]) (pds_set S.nd (i := 2) rfl (loc_of (by kernel_rfl)) (pd_op (pe_op op_mod (PD.vb (pd_op (pe_op op_mulW (PD.vb (pd_var 2 rfl (vis_of (by kernel_rfl)) (by decide))) (PD.vb (pd_var 2 rfl (vis_of (by kernel_rfl)) (by decide)))) od_mul)) (PD.vb pd_int)) od_mod) (.inl rfl)) (pdss_cons (Γ1 := [false, false, false]) (pds_set S.nd (i := 2) rfl (loc_of (by kernel_rfl)) (pd_op (pe_op op_mulW (PD.vb (pd_op (pe_op op_mulW (PD.vb (pd_op (pe_op op_addU (PD.vb (pd_op (pe_op op_mod (PD.vb (pd_var 2 rfl (vis_of (by kernel_rfl)) (by decide))) (PD.vb pd_int)) od_mod)) (PD.vb pd_int)) od_add)) (PD.vb (pd_op (pe_op op_addU (PD.vb (pd_op (pe_op op_fdivW (PD.vb (pd_var 2 rfl (vis_of (by kernel_rfl)) (by decide))) (PD.vb pd_int)) od_div)) (PD.vb pd_int)) od_add))) od_mul)) (PD.vb (pd_var 2 rfl (vis_of (by kernel_rfl)) (by decide)))) od_mul) (.inl rfl)) (pdss_one (pds_ret (pd_op (pe_op op_mod (PD.vb (pd_var 2 rfl (vis_of (by kernel_rfl)) (by decide))) (PD.vb pd_int)) od_mod))))))
theorem s__law_cell : FnScope (["_law_script", "_law_k"] : List Str) (["_law_script", "_law_k"] : List Str) (defScope (top 33)) := scope_of (by kernel_rfl)
theorem b__law_cell (g : Gx w K mg fd) : Binds K (fd 18) (["_law_script", "_law_k"] : List Str) [] := g.f__law_cell.bindsN fun _ _ _ _ _ _ us hl => match us, hl with | [_, _], _ => rfl
theorem ok__law_cell (g : Gx w K mg fd) (tb : ∀ p ∈ tf, TabB base mg (He.cT K p).1 (He.cT K p).2) (nd : ((tf.map fun p => (He.cT K p).2)).Nodup) : FnD P w K mg base (TT K) 1 (He.ga K "_law_cell") (fd 18) (["_law_script", "_law_k"] : List Str) .v _law_cell_f :=
  fnD_fun (lv := 0) (k := .v) (_law_cell_F) 2 (0 + 1) (_law_cell_f) g.f__law_cell s__law_cell rfl (by omega) rfl (.inl rfl) fun cdv A outer s H E hr => by
    have S := s__law_cell
    show PDSs _ _ [false, false] [false, false] [false, false] _ _
    exact (pdss_cons (Γ1 := [false, false]) (pds_if (Γ' := [false, false]) (pdt_cmp (op_eqD hr.units) (OpD.vb od_eq) (PD.vb (pd_var 0 rfl (vis_of (by kernel_rfl)) (by decide))) (PD.ob (pd_lst pda_nil (len_ok (nil_len (n := 0)) (by rw [sizeLine_eq]; omega)))) (nomark _)) (pdss_one (pds_ret (pd_op (pe_op op_mul (PD.vb (pd_var 1 rfl (vis_of (by kernel_rfl)) (by decide))) (PD.vb pd_int)) od_mulR))) pdss_nil) (pdss_one (pds_ret (pd_op (pe_op op_addU (PD.vb (pd_ix2 (units1 hr) (PD.vb (pd_var 0 rfl (vis_of (by kernel_rfl)) (by decide))) (PD.vb (pd_op (pe_op op_mod (PD.vb (pd_var 1 rfl (vis_of (by kernel_rfl)) (by decide))) (PD.vb (pd_cb (es := []) (pe_callB call_len (gl_of (by kernel_rfl)) g.g_len bt_len (pda_cons (PD.vb (pd_var 0 rfl (vis_of (by kernel_rfl)) (by decide))) pda_nil)) fb_len))) od_mod)) (fun _ _ => rfl) (fun _ _ => rfl))) (PD.vb (pd_op (pe_op op_mul (PD.vb (pd_op (pe_op op_fdivW (PD.vb (pd_var 1 rfl (vis_of (by kernel_rfl)) (by decide))) (PD.vb (pd_cb (es := []) (pe_callB call_len (gl_of (by kernel_rfl)) g.g_len bt_len (pda_cons (PD.vb (pd_var 0 rfl (vis_of (by kernel_rfl)) (by decide))) pda_nil)) fb_len))) od_div)) (PD.vb pd_int)) od_mulR))) od_add))))
theorem s__law_pairs : FnScope ([] : List Str) ([] : List Str) (defScope (top 40)) := scope_of (by kernel_rfl)
theorem b__law_pairs (g : Gx w K mg fd) : Binds K (fd 23) ([] : List Str) [] := g.f__law_pairs.bindsN fun _ _ _ _ _ _ us hl => match us, hl with | [], _ => rfl
theorem ok__law_pairs (g : Gx w K mg fd) (tb : ∀ p ∈ tf, TabB base mg (He.cT K p).1 (He.cT K p).2) (nd : ((tf.map fun p => (He.cT K p).2)).Nodup) : FnD P w K mg base (TT K) 1 (He.ga K "_law_pairs") (fd 23) ([] : List Str) .v _law_pairs_f :=
  fnD_fun (lv := 0) (k := .v) (_law_pairs_F) 0 (0 + 1) (_law_pairs_f) g.f__law_pairs s__law_pairs rfl (by omega) rfl (.inl rfl) fun cdv A outer s H E hr => by
    have S := s__law_pairs
    show PDSs _ _ [] [] [] _ _
    exact (pdss_one (pds_ret (pd_tup (pda_cons (pd_str (by kernel_rfl)) (pda_cons (pd_tup (pda_cons (pd_str (by kernel_rfl)) (pda_cons (pd_str (by kernel_rfl)) pda_nil)) (len_ok (cons_len (cons_len (nil_len (n := 0)))) (by rw [sizeLine_eq]; omega))) (pda_cons (pd_tup (pda_cons (pd_str (by kernel_rfl)) (pda_cons (pd_str (by kernel_rfl)) pda_nil)) (len_ok (cons_len (cons_len (nil_len (n := 0)))) (by rw [sizeLine_eq]; omega))) pda_nil))) (len_ok (cons_len (cons_len (cons_len (nil_len (n := 0))))) (by rw [sizeLine_eq]; omega)))))
theorem s_need : FnScope (["good"] : List Str) (["good"] : List Str) (defScope (top 19)) := scope_of (by kernel_rfl)
theorem b_need (g : Gx w K mg fd) : Binds K (fd 1) (["good"] : List Str) [] := g.f_need.bindsN fun _ _ _ _ _ _ us hl => match us, hl with | [_], _ => rfl
theorem ok_need (g : Gx w K mg fd) (tb : ∀ p ∈ tf, TabB base mg (He.cT K p).1 (He.cT K p).2) (nd : ((tf.map fun p => (He.cT K p).2)).Nodup) : FnD P w K mg base (TT K) 1 (He.ga K "need") (fd 1) (["good"] : List Str) .v need_f :=
  fnD_fun (lv := 0) (k := .v) (need_F) 1 (0 + 1) (need_f) g.f_need s_need rfl (by omega) rfl (.inl rfl) fun cdv A outer s H E hr => by
    have S := s_need
    show PDSs _ _ [false] [false] [false] _ _
    exact (pdss_one (pds_if (Γ' := [false]) (pdt_not (pdt_val (PD.vb (pd_var 0 rfl (vis_of (by kernel_rfl)) (by decide))))) (pdss_one (pds_excS rfl (L2N.takes_of rfl rfl rfl rfl) g.e_BadChoice (gl_of (by kernel_rfl)))) pdss_nil))
theorem s_is_name : FnScope (["thing", "sign"] : List Str) (["thing"] : List Str) (defScope (top 13)) := scope_of (by kernel_rfl)
theorem b_is_name (g : Gx w K mg fd) : Binds K (fd 0) (["thing"] : List Str) [] := g.f_is_name.bindsN fun _ _ _ _ _ _ us hl => match us, hl with | [_], _ => rfl
theorem ok_is_name (g : Gx w K mg fd) (tb : ∀ p ∈ tf, TabB base mg (He.cT K p).1 (He.cT K p).2) (nd : ((tf.map fun p => (He.cT K p).2)).Nodup) : FnD P w K mg base (TT K) 1 (He.ga K "is_name") (fd 0) (["thing"] : List Str) .v is_name_f :=
  fnD_fun (lv := 0) (k := .v) (is_name_F) 2 (0 + 1) (is_name_f) g.f_is_name s_is_name rfl (by omega) rfl (.inl rfl) fun cdv A outer s H E hr => by
    have S := s_is_name
    show PDSs _ _ [false, false] [false, false] [false, false] _ _
    exact (pdss_cons (Γ1 := [false, false]) (pds_if (Γ' := [false, false]) (pdt_w (pdw_or (pdt_not (pdt_val (PD.vb (pd_isi (pe_callB call_isi (gl_of (by kernel_rfl)) g.g_isinstance bt_isinstance (pa_cons (PD.vb (pd_var 0 rfl (vis_of (by kernel_rfl)) (by decide))) (pa_cons (pe_bltn (v := .ty "str") (gl_of (by kernel_rfl)) g.g_str bt_str rfl) pa_nil))))))) (pdw_or1 (pdt_cmp (op_inU2 (units1 hr)) (OpD.vb od_in2) (PD.vb (pd_var 0 rfl (vis_of (by kernel_rfl)) (by decide))) (PD.vb (pd_gtup (gl_of (by kernel_rfl)) g.t_BARRED (by kernel_rfl))) (by with_unfolding_all rfl))))) (pdss_one (pds_ret pd_bl)) pdss_nil) (pdss_one (pds_ret (PD.bv (pd_and (PD.vb (pd_chn (c := .Constant .none 0 ⟨0, 0, 0, 0⟩) (pe_chain op_leU op_leU (PD.vb pd_int) (PD.vb (pd_cb (es := []) (pe_callB call_len (gl_of (by kernel_rfl)) g.g_len bt_len (pda_cons (PD.vb (pd_var 0 rfl (vis_of (by kernel_rfl)) (by decide))) pda_nil)) fb_len)) (PD.vb (pd_gint (gl_of (by kernel_rfl)) g.v_MOST_NAME))) od_le od_le)) (pd_one (PD.vb (pd_cb (es := []) (pe_callB (cr_all rfl) (gl_of (by kernel_rfl)) g.g_all bt_all (pda_cons (PD.ob (pd_comp (own := [("sign", 1)]) rfl S.nd (pdi_any (pd_var 0 rfl (vis_of (by kernel_rfl)) (by decide))) (blkOk_by (by kernel_rfl)) (fun _ _ _ _ _ => (pdg_one S.nd (i := 1) rfl (loc_of (by kernel_rfl)) (hf_of (by kernel_rfl)))) (fun _ _ _ _ _ => pdts_nil) (fun _ _ _ _ _ => (pd_op (pe_cmpR (op_inU2 (units1 hr)) (PD.vb (pd_var 1 rfl (vis_of (by kernel_rfl)) (by decide))) (PD.vb (pd_gstr (gl_of (by kernel_rfl)) g.v_LETTERS (by kernel_rfl))) (by with_unfolding_all rfl)) od_in2)) (by rfl))) pda_nil)) fb_all))))))))
theorem s_need_deep : FnScope (["tree", "deep", "one"] : List Str) (["tree", "deep"] : List Str) (defScope (top 20)) := scope_of (by kernel_rfl)
theorem b_need_deep (g : Gx w K mg fd) : Binds K (fd 2) (["tree", "deep"] : List Str) [] := g.f_need_deep.bindsN fun _ _ _ _ _ _ us hl => match us, hl with | [_, _], _ => rfl
theorem oks_need_deep (g : Gx w K mg fd) (tb : ∀ p ∈ tf, TabB base mg (He.cT K p).1 (He.cT K p).2) (nd : ((tf.map fun p => (He.cT K p).2)).Nodup) : ∀ n : Nat, FnD P w K mg base (TT K) (2 + n) (He.ga K "need_deep") (fd 2) (["tree", "deep"] : List Str) .v (need_deep_r n)
  | 0 => fnD_none (lv := 1) g.f_need_deep s_need_deep
  | n + 1 => by
    have h_need_deep := oks_need_deep g tb nd n
    exact fnD_fun (lv := 2 + n) (k := .v) (need_deep_F (need_deep_r n)) 3 (2 + n + 1) (need_deep_r (n + 1)) g.f_need_deep s_need_deep rfl (by omega) rfl (.inl rfl) fun cdv A outer s H E hr => by
      have S := s_need_deep
      show PDSs _ _ [false, false, false] [false, false, false] [false, false, false] _ _
      exact (pdss_cons (Γ1 := [false, false, false]) (pds_expr (PD.vb (pd_call (ok_need g tb nd) (hr.mono (by omega)) (gl_of (by kernel_rfl)) g.g_need g.f_need.kp (b_need g) (L2N.takes_of rfl rfl rfl rfl) (pda_cons (PD.bv (pd_and (PD.vb (pd_isi (pe_callB call_isi (gl_of (by kernel_rfl)) g.g_isinstance bt_isinstance (pa_cons (PD.vb (pd_var 0 rfl (vis_of (by kernel_rfl)) (by decide))) (pa_cons (pe_bltn (v := .ty "tuple") (gl_of (by kernel_rfl)) g.g_tuple bt_tuple rfl) pa_nil))))) (pd_and (PD.vb (pd_op (pe_cmpR op_gt (PD.vb (pd_cb (es := []) (pe_callB call_len (gl_of (by kernel_rfl)) g.g_len bt_len (pda_cons (PD.vb (pd_var 0 rfl (vis_of (by kernel_rfl)) (by decide))) pda_nil)) fb_len)) (PD.vb pd_int) (nomark _)) od_gt)) (pd_and (PD.vb (pd_isi (pe_callB call_isi (gl_of (by kernel_rfl)) g.g_isinstance bt_isinstance (pa_cons (PD.vb (pd_ix2 (units1 hr) (PD.vb (pd_var 0 rfl (vis_of (by kernel_rfl)) (by decide))) (PD.vb pd_int) (fun _ _ => rfl) (fun _ _ => rfl))) (pa_cons (pe_bltn (v := .ty "str") (gl_of (by kernel_rfl)) g.g_str bt_str rfl) pa_nil))))) (pd_one (PD.vb (pd_inK (gl_of (by kernel_rfl)) g.d_STRENGTHS (PD.vb (pd_ix2 (units1 hr) (PD.vb (pd_var 0 rfl (vis_of (by kernel_rfl)) (by decide))) (PD.vb pd_int) (fun _ _ => rfl) (fun _ _ => rfl)))))))))) pda_nil) (cons_n nil_n)))) (pdss_cons (Γ1 := [false, false, false]) (pds_expr (PD.vb (pd_call (ok_need g tb nd) (hr.mono (by omega)) (gl_of (by kernel_rfl)) g.g_need g.f_need.kp (b_need g) (L2N.takes_of rfl rfl rfl rfl) (pda_cons (pd_op (pe_cmpR op_ltU (PD.vb (pd_var 1 rfl (vis_of (by kernel_rfl)) (by decide))) (PD.vb (pd_gint (gl_of (by kernel_rfl)) g.v_MOST_WITHIN)) (nomark _)) od_lt) pda_nil) (cons_n nil_n)))) (pdss_one (pds_if (Γ' := [false, false, false]) (pdt_cmp (op_eqD hr.units) (OpD.vb od_eq) (PD.vb (pd_ix2 (units1 hr) (PD.vb (pd_var 0 rfl (vis_of (by kernel_rfl)) (by decide))) (PD.vb pd_int) (fun _ _ => rfl) (fun _ _ => rfl))) (PD.vb (pd_str (by kernel_rfl))) (nomark _)) (pdss_one (pds_expr (PD.vb (pd_call (ok_need g tb nd) (hr.mono (by omega)) (gl_of (by kernel_rfl)) g.g_need g.f_need.kp (b_need g) (L2N.takes_of rfl rfl rfl rfl) (pda_cons (PD.bv (pd_and (PD.vb (pd_op (pe_cmpR (op_eqD hr.units) (PD.vb (pd_cb (es := []) (pe_callB call_len (gl_of (by kernel_rfl)) g.g_len bt_len (pda_cons (PD.vb (pd_var 0 rfl (vis_of (by kernel_rfl)) (by decide))) pda_nil)) fb_len)) (PD.vb pd_int) (nomark _)) od_eq)) (pd_one (PD.vb (pd_call (ok_is_name g tb nd) (hr.mono (by omega)) (gl_of (by kernel_rfl)) g.g_is_name g.f_is_name.kp (b_is_name g) (L2N.takes_of rfl rfl rfl rfl) (pda_cons (pd_ix2 (units1 hr) (PD.vb (pd_var 0 rfl (vis_of (by kernel_rfl)) (by decide))) (PD.vb pd_int) (fun _ _ => rfl) (fun _ _ => rfl)) pda_nil) (cons_n nil_n)))))) pda_nil) (cons_n nil_n))))) (pdss_cons (Γ1 := [false, false, false]) (pds_expr (PD.vb (pd_call (ok_need g tb nd) (hr.mono (by omega)) (gl_of (by kernel_rfl)) g.g_need g.f_need.kp (b_need g) (L2N.takes_of rfl rfl rfl rfl) (pda_cons (pd_op (pe_cmpR (op_eqD hr.units) (PD.vb (pd_cb (es := []) (pe_callB call_len (gl_of (by kernel_rfl)) g.g_len bt_len (pda_cons (PD.vb (pd_var 0 rfl (vis_of (by kernel_rfl)) (by decide))) pda_nil)) fb_len)) (PD.vb (pd_ifExp (pdt_cmp (op_eqD hr.units) (OpD.vb od_eq) (PD.vb (pd_ix2 (units1 hr) (PD.vb (pd_var 0 rfl (vis_of (by kernel_rfl)) (by decide))) (PD.vb pd_int) (fun _ _ => rfl) (fun _ _ => rfl))) (PD.vb (pd_str (by kernel_rfl))) (nomark _)) pd_int pd_int)) (nomark _)) od_eq) pda_nil) (cons_n nil_n)))) (pdss_one (pds_for PassesOwn.leaving rfl (pdi_any (pd_slc sl_U sd_U (PD.vb (pd_var 0 rfl (vis_of (by kernel_rfl)) (by decide))) (pdo_som (PD.vb pd_int)) pdo_non)) (pdg_one S.nd (i := 2) rfl (loc_of (by kernel_rfl)) (hf_of (by kernel_rfl))) (pdss_one (pds_expr (PD.vb (pd_call h_need_deep (hr.mono (by omega)) (gl_of (by kernel_rfl)) g.g_need_deep g.f_need_deep.kp (b_need_deep g) (L2N.takes_of rfl rfl rfl rfl) (pda_cons (pd_var 2 rfl (vis_of (by kernel_rfl)) (by decide)) (pda_cons (pd_op (pe_op op_addU (PD.vb (pd_var 1 rfl (vis_of (by kernel_rfl)) (by decide))) (PD.vb pd_int)) od_add) pda_nil)) (cons_n (cons_n nil_n)))))) rfl)))))))
theorem ok_need_deep (g : Gx w K mg fd) (tb : ∀ p ∈ tf, TabB base mg (He.cT K p).1 (He.cT K p).2) (nd : ((tf.map fun p => (He.cT K p).2)).Nodup) (n : Nat) : FnD P w K mg base (TT K) (2 + n) (He.ga K "need_deep") (fd 2) (["tree", "deep"] : List Str) .v (need_deep_r n) := (oks_need_deep g tb nd n)
theorem s_need_choice : FnScope (["tree"] : List Str) (["tree"] : List Str) (defScope (top 21)) := scope_of (by kernel_rfl)
theorem b_need_choice (g : Gx w K mg fd) : Binds K (fd 3) (["tree"] : List Str) [] := g.f_need_choice.bindsN fun _ _ _ _ _ _ us hl => match us, hl with | [_], _ => rfl
theorem ok_need_choice (g : Gx w K mg fd) (tb : ∀ p ∈ tf, TabB base mg (He.cT K p).1 (He.cT K p).2) (nd : ((tf.map fun p => (He.cT K p).2)).Nodup) : FnD P w K mg base (TT K) 15 (He.ga K "need_choice") (fd 3) (["tree"] : List Str) .v need_choice_f :=
  fnD_fun (lv := 14) (k := .v) (need_choice_F) 1 (14 + 1) (need_choice_f) g.f_need_choice s_need_choice rfl (by omega) rfl (.inl rfl) fun cdv A outer s H E hr => by
    have S := s_need_choice
    show PDSs _ _ [false] [false] [false] _ _
    exact (pdss_one (pds_expr (PD.vb (pd_call (ok_need_deep g tb nd 12) (hr.mono (by omega)) (gl_of (by kernel_rfl)) g.g_need_deep g.f_need_deep.kp (b_need_deep g) (L2N.takes_of rfl rfl rfl rfl) (pda_cons (pd_var 0 rfl (vis_of (by kernel_rfl)) (by decide)) (pda_cons pd_int pda_nil)) (cons_n (cons_n nil_n))))))
theorem s_is_so : FnScope (["tree", "names", "word"] : List Str) (["tree", "names"] : List Str) (defScope (top 28)) := scope_of (by kernel_rfl)
theorem b_is_so (g : Gx w K mg fd) : Binds K (fd 14) (["tree", "names"] : List Str) [] := g.f_is_so.bindsN fun _ _ _ _ _ _ us hl => match us, hl with | [_, _], _ => rfl
theorem oks_is_so (g : Gx w K mg fd) (tb : ∀ p ∈ tf, TabB base mg (He.cT K p).1 (He.cT K p).2) (nd : ((tf.map fun p => (He.cT K p).2)).Nodup) : ∀ n : Nat, FnD P w K mg base (TT K) (1 + n) (He.ga K "is_so") (fd 14) (["tree", "names"] : List Str) .v (is_so_r n)
  | 0 => fnD_none (lv := 0) g.f_is_so s_is_so
  | n + 1 => by
    have h_is_so := oks_is_so g tb nd n
    exact fnD_fun (lv := 1 + n) (k := .v) (is_so_F (is_so_r n)) 3 (1 + n + 1) (is_so_r (n + 1)) g.f_is_so s_is_so rfl (by omega) rfl (.inl rfl) fun cdv A outer s H E hr => by
      have S := s_is_so
      show PDSs _ _ [false, false, false] [false, false, false] [false, false, false] _ _
      exact (pdss_cons (Γ1 := [false, false, false]) (pds_set S.nd (i := 2) rfl (loc_of (by kernel_rfl)) (pd_ix2 (units1 hr) (PD.vb (pd_var 0 rfl (vis_of (by kernel_rfl)) (by decide))) (PD.vb pd_int) (fun _ _ => rfl) (fun _ _ => rfl)) (.inl rfl)) (pdss_cons (Γ1 := [false, false, false]) (pds_if (Γ' := [false, false, false]) (pdt_cmp (op_eqD hr.units) (OpD.vb od_eq) (PD.vb (pd_var 2 rfl (vis_of (by kernel_rfl)) (by decide))) (PD.vb (pd_str (by kernel_rfl))) (nomark _)) (pdss_one (pds_ret (pd_op (pe_cmpR (op_inU2 (units1 hr)) (PD.vb (pd_ix2 (units1 hr) (PD.vb (pd_var 0 rfl (vis_of (by kernel_rfl)) (by decide))) (PD.vb pd_int) (fun _ _ => rfl) (fun _ _ => rfl))) (PD.vb (pd_var 1 rfl (vis_of (by kernel_rfl)) (by decide))) (by with_unfolding_all rfl)) od_in2))) pdss_nil) (pdss_cons (Γ1 := [false, false, false]) (pds_if (Γ' := [false, false, false]) (pdt_cmp (op_eqD hr.units) (OpD.vb od_eq) (PD.vb (pd_var 2 rfl (vis_of (by kernel_rfl)) (by decide))) (PD.vb (pd_str (by kernel_rfl))) (nomark _)) (pdss_one (pds_ret (PD.bv (pd_not (PD.vb (pd_call h_is_so (hr.mono (by omega)) (gl_of (by kernel_rfl)) g.g_is_so g.f_is_so.kp (b_is_so g) (L2N.takes_of rfl rfl rfl rfl) (pda_cons (pd_ix2 (units1 hr) (PD.vb (pd_var 0 rfl (vis_of (by kernel_rfl)) (by decide))) (PD.vb pd_int) (fun _ _ => rfl) (fun _ _ => rfl)) (pda_cons (pd_var 1 rfl (vis_of (by kernel_rfl)) (by decide)) pda_nil)) (cons_n (cons_n nil_n)))))))) pdss_nil) (pdss_cons (Γ1 := [false, false, false]) (pds_if (Γ' := [false, false, false]) (pdt_cmp (op_eqD hr.units) (OpD.vb od_eq) (PD.vb (pd_var 2 rfl (vis_of (by kernel_rfl)) (by decide))) (PD.vb (pd_str (by kernel_rfl))) (nomark _)) (pdss_one (pds_ret (PD.bv (pd_and (PD.vb (pd_call h_is_so (hr.mono (by omega)) (gl_of (by kernel_rfl)) g.g_is_so g.f_is_so.kp (b_is_so g) (L2N.takes_of rfl rfl rfl rfl) (pda_cons (pd_ix2 (units1 hr) (PD.vb (pd_var 0 rfl (vis_of (by kernel_rfl)) (by decide))) (PD.vb pd_int) (fun _ _ => rfl) (fun _ _ => rfl)) (pda_cons (pd_var 1 rfl (vis_of (by kernel_rfl)) (by decide)) pda_nil)) (cons_n (cons_n nil_n)))) (pd_one (PD.vb (pd_call h_is_so (hr.mono (by omega)) (gl_of (by kernel_rfl)) g.g_is_so g.f_is_so.kp (b_is_so g) (L2N.takes_of rfl rfl rfl rfl) (pda_cons (pd_ix2 (units1 hr) (PD.vb (pd_var 0 rfl (vis_of (by kernel_rfl)) (by decide))) (PD.vb pd_int) (fun _ _ => rfl) (fun _ _ => rfl)) (pda_cons (pd_var 1 rfl (vis_of (by kernel_rfl)) (by decide)) pda_nil)) (cons_n (cons_n nil_n))))))))) pdss_nil) (pdss_one (pds_ret (PD.bv (pd_or (PD.vb (pd_call h_is_so (hr.mono (by omega)) (gl_of (by kernel_rfl)) g.g_is_so g.f_is_so.kp (b_is_so g) (L2N.takes_of rfl rfl rfl rfl) (pda_cons (pd_ix2 (units1 hr) (PD.vb (pd_var 0 rfl (vis_of (by kernel_rfl)) (by decide))) (PD.vb pd_int) (fun _ _ => rfl) (fun _ _ => rfl)) (pda_cons (pd_var 1 rfl (vis_of (by kernel_rfl)) (by decide)) pda_nil)) (cons_n (cons_n nil_n)))) (pd_one (PD.vb (pd_call h_is_so (hr.mono (by omega)) (gl_of (by kernel_rfl)) g.g_is_so g.f_is_so.kp (b_is_so g) (L2N.takes_of rfl rfl rfl rfl) (pda_cons (pd_ix2 (units1 hr) (PD.vb (pd_var 0 rfl (vis_of (by kernel_rfl)) (by decide))) (PD.vb pd_int) (fun _ _ => rfl) (fun _ _ => rfl)) (pda_cons (pd_var 1 rfl (vis_of (by kernel_rfl)) (by decide)) pda_nil)) (cons_n (cons_n nil_n)))))))))))))
theorem ok_is_so (g : Gx w K mg fd) (tb : ∀ p ∈ tf, TabB base mg (He.cT K p).1 (He.cT K p).2) (nd : ((tf.map fun p => (He.cT K p).2)).Nodup) (n : Nat) : FnD P w K mg base (TT K) (1 + n) (He.ga K "is_so") (fd 14) (["tree", "names"] : List Str) .v (is_so_r n) := (oks_is_so g tb nd n)
theorem s_names_in : FnScope (["tree", "found", "one"] : List Str) (["tree"] : List Str) (defScope (top 30)) := scope_of (by kernel_rfl)
theorem b_names_in (g : Gx w K mg fd) : Binds K (fd 16) (["tree"] : List Str) [] := g.f_names_in.bindsN fun _ _ _ _ _ _ us hl => match us, hl with | [_], _ => rfl
theorem oks_names_in (g : Gx w K mg fd) (tb : ∀ p ∈ tf, TabB base mg (He.cT K p).1 (He.cT K p).2) (nd : ((tf.map fun p => (He.cT K p).2)).Nodup) : ∀ n : Nat, FnD P w K mg base (TT K) (1 + n) (He.ga K "names_in") (fd 16) (["tree"] : List Str) .o (names_in_r n)
  | 0 => fnD_none (lv := 0) g.f_names_in s_names_in
  | n + 1 => by
    have h_names_in := oks_names_in g tb nd n
    exact fnD_fun (lv := 1 + n) (k := .o) (names_in_F (names_in_r n)) 3 (1 + n + 1) (names_in_r (n + 1)) g.f_names_in s_names_in rfl (by omega) rfl (.inr (nn_seq (nn_seq (nn_seq nn_ret)))) fun cdv A outer s H E hr => by
      have S := s_names_in
      show PDSs _ _ [false, false, false] [false, false, false] [false, false, false] _ _
      exact (pdss_cons (Γ1 := [false, false, false]) (pds_if (Γ' := [false, false, false]) (pdt_cmp (op_eqD hr.units) (OpD.vb od_eq) (PD.vb (pd_ix2 (units1 hr) (PD.vb (pd_var 0 rfl (vis_of (by kernel_rfl)) (by decide))) (PD.vb pd_int) (fun _ _ => rfl) (fun _ _ => rfl))) (PD.vb (pd_str (by kernel_rfl))) (nomark _)) (pdss_one (pds_ret (pd_lst (pda_cons (pd_ix2 (units1 hr) (PD.vb (pd_var 0 rfl (vis_of (by kernel_rfl)) (by decide))) (PD.vb pd_int) (fun _ _ => rfl) (fun _ _ => rfl)) pda_nil) (len_ok (cons_len (nil_len (n := 0))) (by rw [sizeLine_eq]; omega))))) pdss_nil) (pdss_cons (Γ1 := [false, true, false]) (pds_setO S.nd (i := 1) rfl (loc_of (by kernel_rfl)) (pd_lst pda_nil (len_ok (nil_len (n := 0)) (by rw [sizeLine_eq]; omega))) (.inl rfl) (by decide)) (pdss_cons (Γ1 := [false, true, false]) (pds_for PassesOwn.leaving rfl (pdi_any (pd_slc sl_U sd_U (PD.vb (pd_var 0 rfl (vis_of (by kernel_rfl)) (by decide))) (pdo_som (PD.vb pd_int)) pdo_non)) (pdg_one S.nd (i := 2) rfl (loc_of (by kernel_rfl)) (hf_of (by kernel_rfl))) (pdss_one (pds_setO S.nd (i := 1) rfl (loc_of (by kernel_rfl)) (pd_op (pe_op op_cat (pd_varb 1 rfl (vis_of (by kernel_rfl))) (PD.ob (pd_call h_names_in (hr.mono (by omega)) (gl_of (by kernel_rfl)) g.g_names_in g.f_names_in.kp (b_names_in g) (L2N.takes_of rfl rfl rfl rfl) (pda_cons (pd_var 2 rfl (vis_of (by kernel_rfl)) (by decide)) pda_nil) (cons_n nil_n)))) od_cat) (.inl rfl) (by decide))) rfl) (pdss_one (pds_retO 1 rfl (vis_of (by kernel_rfl)) rfl rfl)))))
theorem ok_names_in (g : Gx w K mg fd) (tb : ∀ p ∈ tf, TabB base mg (He.cT K p).1 (He.cT K p).2) (nd : ((tf.map fun p => (He.cT K p).2)).Nodup) (n : Nat) : FnD P w K mg base (TT K) (1 + n) (He.ga K "names_in") (fd 16) (["tree"] : List Str) .o (names_in_r n) := (oks_names_in g tb nd n)
theorem s_unlike_by : FnScope (["one", "other", "names", "some", "name", "row"] : List Str) (["one", "other"] : List Str) (defScope (top 31)) := scope_of (by kernel_rfl)
theorem b_unlike_by (g : Gx w K mg fd) : Binds K (fd 17) (["one", "other"] : List Str) [] := g.f_unlike_by.bindsN fun _ _ _ _ _ _ us hl => match us, hl with | [_, _], _ => rfl
theorem ok_unlike_by (g : Gx w K mg fd) (tb : ∀ p ∈ tf, TabB base mg (He.cT K p).1 (He.cT K p).2) (nd : ((tf.map fun p => (He.cT K p).2)).Nodup) : FnD P w K mg base (TT K) 18 (He.ga K "unlike_by") (fd 17) (["one", "other"] : List Str) .v unlike_by_f :=
  fnD_lam (lv := 17) (k := .v) (p := ("unlike_by", none)) (unlike_by_F) 6 (17 + 1) (unlike_by_f) g.f_unlike_by s_unlike_by rfl (by omega) rfl (.inl rfl) fun A outer s H E hr => by
    have S := s_unlike_by
    show PDSs _ _ [false, false, false, false, false, false] [false, false, false, false, false, false] [false, false, false, false, false, false] _ _
    exact (pdss_cons (Γ1 := [false, false, false, false, false, false]) (pds_expr (PD.vb (pd_call (ok_need_choice g tb nd) (hr.mono (by omega)) (gl_of (by kernel_rfl)) g.g_need_choice g.f_need_choice.kp (b_need_choice g) (L2N.takes_of rfl rfl rfl rfl) (pda_cons (pd_var 0 rfl (vis_of (by kernel_rfl)) (by decide)) pda_nil) (cons_n nil_n)))) (pdss_cons (Γ1 := [false, false, false, false, false, false]) (pds_expr (PD.vb (pd_call (ok_need_choice g tb nd) (hr.mono (by omega)) (gl_of (by kernel_rfl)) g.g_need_choice g.f_need_choice.kp (b_need_choice g) (L2N.takes_of rfl rfl rfl rfl) (pda_cons (pd_var 1 rfl (vis_of (by kernel_rfl)) (by decide)) pda_nil) (cons_n nil_n)))) (pdss_cons (Γ1 := [false, false, true, false, false, false]) (pds_setO S.nd (i := 2) rfl (loc_of (by kernel_rfl)) (pd_sortSet (pe_sortSetS rfl (gl_of (by kernel_rfl)) g.g_sorted (gl_of (by kernel_rfl)) g.g_set (PD.ob (pd_op (pe_op op_cat (PD.ob (pd_call (ok_names_in g tb nd 12) (hr.mono (by omega)) (gl_of (by kernel_rfl)) g.g_names_in g.f_names_in.kp (b_names_in g) (L2N.takes_of rfl rfl rfl rfl) (pda_cons (pd_var 0 rfl (vis_of (by kernel_rfl)) (by decide)) pda_nil) (cons_n nil_n))) (PD.ob (pd_call (ok_names_in g tb nd 12) (hr.mono (by omega)) (gl_of (by kernel_rfl)) g.g_names_in g.f_names_in.kp (b_names_in g) (L2N.takes_of rfl rfl rfl rfl) (pda_cons (pd_var 1 rfl (vis_of (by kernel_rfl)) (by decide)) pda_nil) (cons_n nil_n)))) od_cat)))) (.inl rfl) (by decide)) (pdss_cons (Γ1 := [false, false, true, false, false, false]) (pds_expr (PD.vb (pd_call (ok_need g tb nd) (hr.mono (by omega)) (gl_of (by kernel_rfl)) g.g_need g.f_need.kp (b_need g) (L2N.takes_of rfl rfl rfl rfl) (pda_cons (pd_op (pe_cmpR op_leU (PD.vb (pd_cb (es := []) (pe_callB call_len (gl_of (by kernel_rfl)) g.g_len bt_len (pda_cons (pd_varb 2 rfl (vis_of (by kernel_rfl))) pda_nil)) fb_len)) (PD.vb (pd_gint (gl_of (by kernel_rfl)) g.v_MOST_NAMES)) (nomark _)) od_le) pda_nil) (cons_n nil_n)))) (pdss_cons (Γ1 := [false, false, true, true, false, false]) (pds_setO S.nd (i := 3) rfl (loc_of (by kernel_rfl)) (pd_lst (pda_cons (PD.ov (pd_lst pda_nil (len_ok (nil_len (n := 0)) (by rw [sizeLine_eq]; omega)))) pda_nil) (len_ok (cons_len (nil_len (n := 0))) (by rw [sizeLine_eq]; omega))) (.inl rfl) (by decide)) (pdss_frz 2 (pdss_cons (Γ1 := [false, false, false, true, false, false]) (pds_for PassesOwn.leaving rfl (pdi_any (pd_var 2 rfl (vis_of (by kernel_rfl)) (by decide))) (pdg_one S.nd (i := 4) rfl (loc_of (by kernel_rfl)) (hf_of (by kernel_rfl))) (pdss_frz 3 (pdss_one (pds_setO S.nd (i := 3) rfl (loc_of (by kernel_rfl)) (pd_op (pe_op op_cat (PD.vb (pd_var 3 rfl (vis_of (by kernel_rfl)) (by decide))) (PD.ob (pd_comp (own := [("row", 5)]) rfl S.nd (pdi_any (pd_var 3 rfl (vis_of (by kernel_rfl)) (by decide))) (blkOk_by (by kernel_rfl)) (fun _ _ _ _ _ => (pdg_one S.nd (i := 5) rfl (loc_of (by kernel_rfl)) (hf_of (by kernel_rfl)))) (fun _ _ _ _ _ => pdts_nil) (fun _ _ _ _ _ => (PD.ov (pd_op (pe_op op_cat (PD.vb (pd_var 5 rfl (vis_of (by kernel_rfl)) (by decide))) (PD.ob (pd_lst (pda_cons (pd_var 4 rfl (vis_of (by kernel_rfl)) (by decide)) pda_nil) (len_ok (cons_len (nil_len (n := 0))) (by rw [sizeLine_eq]; omega))))) od_cat))) (by rfl)))) od_cat) (.inl rfl) (by decide)))) rfl) (pdss_cons (Γ1 := [false, false, false, true, false, false]) (pds_for PassesOwn.leaving rfl (pdi_any (PD.ov (pd_sortKey (LK.pe_sortKey (k := 0) (scope_of (by kernel_rfl)) (hr.mono (by omega)) (gl_of (by kernel_rfl)) g.g_sorted g.g_len (tb ("unlike_by", none) (by decide)) rfl (tm_unlike_by K) (tu_unlike_by K nd) (by rfl) (fun _ _ _ _ _ => rfl) (vis_of (by kernel_rfl)) (fun _ _ _ _ => rfl) (fun _ => rfl) (by decide) (by decide) (pd_varb 3 rfl (vis_of (by kernel_rfl))))))) (pdg_one S.nd (i := 5) rfl (loc_of (by kernel_rfl)) (hf_of (by kernel_rfl))) (pdss_one (pds_if (Γ' := [false, false, false, true, false, false]) (pdt_cmp (op_neD hr.units) (OpD.vb od_ne) (PD.vb (pd_call (ok_is_so g tb nd 12) (hr.mono (by omega)) (gl_of (by kernel_rfl)) g.g_is_so g.f_is_so.kp (b_is_so g) (L2N.takes_of rfl rfl rfl rfl) (pda_cons (pd_var 0 rfl (vis_of (by kernel_rfl)) (by decide)) (pda_cons (pd_var 5 rfl (vis_of (by kernel_rfl)) (by decide)) pda_nil)) (cons_n (cons_n nil_n)))) (PD.vb (pd_call (ok_is_so g tb nd 12) (hr.mono (by omega)) (gl_of (by kernel_rfl)) g.g_is_so g.f_is_so.kp (b_is_so g) (L2N.takes_of rfl rfl rfl rfl) (pda_cons (pd_var 1 rfl (vis_of (by kernel_rfl)) (by decide)) (pda_cons (pd_var 5 rfl (vis_of (by kernel_rfl)) (by decide)) pda_nil)) (cons_n (cons_n nil_n)))) (nomark _)) (pdss_one (pds_ret (pd_var 5 rfl (vis_of (by kernel_rfl)) (by decide)))) pdss_nil)) rfl) (pdss_one (pds_ret pd_non))))))))))
theorem s__law_tower : FnScope (["_law_many", "_law_tree", "_law_j"] : List Str) (["_law_many"] : List Str) (defScope (top 38)) := scope_of (by kernel_rfl)
theorem b__law_tower (g : Gx w K mg fd) : Binds K (fd 21) (["_law_many"] : List Str) [] := g.f__law_tower.bindsN fun _ _ _ _ _ _ us hl => match us, hl with | [_], _ => rfl
theorem ok__law_tower (g : Gx w K mg fd) (tb : ∀ p ∈ tf, TabB base mg (He.cT K p).1 (He.cT K p).2) (nd : ((tf.map fun p => (He.cT K p).2)).Nodup) : FnD P w K mg base (TT K) 1 (He.ga K "_law_tower") (fd 21) (["_law_many"] : List Str) .v _law_tower_f :=
  fnD_fun (lv := 0) (k := .v) (_law_tower_F) 3 (0 + 1) (_law_tower_f) g.f__law_tower s__law_tower rfl (by omega) rfl (.inl rfl) fun cdv A outer s H E hr => by
    have S := s__law_tower
    show PDSs _ _ [false, false, false] [false, false, false] [false, false, false] _ _
    exact (pdss_cons (Γ1 := [false, false, false]) (pds_set S.nd (i := 1) rfl (loc_of (by kernel_rfl)) (pd_tup (pda_cons (pd_str (by kernel_rfl)) (pda_cons (pd_str (by kernel_rfl)) pda_nil)) (len_ok (cons_len (cons_len (nil_len (n := 0)))) (by rw [sizeLine_eq]; omega))) (.inl rfl)) (pdss_cons (Γ1 := [false, false, false]) (pds_for PassesOwn.leaving rfl (pdi_range (gl_of (by kernel_rfl)) g.g_range (pda_cons (PD.vb (pd_var 0 rfl (vis_of (by kernel_rfl)) (by decide))) pda_nil)) (pdg_one S.nd (i := 2) rfl (loc_of (by kernel_rfl)) (hf_of (by kernel_rfl))) (pdss_one (pds_set S.nd (i := 1) rfl (loc_of (by kernel_rfl)) (pd_ix2 (units1 hr) (PD.ob (pd_lst (pda_cons (pd_tup (pda_cons (pd_str (by kernel_rfl)) (pda_cons (pd_var 1 rfl (vis_of (by kernel_rfl)) (by decide)) pda_nil)) (len_ok (cons_len (cons_len (nil_len (n := 0)))) (by rw [sizeLine_eq]; omega))) (pda_cons (pd_tup (pda_cons (pd_str (by kernel_rfl)) (pda_cons (pd_tup (pda_cons (pd_str (by kernel_rfl)) (pda_cons (pd_str (by kernel_rfl)) pda_nil)) (len_ok (cons_len (cons_len (nil_len (n := 0)))) (by rw [sizeLine_eq]; omega))) (pda_cons (pd_var 1 rfl (vis_of (by kernel_rfl)) (by decide)) pda_nil))) (len_ok (cons_len (cons_len (cons_len (nil_len (n := 0))))) (by rw [sizeLine_eq]; omega))) pda_nil)) (len_ok (cons_len (cons_len (nil_len (n := 0)))) (by rw [sizeLine_eq]; omega)))) (PD.vb (pd_op (pe_op op_mod (PD.vb (pd_var 2 rfl (vis_of (by kernel_rfl)) (by decide))) (PD.vb pd_int)) od_mod)) (fun _ _ => rfl) (fun _ _ => rfl)) (.inl rfl))) rfl) (pdss_one (pds_ret (pd_var 1 rfl (vis_of (by kernel_rfl)) (by decide))))))
theorem s__law_none : FnScope (["_law_a", "_law_found"] : List Str) ([] : List Str) (defScope (top 37)) := scope_of (by kernel_rfl)
theorem b__law_none (g : Gx w K mg fd) : Binds K (fd 20) ([] : List Str) [] := g.f__law_none.bindsN fun _ _ _ _ _ _ us hl => match us, hl with | [], _ => rfl
theorem ok__law_none (g : Gx w K mg fd) (tb : ∀ p ∈ tf, TabB base mg (He.cT K p).1 (He.cT K p).2) (nd : ((tf.map fun p => (He.cT K p).2)).Nodup) : FnD P w K mg base (TT K) 2 (He.ga K "_law_none") (fd 20) ([] : List Str) .o _law_none_f :=
  fnD_fun (lv := 1) (k := .o) (_law_none_F) 2 (1 + 1) (_law_none_f) g.f__law_none s__law_none rfl (by omega) rfl (.inr (nn_seq (nn_seq (nn_seq (nn_seq (nn_seq nn_ret)))))) fun cdv A outer s H E hr => by
    have S := s__law_none
    show PDSs _ _ [false, false] [false, false] [false, false] _ _
    exact (pdss_cons (Γ1 := [false, false]) (pds_set S.nd (i := 0) rfl (loc_of (by kernel_rfl)) (pd_tup (pda_cons (pd_str (by kernel_rfl)) (pda_cons (pd_str (by kernel_rfl)) pda_nil)) (len_ok (cons_len (cons_len (nil_len (n := 0)))) (by rw [sizeLine_eq]; omega))) (.inl rfl)) (pdss_cons (Γ1 := [false, true]) (pds_setO S.nd (i := 1) rfl (loc_of (by kernel_rfl)) (pd_lst (pda_cons pd_non (pda_cons (pd_str (by kernel_rfl)) (pda_cons (pd_tup pda_nil (len_ok (nil_len (n := 0)) (by rw [sizeLine_eq]; omega))) (pda_cons (pd_tup (pda_cons (pd_str (by kernel_rfl)) pda_nil) (len_ok (cons_len (nil_len (n := 0))) (by rw [sizeLine_eq]; omega))) (pda_cons (pd_tup (pda_cons (pd_str (by kernel_rfl)) (pda_cons (pd_str (by kernel_rfl)) pda_nil)) (len_ok (cons_len (cons_len (nil_len (n := 0)))) (by rw [sizeLine_eq]; omega))) (pda_cons (pd_tup (pda_cons (pd_str (by kernel_rfl)) (pda_cons (pd_str (by kernel_rfl)) pda_nil)) (len_ok (cons_len (cons_len (nil_len (n := 0)))) (by rw [sizeLine_eq]; omega))) (pda_cons (pd_tup (pda_cons (pd_str (by kernel_rfl)) (pda_cons (pd_str (by kernel_rfl)) pda_nil)) (len_ok (cons_len (cons_len (nil_len (n := 0)))) (by rw [sizeLine_eq]; omega))) pda_nil))))))) (len_ok (cons_len (cons_len (cons_len (cons_len (cons_len (cons_len (cons_len (nil_len (n := 0))))))))) (by rw [sizeLine_eq]; omega))) (.inl rfl) (by decide)) (pdss_cons (Γ1 := [false, true]) (pds_setO S.nd (i := 1) rfl (loc_of (by kernel_rfl)) (pd_op (pe_op op_cat (pd_varb 1 rfl (vis_of (by kernel_rfl))) (PD.ob (pd_lst (pda_cons (pd_tup (pda_cons (pd_str (by kernel_rfl)) (pda_cons (pd_str (by kernel_rfl)) pda_nil)) (len_ok (cons_len (cons_len (nil_len (n := 0)))) (by rw [sizeLine_eq]; omega))) (pda_cons (pd_tup (pda_cons (pd_str (by kernel_rfl)) (pda_cons pd_int pda_nil)) (len_ok (cons_len (cons_len (nil_len (n := 0)))) (by rw [sizeLine_eq]; omega))) (pda_cons (PD.ov (pd_lst (pda_cons (pd_str (by kernel_rfl)) (pda_cons (pd_str (by kernel_rfl)) pda_nil)) (len_ok (cons_len (cons_len (nil_len (n := 0)))) (by rw [sizeLine_eq]; omega)))) pda_nil))) (len_ok (cons_len (cons_len (cons_len (nil_len (n := 0))))) (by rw [sizeLine_eq]; omega))))) od_cat) (.inl rfl) (by decide)) (pdss_cons (Γ1 := [false, true]) (pds_setO S.nd (i := 1) rfl (loc_of (by kernel_rfl)) (pd_op (pe_op op_cat (pd_varb 1 rfl (vis_of (by kernel_rfl))) (PD.ob (pd_lst (pda_cons (pd_tup (pda_cons (pd_str (by kernel_rfl)) (pda_cons (pd_str (by kernel_rfl)) (pda_cons (pd_var 0 rfl (vis_of (by kernel_rfl)) (by decide)) pda_nil))) (len_ok (cons_len (cons_len (cons_len (nil_len (n := 0))))) (by rw [sizeLine_eq]; omega))) (pda_cons (pd_tup (pda_cons (pd_str (by kernel_rfl)) pda_nil) (len_ok (cons_len (nil_len (n := 0))) (by rw [sizeLine_eq]; omega))) (pda_cons (pd_tup (pda_cons (pd_str (by kernel_rfl)) (pda_cons (pd_var 0 rfl (vis_of (by kernel_rfl)) (by decide)) (pda_cons (pd_var 0 rfl (vis_of (by kernel_rfl)) (by decide)) pda_nil))) (len_ok (cons_len (cons_len (cons_len (nil_len (n := 0))))) (by rw [sizeLine_eq]; omega))) (pda_cons (pd_tup (pda_cons (pd_str (by kernel_rfl)) (pda_cons (pd_str (by kernel_rfl)) pda_nil)) (len_ok (cons_len (cons_len (nil_len (n := 0)))) (by rw [sizeLine_eq]; omega))) (pda_cons (pd_tup (pda_cons (pd_str (by kernel_rfl)) (pda_cons (pd_var 0 rfl (vis_of (by kernel_rfl)) (by decide)) pda_nil)) (len_ok (cons_len (cons_len (nil_len (n := 0)))) (by rw [sizeLine_eq]; omega))) pda_nil))))) (len_ok (cons_len (cons_len (cons_len (cons_len (cons_len (nil_len (n := 0))))))) (by rw [sizeLine_eq]; omega))))) od_cat) (.inl rfl) (by decide)) (pdss_cons (Γ1 := [false, true]) (pds_setO S.nd (i := 1) rfl (loc_of (by kernel_rfl)) (pd_op (pe_op op_cat (pd_varb 1 rfl (vis_of (by kernel_rfl))) (PD.ob (pd_lst (pda_cons (pd_tup (pda_cons (pd_str (by kernel_rfl)) (pda_cons (pd_var 0 rfl (vis_of (by kernel_rfl)) (by decide)) (pda_cons (pd_var 0 rfl (vis_of (by kernel_rfl)) (by decide)) (pda_cons (pd_var 0 rfl (vis_of (by kernel_rfl)) (by decide)) pda_nil)))) (len_ok (cons_len (cons_len (cons_len (cons_len (nil_len (n := 0)))))) (by rw [sizeLine_eq]; omega))) (pda_cons (pd_tup (pda_cons (pd_str (by kernel_rfl)) (pda_cons (pd_var 0 rfl (vis_of (by kernel_rfl)) (by decide)) (pda_cons pd_non pda_nil))) (len_ok (cons_len (cons_len (cons_len (nil_len (n := 0))))) (by rw [sizeLine_eq]; omega))) pda_nil)) (len_ok (cons_len (cons_len (nil_len (n := 0)))) (by rw [sizeLine_eq]; omega))))) od_cat) (.inl rfl) (by decide)) (pdss_one (pds_ret (pd_op (pe_op op_cat (pd_varb 1 rfl (vis_of (by kernel_rfl))) (PD.ob (pd_lst (pda_cons (pd_tup (pda_cons (pd_str (by kernel_rfl)) (pda_cons (pd_var 0 rfl (vis_of (by kernel_rfl)) (by decide)) (pda_cons (pd_var 0 rfl (vis_of (by kernel_rfl)) (by decide)) pda_nil))) (len_ok (cons_len (cons_len (cons_len (nil_len (n := 0))))) (by rw [sizeLine_eq]; omega))) (pda_cons (pd_tup (pda_cons pd_int (pda_cons (pd_var 0 rfl (vis_of (by kernel_rfl)) (by decide)) pda_nil)) (len_ok (cons_len (cons_len (nil_len (n := 0)))) (by rw [sizeLine_eq]; omega))) (pda_cons (pd_tup (pda_cons (pd_str (by kernel_rfl)) (pda_cons (pd_str (by kernel_rfl)) pda_nil)) (len_ok (cons_len (cons_len (nil_len (n := 0)))) (by rw [sizeLine_eq]; omega))) (pda_cons (pd_call (ok__law_tower g tb nd) (hr.mono (by omega)) (gl_of (by kernel_rfl)) g.g__law_tower g.f__law_tower.kp (b__law_tower g) (L2N.takes_of rfl rfl rfl rfl) (pda_cons pd_int pda_nil) (cons_n nil_n)) (pda_cons (pd_tup (pda_cons (pd_str (by kernel_rfl)) (pda_cons (pd_var 0 rfl (vis_of (by kernel_rfl)) (by decide)) (pda_cons (pd_tup (pda_cons (pd_str (by kernel_rfl)) (pda_cons (pd_var 0 rfl (vis_of (by kernel_rfl)) (by decide)) pda_nil)) (len_ok (cons_len (cons_len (nil_len (n := 0)))) (by rw [sizeLine_eq]; omega))) pda_nil))) (len_ok (cons_len (cons_len (cons_len (nil_len (n := 0))))) (by rw [sizeLine_eq]; omega))) pda_nil))))) (len_ok (cons_len (cons_len (cons_len (cons_len (cons_len (nil_len (n := 0))))))) (by rw [sizeLine_eq]; omega))))) od_cat))))))))
theorem s__law_texts : FnScope (["_law_found"] : List Str) ([] : List Str) (defScope (top 39)) := scope_of (by kernel_rfl)
theorem b__law_texts (g : Gx w K mg fd) : Binds K (fd 22) ([] : List Str) [] := g.f__law_texts.bindsN fun _ _ _ _ _ _ us hl => match us, hl with | [], _ => rfl
theorem ok__law_texts (g : Gx w K mg fd) (tb : ∀ p ∈ tf, TabB base mg (He.cT K p).1 (He.cT K p).2) (nd : ((tf.map fun p => (He.cT K p).2)).Nodup) : FnD P w K mg base (TT K) 1 (He.ga K "_law_texts") (fd 22) ([] : List Str) .o _law_texts_f :=
  fnD_fun (lv := 0) (k := .o) (_law_texts_F) 1 (0 + 1) (_law_texts_f) g.f__law_texts s__law_texts rfl (by omega) rfl (.inr (nn_seq (nn_seq (nn_seq (nn_seq nn_ret))))) fun cdv A outer s H E hr => by
    have S := s__law_texts
    show PDSs _ _ [false] [false] [false] _ _
    exact (pdss_cons (Γ1 := [true]) (pds_setO S.nd (i := 0) rfl (loc_of (by kernel_rfl)) (pd_lst (pda_cons (pd_str (by kernel_rfl)) (pda_cons (pd_str (by kernel_rfl)) (pda_cons (pd_str (by kernel_rfl)) (pda_cons (pd_str (by kernel_rfl)) (pda_cons (pd_str (by kernel_rfl)) (pda_cons (pd_str (by kernel_rfl)) (pda_cons (pd_str (by kernel_rfl)) (pda_cons (pd_str (by kernel_rfl)) (pda_cons (pd_str (by kernel_rfl)) (pda_cons (pd_str (by kernel_rfl)) (pda_cons (pd_str (by kernel_rfl)) pda_nil))))))))))) (len_ok (cons_len (cons_len (cons_len (cons_len (cons_len (cons_len (cons_len (cons_len (cons_len (cons_len (cons_len (nil_len (n := 0))))))))))))) (by rw [sizeLine_eq]; omega))) (.inl rfl) (by decide)) (pdss_cons (Γ1 := [true]) (pds_setO S.nd (i := 0) rfl (loc_of (by kernel_rfl)) (pd_op (pe_op op_cat (pd_varb 0 rfl (vis_of (by kernel_rfl))) (PD.ob (pd_lst (pda_cons (pd_str (by kernel_rfl)) (pda_cons (pd_str (by kernel_rfl)) (pda_cons (pd_str (by kernel_rfl)) pda_nil))) (len_ok (cons_len (cons_len (cons_len (nil_len (n := 0))))) (by rw [sizeLine_eq]; omega))))) od_cat) (.inl rfl) (by decide)) (pdss_cons (Γ1 := [true]) (pds_setO S.nd (i := 0) rfl (loc_of (by kernel_rfl)) (pd_op (pe_op op_cat (pd_varb 0 rfl (vis_of (by kernel_rfl))) (PD.ob (pd_lst (pda_cons (pd_str (by kernel_rfl)) (pda_cons (pd_str (by kernel_rfl)) (pda_cons (pd_str (by kernel_rfl)) (pda_cons (pd_str (by kernel_rfl)) (pda_cons (pd_str (by kernel_rfl)) (pda_cons (pd_str (by kernel_rfl)) (pda_cons (pd_str (by kernel_rfl)) (pda_cons (pd_str (by kernel_rfl)) (pda_cons (pd_str (by kernel_rfl)) pda_nil))))))))) (len_ok (cons_len (cons_len (cons_len (cons_len (cons_len (cons_len (cons_len (cons_len (cons_len (nil_len (n := 0))))))))))) (by rw [sizeLine_eq]; omega))))) od_cat) (.inl rfl) (by decide)) (pdss_cons (Γ1 := [true]) (pds_setO S.nd (i := 0) rfl (loc_of (by kernel_rfl)) (pd_op (pe_op op_cat (pd_varb 0 rfl (vis_of (by kernel_rfl))) (PD.ob (pd_lst (pda_cons (pd_str (by kernel_rfl)) (pda_cons (pd_str (by kernel_rfl)) (pda_cons (pd_str (by kernel_rfl)) pda_nil))) (len_ok (cons_len (cons_len (cons_len (nil_len (n := 0))))) (by rw [sizeLine_eq]; omega))))) od_cat) (.inl rfl) (by decide)) (pdss_one (pds_ret (pd_op (pe_op op_cat (pd_varb 0 rfl (vis_of (by kernel_rfl))) (PD.ob (pd_lst (pda_cons (pd_op (pe_op op_addU (PD.vb (pd_op (pe_op op_repS (PD.vb (pd_str (by kernel_rfl))) (PD.vb pd_int)) od_repS)) (PD.vb (pd_str (by kernel_rfl)))) od_add) (pda_cons (pd_op (pe_op op_addU (PD.vb (pd_str (by kernel_rfl))) (PD.vb (pd_op (pe_op op_repS (PD.vb (pd_str (by kernel_rfl))) (PD.vb pd_int)) od_repS))) od_add) (pda_cons (pd_op (pe_op op_addU (PD.vb (pd_op (pe_op op_repS (PD.vb (pd_str (by kernel_rfl))) (PD.vb pd_int)) od_repS)) (PD.vb (pd_str (by kernel_rfl)))) od_add) (pda_cons (pd_op (pe_op op_addU (PD.vb (pd_op (pe_op op_addU (PD.vb (pd_op (pe_op op_repS (PD.vb (pd_str (by kernel_rfl))) (PD.vb pd_int)) od_repS)) (PD.vb (pd_str (by kernel_rfl)))) od_add)) (PD.vb (pd_op (pe_op op_repS (PD.vb (pd_str (by kernel_rfl))) (PD.vb pd_int)) od_repS))) od_add) pda_nil)))) (len_ok (cons_len (cons_len (cons_len (cons_len (nil_len (n := 0)))))) (by rw [sizeLine_eq]; omega))))) od_cat)))))))
theorem s_Reader__init : FnScope (["self", "words"] : List Str) (["self", "words"] : List Str) (defScope (topM 26 0)) := scope_of (by kernel_rfl)
theorem b_Reader__init (g : Gx w K mg fd) : Binds K (fd 8) (["self", "words"] : List Str) [] := g.f_Reader__init.bindsN fun _ _ _ _ _ _ us hl => match us, hl with | [_, _], _ => rfl
theorem ok_Reader__init (g : Gx w K mg fd) (tb : ∀ p ∈ tf, TabB base mg (He.cT K p).1 (He.cT K p).2) (nd : ((tf.map fun p => (He.cT K p).2)).Nodup) : FnM P w K mg base (TT K) 1 (He.ma K (He.ga K "Reader") "__init__") (fd 8) (["self", "words"] : List Str) Reader__init_f :=
  fnM_fun (lv := 0) (Reader__init_F) 2 (0 + 1) (Reader__init_f) g.f_Reader__init s_Reader__init rfl (by omega) rfl fun cdv A outer s H E hr => by
    have S := s_Reader__init
    exact (pdsms_cons (pdsm_setF g.c_Reader g.na_Reader_words (pdm_var 0 rfl (vis_of (by kernel_rfl))) (pdm_var 1 rfl (vis_of (by kernel_rfl)))) (pdsms_one (pdsm_setF g.c_Reader g.na_Reader_reached (pdm_var 0 rfl (vis_of (by kernel_rfl))) (pdm_pure (Γ := [false, false]) (allF rfl) pd_int))))
theorem s_Reader__ahead : FnScope (["self"] : List Str) (["self"] : List Str) (defScope (topM 26 1)) := scope_of (by kernel_rfl)
theorem b_Reader__ahead (g : Gx w K mg fd) : Binds K (fd 9) (["self"] : List Str) [] := g.f_Reader__ahead.bindsN fun _ _ _ _ _ _ us hl => match us, hl with | [_], _ => rfl
theorem ok_Reader__ahead (g : Gx w K mg fd) (tb : ∀ p ∈ tf, TabB base mg (He.cT K p).1 (He.cT K p).2) (nd : ((tf.map fun p => (He.cT K p).2)).Nodup) : FnD P w K mg base (TT K) 1 (He.ma K (He.ga K "Reader") "ahead") (fd 9) (["self"] : List Str) .v Reader__ahead_f :=
  fnD_fun (lv := 0) (k := .v) (Reader__ahead_F) 1 (0 + 1) (Reader__ahead_f) g.f_Reader__ahead s_Reader__ahead rfl (by omega) rfl (.inl rfl) fun cdv A outer s H E hr => by
    have S := s_Reader__ahead
    show PDSs _ _ [false] [false] [false] _ _
    exact (pdss_one (pds_ret (pd_ifExp (pdt_cmp op_ltU (OpD.vb od_lt) (PD.vb (pd_fld (Cs := ["Reader"]) (PD.vb (pd_var 0 rfl (vis_of (by kernel_rfl)) (by decide))) g.fc_Reader_reached)) (PD.vb (pd_cb (es := []) (pe_callB call_len (gl_of (by kernel_rfl)) g.g_len bt_len (pda_cons (PD.vb (pd_fld (Cs := ["Reader"]) (PD.vb (pd_var 0 rfl (vis_of (by kernel_rfl)) (by decide))) g.fc_Reader_words)) pda_nil)) fb_len)) (nomark _)) (pd_ix2 (units1 hr) (PD.vb (pd_fld (Cs := ["Reader"]) (PD.vb (pd_var 0 rfl (vis_of (by kernel_rfl)) (by decide))) g.fc_Reader_words)) (PD.vb (pd_fld (Cs := ["Reader"]) (PD.vb (pd_var 0 rfl (vis_of (by kernel_rfl)) (by decide))) g.fc_Reader_reached)) (fun _ _ => rfl) (fun _ _ => rfl)) (pd_str (by kernel_rfl)))))
theorem s_Reader__take : FnScope (["self", "found"] : List Str) (["self"] : List Str) (defScope (topM 26 2)) := scope_of (by kernel_rfl)
theorem b_Reader__take (g : Gx w K mg fd) : Binds K (fd 10) (["self"] : List Str) [] := g.f_Reader__take.bindsN fun _ _ _ _ _ _ us hl => match us, hl with | [_], _ => rfl
theorem ok_Reader__take (g : Gx w K mg fd) (tb : ∀ p ∈ tf, TabB base mg (He.cT K p).1 (He.cT K p).2) (nd : ((tf.map fun p => (He.cT K p).2)).Nodup) : FnM P w K mg base (TT K) 2 (He.ma K (He.ga K "Reader") "take") (fd 10) (["self"] : List Str) Reader__take_f :=
  fnM_fun (lv := 1) (Reader__take_F) 2 (1 + 1) (Reader__take_f) g.f_Reader__take s_Reader__take rfl (by omega) rfl fun cdv A outer s H E hr => by
    have S := s_Reader__take
    exact (pdsms_cons (pdsm_set S.nd (i := 1) rfl (loc_of (by kernel_rfl)) (pdm_pure (Γ := [false, false]) (allF rfl) (pd_meth0 (ok_Reader__ahead g tb nd) (hr.mono (by omega)) g.c_Reader g.me_Reader__ahead (b_Reader__ahead g) (L2N.takes_of rfl rfl rfl rfl) (pd_var 0 rfl (vis_of (by kernel_rfl)) (by decide)) rfl)) (hf_of (by kernel_rfl))) (pdsms_cons (pdsm_setF g.c_Reader g.na_Reader_reached (pdm_var 0 rfl (vis_of (by kernel_rfl))) (pdm_pure (Γ := [false, false]) (allF rfl) (pd_op (pe_op op_addU (PD.vb (pd_fld (Cs := ["Reader"]) (PD.vb (pd_var 0 rfl (vis_of (by kernel_rfl)) (by decide))) g.fc_Reader_reached)) (PD.vb pd_int)) od_add))) (pdsms_one (pdsm_ret (fun z => by cases z) (pdm_var 1 rfl (vis_of (by kernel_rfl)))))))
theorem s_Reader__choice : FnScope (["self", "least", "found", "word"] : List Str) (["self", "least"] : List Str) (defScope (topM 26 3)) := scope_of (by kernel_rfl)
theorem b_Reader__choice (g : Gx w K mg fd) : Binds K (fd 11) (["self", "least"] : List Str) [] := g.f_Reader__choice.bindsN fun _ _ _ _ _ _ us hl => match us, hl with | [_, _], _ => rfl
theorem s_Reader__one : FnScope (["self", "word", "found"] : List Str) (["self"] : List Str) (defScope (topM 26 4)) := scope_of (by kernel_rfl)
theorem b_Reader__one (g : Gx w K mg fd) : Binds K (fd 12) (["self"] : List Str) [] := g.f_Reader__one.bindsN fun _ _ _ _ _ _ us hl => match us, hl with | [_], _ => rfl
theorem oks_Reader__choice (g : Gx w K mg fd) (tb : ∀ p ∈ tf, TabB base mg (He.cT K p).1 (He.cT K p).2) (nd : ((tf.map fun p => (He.cT K p).2)).Nodup) : ∀ n : Nat, FnM P w K mg base (TT K) (3 + n) (He.ma K (He.ga K "Reader") "choice") (fd 11) (["self", "least"] : List Str) (Reader__choice_r n) ∧ FnM P w K mg base (TT K) (3 + n) (He.ma K (He.ga K "Reader") "one") (fd 12) (["self"] : List Str) (Reader__one_r n)
  | 0 => ⟨fnM_none (lv := 2) g.f_Reader__choice s_Reader__choice, fnM_none (lv := 2) g.f_Reader__one s_Reader__one⟩
  | n + 1 => by
    obtain ⟨h_Reader__choice, h_Reader__one⟩ := oks_Reader__choice g tb nd n
    refine ⟨?_, ?_⟩
    · exact fnM_fun (lv := 3 + n) (Reader__choice_F (Reader__choice_r n) (Reader__one_r n)) 4 (3 + n + 1) (_) g.f_Reader__choice s_Reader__choice rfl (by omega) rfl fun cdv A outer s H E hr => by
        have S := s_Reader__choice
        exact (pdsms_cons (pdsm_set S.nd (i := 2) rfl (loc_of (by kernel_rfl)) (pdm_meth0 h_Reader__one (hr.mono (by omega)) g.c_Reader g.me_Reader__one (b_Reader__one g) (L2N.takes_of rfl rfl rfl rfl) (pdm_var 0 rfl (vis_of (by kernel_rfl))) rfl) (hf_of (by kernel_rfl))) (pdsms_cons (pdsm_while 40 PassesOwn.leaving (pdtm_pure (Γ := [false, false, false, false]) (allF rfl) (pdt_w (pdw_and (pdt_cmp (op_inU2 (units1 hr)) (OpD.vb od_in2) (PD.vb (pd_meth0 (ok_Reader__ahead g tb nd) (hr.mono (by omega)) g.c_Reader g.me_Reader__ahead (b_Reader__ahead g) (L2N.takes_of rfl rfl rfl rfl) (pd_var 0 rfl (vis_of (by kernel_rfl)) (by decide)) rfl)) (PD.vb (pd_tup (pda_cons (pd_str (by kernel_rfl)) (pda_cons (pd_str (by kernel_rfl)) pda_nil)) (len_ok (cons_len (cons_len (nil_len (n := 0)))) (by rw [sizeLine_eq]; omega)))) (by with_unfolding_all rfl)) (pdw_and1 (pdt_cmp op_ge (OpD.vb od_ge) (PD.vb (pd_ixK (gl_of (by kernel_rfl)) g.d_STRENGTHS (PD.vb (pd_meth0 (ok_Reader__ahead g tb nd) (hr.mono (by omega)) g.c_Reader g.me_Reader__ahead (b_Reader__ahead g) (L2N.takes_of rfl rfl rfl rfl) (pd_var 0 rfl (vis_of (by kernel_rfl)) (by decide)) rfl)) (fun _ _ => rfl))) (PD.vb (pd_var 1 rfl (vis_of (by kernel_rfl)) (by decide))) (nomark _)))))) (pdsms_cons (pdsm_set S.nd (i := 3) rfl (loc_of (by kernel_rfl)) (pdm_meth0 (ok_Reader__take g tb nd) (hr.mono (by omega)) g.c_Reader g.me_Reader__take (b_Reader__take g) (L2N.takes_of rfl rfl rfl rfl) (pdm_var 0 rfl (vis_of (by kernel_rfl))) rfl) (hf_of (by kernel_rfl))) (pdsms_one (pdsm_set S.nd (i := 2) rfl (loc_of (by kernel_rfl)) (pdm_tup (pdma_cons (pdm_var 3 rfl (vis_of (by kernel_rfl))) (pdma_cons (pdm_var 2 rfl (vis_of (by kernel_rfl))) (pdma_cons (pdm_meth h_Reader__choice (hr.mono (by omega)) g.c_Reader g.me_Reader__choice (b_Reader__choice g) (L2N.takes_of rfl rfl rfl rfl) (pdm_var 0 rfl (vis_of (by kernel_rfl))) (pdma_cons (pdm_pure (Γ := [false, false, false, false]) (allF rfl) (pd_op (pe_op op_addU (PD.vb (pd_ixK (gl_of (by kernel_rfl)) g.d_STRENGTHS (PD.vb (pd_var 3 rfl (vis_of (by kernel_rfl)) (by decide))) (fun _ _ => rfl))) (PD.vb pd_int)) od_add)) pdma_nil) (pls_n (consM_n nilM_n))) pdma_nil))) (lenM_ok (consM_len (consM_len (consM_len (nilM_len (n := 0))))) (by rw [sizeLine_eq]; omega))) (hf_of (by kernel_rfl)))))) (pdsms_one (pdsm_ret (fun z => by cases z) (pdm_var 2 rfl (vis_of (by kernel_rfl)))))))
    · exact fnM_fun (lv := 3 + n) (Reader__one_F (Reader__choice_r n) (Reader__one_r n)) 3 (3 + n + 1) (_) g.f_Reader__one s_Reader__one rfl (by omega) rfl fun cdv A outer s H E hr => by
        have S := s_Reader__one
        exact (pdsms_cons (pdsm_set S.nd (i := 1) rfl (loc_of (by kernel_rfl)) (pdm_meth0 (ok_Reader__take g tb nd) (hr.mono (by omega)) g.c_Reader g.me_Reader__take (b_Reader__take g) (L2N.takes_of rfl rfl rfl rfl) (pdm_var 0 rfl (vis_of (by kernel_rfl))) rfl) (hf_of (by kernel_rfl))) (pdsms_cons (pdsm_if (pdtm_pure (Γ := [false, false, false]) (allF rfl) (pdt_cmp (op_eqD hr.units) (OpD.vb od_eq) (PD.vb (pd_var 1 rfl (vis_of (by kernel_rfl)) (by decide))) (PD.vb (pd_str (by kernel_rfl))) (nomark _))) (pdsms_one (pdsm_ret (fun z => by cases z) (pdm_tup (pdma_cons (pdm_pure (Γ := [false, false, false]) (allF rfl) (pd_str (by kernel_rfl))) (pdma_cons (pdm_meth0 h_Reader__one (hr.mono (by omega)) g.c_Reader g.me_Reader__one (b_Reader__one g) (L2N.takes_of rfl rfl rfl rfl) (pdm_var 0 rfl (vis_of (by kernel_rfl))) rfl) pdma_nil)) (lenM_ok (consM_len (consM_len (nilM_len (n := 0)))) (by rw [sizeLine_eq]; omega))))) pdsms_nil) (pdsms_cons (pdsm_if (pdtm_pure (Γ := [false, false, false]) (allF rfl) (pdt_cmp (op_eqD hr.units) (OpD.vb od_eq) (PD.vb (pd_var 1 rfl (vis_of (by kernel_rfl)) (by decide))) (PD.vb (pd_str (by kernel_rfl))) (nomark _))) (pdsms_cons (pdsm_set S.nd (i := 2) rfl (loc_of (by kernel_rfl)) (pdm_meth h_Reader__choice (hr.mono (by omega)) g.c_Reader g.me_Reader__choice (b_Reader__choice g) (L2N.takes_of rfl rfl rfl rfl) (pdm_var 0 rfl (vis_of (by kernel_rfl))) (pdma_cons (pdm_pure (Γ := [false, false, false]) (allF rfl) pd_int) pdma_nil) (pls_n (consM_n nilM_n))) (hf_of (by kernel_rfl))) (pdsms_cons (pdsm_expr (pdm_app (ok_need g tb nd) (hr.mono (by omega)) (gl_of (by kernel_rfl)) g.g_need g.f_need.kp (b_need g) (L2N.takes_of rfl rfl rfl rfl) (pdma_cons (pdm_op (fun h1 h2 => pe_cmpR (op_eqD hr.units) h1 h2 (nomark _)) od_eq (pdm_meth0 (ok_Reader__take g tb nd) (hr.mono (by omega)) g.c_Reader g.me_Reader__take (b_Reader__take g) (L2N.takes_of rfl rfl rfl rfl) (pdm_var 0 rfl (vis_of (by kernel_rfl))) rfl) (pdm_pure (Γ := [false, false, false]) (allF rfl) (pd_str (by kernel_rfl)))) pdma_nil) (consM_n nilM_n))) (pdsms_one (pdsm_ret (fun z => by cases z) (pdm_var 2 rfl (vis_of (by kernel_rfl))))))) pdsms_nil) (pdsms_cons (pdsm_expr (pdm_pure (Γ := [false, false, false]) (allF rfl) (pd_call (ok_need g tb nd) (hr.mono (by omega)) (gl_of (by kernel_rfl)) g.g_need g.f_need.kp (b_need g) (L2N.takes_of rfl rfl rfl rfl) (pda_cons (pd_call (ok_is_name g tb nd) (hr.mono (by omega)) (gl_of (by kernel_rfl)) g.g_is_name g.f_is_name.kp (b_is_name g) (L2N.takes_of rfl rfl rfl rfl) (pda_cons (pd_var 1 rfl (vis_of (by kernel_rfl)) (by decide)) pda_nil) (cons_n nil_n)) pda_nil) (cons_n nil_n)))) (pdsms_one (pdsm_ret (fun z => by cases z) (pdm_pure (Γ := [false, false, false]) (allF rfl) (pd_tup (pda_cons (pd_str (by kernel_rfl)) (pda_cons (pd_var 1 rfl (vis_of (by kernel_rfl)) (by decide)) pda_nil)) (len_ok (cons_len (cons_len (nil_len (n := 0)))) (by rw [sizeLine_eq]; omega))))))))))
theorem ok_Reader__choice (g : Gx w K mg fd) (tb : ∀ p ∈ tf, TabB base mg (He.cT K p).1 (He.cT K p).2) (nd : ((tf.map fun p => (He.cT K p).2)).Nodup) (n : Nat) : FnM P w K mg base (TT K) (3 + n) (He.ma K (He.ga K "Reader") "choice") (fd 11) (["self", "least"] : List Str) (Reader__choice_r n) := (oks_Reader__choice g tb nd n).1
theorem ok_Reader__one (g : Gx w K mg fd) (tb : ∀ p ∈ tf, TabB base mg (He.cT K p).1 (He.cT K p).2) (nd : ((tf.map fun p => (He.cT K p).2)).Nodup) (n : Nat) : FnM P w K mg base (TT K) (3 + n) (He.ma K (He.ga K "Reader") "one") (fd 12) (["self"] : List Str) (Reader__one_r n) := (oks_Reader__choice g tb nd n).2
theorem s_words_of : FnScope (["text", "found", "at", "end"] : List Str) (["text"] : List Str) (defScope (top 25)) := scope_of (by kernel_rfl)
theorem b_words_of (g : Gx w K mg fd) : Binds K (fd 7) (["text"] : List Str) [] := g.f_words_of.bindsN fun _ _ _ _ _ _ us hl => match us, hl with | [_], _ => rfl
theorem ok_words_of (g : Gx w K mg fd) (tb : ∀ p ∈ tf, TabB base mg (He.cT K p).1 (He.cT K p).2) (nd : ((tf.map fun p => (He.cT K p).2)).Nodup) : FnD P w K mg base (TT K) 2 (He.ga K "words_of") (fd 7) (["text"] : List Str) .o words_of_f :=
  fnD_fun (lv := 1) (k := .o) (words_of_F) 4 (1 + 1) (words_of_f) g.f_words_of s_words_of rfl (by omega) rfl (.inr (nn_seq (nn_seq (nn_seq (nn_seq nn_ret))))) fun cdv A outer s H E hr => by
    have S := s_words_of
    show PDSs _ _ [false, false, false, false] [false, false, false, false] [false, false, false, false] _ _
    exact (pdss_cons (Γ1 := [false, false, false, false]) (pds_expr (PD.vb (pd_call (ok_need g tb nd) (hr.mono (by omega)) (gl_of (by kernel_rfl)) g.g_need g.f_need.kp (b_need g) (L2N.takes_of rfl rfl rfl rfl) (pda_cons (pd_op (pe_cmpR op_leU (PD.vb (pd_cb (es := []) (pe_callB call_len (gl_of (by kernel_rfl)) g.g_len bt_len (pda_cons (PD.vb (pd_var 0 rfl (vis_of (by kernel_rfl)) (by decide))) pda_nil)) fb_len)) (PD.vb (pd_gint (gl_of (by kernel_rfl)) g.v_MOST_SIGNS)) (nomark _)) od_le) pda_nil) (cons_n nil_n)))) (pdss_cons (Γ1 := [false, true, false, false]) (pds_setO S.nd (i := 1) rfl (loc_of (by kernel_rfl)) (pd_lst pda_nil (len_ok (nil_len (n := 0)) (by rw [sizeLine_eq]; omega))) (.inl rfl) (by decide)) (pdss_cons (Γ1 := [false, true, false, false]) (pds_set S.nd (i := 2) rfl (loc_of (by kernel_rfl)) pd_int (.inl rfl)) (pdss_cons (Γ1 := [false, true, false, false]) (pds_while 110 PassesOwn.leaving (pdt_cmp op_ltU (OpD.vb od_lt) (PD.vb (pd_var 2 rfl (vis_of (by kernel_rfl)) (by decide))) (PD.vb (pd_cb (es := []) (pe_callB call_len (gl_of (by kernel_rfl)) g.g_len bt_len (pda_cons (PD.vb (pd_var 0 rfl (vis_of (by kernel_rfl)) (by decide))) pda_nil)) fb_len)) (nomark _)) (pdss_cons (Γ1 := [false, true, false, false]) (pds_set S.nd (i := 3) rfl (loc_of (by kernel_rfl)) (pd_var 2 rfl (vis_of (by kernel_rfl)) (by decide)) (.inl rfl)) (pdss_cons (Γ1 := [false, true, false, false]) (pds_while 40 PassesOwn.leaving (pdt_w (pdw_and (pdt_cmp op_ltU (OpD.vb od_lt) (PD.vb (pd_var 3 rfl (vis_of (by kernel_rfl)) (by decide))) (PD.vb (pd_cb (es := []) (pe_callB call_len (gl_of (by kernel_rfl)) g.g_len bt_len (pda_cons (PD.vb (pd_var 0 rfl (vis_of (by kernel_rfl)) (by decide))) pda_nil)) fb_len)) (nomark _)) (pdw_and1 (pdt_cmp (op_inU2 (units1 hr)) (OpD.vb od_in2) (PD.vb (pd_ix2 (units1 hr) (PD.vb (pd_var 0 rfl (vis_of (by kernel_rfl)) (by decide))) (PD.vb (pd_var 3 rfl (vis_of (by kernel_rfl)) (by decide))) (fun _ _ => rfl) (fun _ _ => rfl))) (PD.vb (pd_gstr (gl_of (by kernel_rfl)) g.v_LETTERS (by kernel_rfl))) (by with_unfolding_all rfl))))) (pdss_one (pds_set S.nd (i := 3) rfl (loc_of (by kernel_rfl)) (pd_op (pe_op op_addU (PD.vb (pd_var 3 rfl (vis_of (by kernel_rfl)) (by decide))) (PD.vb pd_int)) od_add) (.inl rfl)))) (pdss_cons (Γ1 := [false, true, false, false]) (pds_if (Γ' := [false, true, false, false]) (pdt_cmp op_gt (OpD.vb od_gt) (PD.vb (pd_var 3 rfl (vis_of (by kernel_rfl)) (by decide))) (PD.vb (pd_var 2 rfl (vis_of (by kernel_rfl)) (by decide))) (nomark _)) (pdss_one (pds_append (pe_bm PySem.F.plainAttrs_list PySem.F.slot_list_append PySem.F.type_list_append mt_append (pe_var (i := 1) rfl (vis_of (by kernel_rfl))) (pa_cons (pd_slc sl_U sd_U (PD.vb (pd_var 0 rfl (vis_of (by kernel_rfl)) (by decide))) (pdo_som (PD.vb (pd_var 2 rfl (vis_of (by kernel_rfl)) (by decide)))) (pdo_som (PD.vb (pd_var 3 rfl (vis_of (by kernel_rfl)) (by decide))))) pa_nil)) rfl)) (pdss_cons (Γ1 := [false, true, false, false]) (pds_expr (PD.vb (pd_call (ok_need g tb nd) (hr.mono (by omega)) (gl_of (by kernel_rfl)) g.g_need g.f_need.kp (b_need g) (L2N.takes_of rfl rfl rfl rfl) (pda_cons (pd_op (pe_cmpR (op_inU2 (units1 hr)) (PD.vb (pd_ix2 (units1 hr) (PD.vb (pd_var 0 rfl (vis_of (by kernel_rfl)) (by decide))) (PD.vb (pd_var 2 rfl (vis_of (by kernel_rfl)) (by decide))) (fun _ _ => rfl) (fun _ _ => rfl))) (PD.vb (pd_str (by kernel_rfl))) (by with_unfolding_all rfl)) od_in2) pda_nil) (cons_n nil_n)))) (pdss_cons (Γ1 := [false, true, false, false]) (pds_set S.nd (i := 3) rfl (loc_of (by kernel_rfl)) (pd_op (pe_op op_addU (PD.vb (pd_var 2 rfl (vis_of (by kernel_rfl)) (by decide))) (PD.vb pd_int)) od_add) (.inl rfl)) (pdss_one (pds_extend (pe_bm PySem.F.plainAttrs_list PySem.F.slot_list_extend PySem.F.type_list_extend mt_extend (pe_var (i := 1) rfl (vis_of (by kernel_rfl))) (pa_cons (PD.ob (pd_ifExp (pdt_cmp (op_neD hr.units) (OpD.vb od_ne) (PD.vb (pd_ix2 (units1 hr) (PD.vb (pd_var 0 rfl (vis_of (by kernel_rfl)) (by decide))) (PD.vb (pd_var 2 rfl (vis_of (by kernel_rfl)) (by decide))) (fun _ _ => rfl) (fun _ _ => rfl))) (PD.vb (pd_str (by kernel_rfl))) (nomark _)) (pd_lst (pda_cons (pd_ix2 (units1 hr) (PD.vb (pd_var 0 rfl (vis_of (by kernel_rfl)) (by decide))) (PD.vb (pd_var 2 rfl (vis_of (by kernel_rfl)) (by decide))) (fun _ _ => rfl) (fun _ _ => rfl)) pda_nil) (len_ok (cons_len (nil_len (n := 0))) (by rw [sizeLine_eq]; omega))) (pd_lst pda_nil (len_ok (nil_len (n := 0)) (by rw [sizeLine_eq]; omega))))) pa_nil)) rfl))))) (pdss_one (pds_set S.nd (i := 2) rfl (loc_of (by kernel_rfl)) (pd_var 3 rfl (vis_of (by kernel_rfl)) (by decide)) (.inl rfl))))))) (pdss_one (pds_retO 1 rfl (vis_of (by kernel_rfl)) rfl rfl))))))
theorem s_read_choice : FnScope (["text", "reader", "found"] : List Str) (["text"] : List Str) (defScope (top 27)) := scope_of (by kernel_rfl)
theorem b_read_choice (g : Gx w K mg fd) : Binds K (fd 13) (["text"] : List Str) [] := g.f_read_choice.bindsN fun _ _ _ _ _ _ us hl => match us, hl with | [_], _ => rfl
theorem ok_read_choice (g : Gx w K mg fd) (tb : ∀ p ∈ tf, TabB base mg (He.cT K p).1 (He.cT K p).2) (nd : ((tf.map fun p => (He.cT K p).2)).Nodup) : FnD P w K mg base (TT K) 114 (He.ga K "read_choice") (fd 13) (["text"] : List Str) .v read_choice_f :=
  fnX_fun (lv := 113) (read_choice_F) 3 (113 + 1) (read_choice_f) g.f_read_choice s_read_choice rfl (by omega) rfl fun cdv A outer s H E hr => by
    have S := s_read_choice
    exact (pdsms_cons (pdsm_set S.nd (i := 1) rfl (loc_of (by kernel_rfl)) (pdm_make (ok_Reader__init g tb nd) (hr.mono (by omega)) g.c_Reader g.mk_Reader (gl_of (by kernel_rfl)) (b_Reader__init g) (L2N.takes_of rfl rfl rfl rfl) (pdma_cons (pdm_newX (Γ := [false, false, false]) (allF rfl) (pd_call (ok_words_of g tb nd) (hr.mono (by omega)) (gl_of (by kernel_rfl)) g.g_words_of g.f_words_of.kp (b_words_of g) (L2N.takes_of rfl rfl rfl rfl) (pda_cons (pd_var 0 rfl (vis_of (by kernel_rfl)) (by decide)) pda_nil) (cons_n nil_n))) pdma_nil) (pls_n (consM_n nilM_n))) (hf_of (by kernel_rfl))) (pdsms_cons (pdsm_set S.nd (i := 2) rfl (loc_of (by kernel_rfl)) (pdm_meth (ok_Reader__choice g tb nd 110) (hr.mono (by omega)) g.c_Reader g.me_Reader__choice (b_Reader__choice g) (L2N.takes_of rfl rfl rfl rfl) (pdm_var 1 rfl (vis_of (by kernel_rfl))) (pdma_cons (pdm_pure (Γ := [false, false, false]) (allF rfl) pd_int) pdma_nil) (pls_n (consM_n nilM_n))) (hf_of (by kernel_rfl))) (pdsms_cons (pdsm_expr (pdm_pure (Γ := [false, false, false]) (allF rfl) (pd_call (ok_need g tb nd) (hr.mono (by omega)) (gl_of (by kernel_rfl)) g.g_need g.f_need.kp (b_need g) (L2N.takes_of rfl rfl rfl rfl) (pda_cons (pd_op (pe_cmpR (op_eqD hr.units) (PD.vb (pd_meth0 (ok_Reader__ahead g tb nd) (hr.mono (by omega)) g.c_Reader g.me_Reader__ahead (b_Reader__ahead g) (L2N.takes_of rfl rfl rfl rfl) (pd_var 1 rfl (vis_of (by kernel_rfl)) (by decide)) rfl)) (PD.vb (pd_str (by kernel_rfl))) (nomark _)) od_eq) pda_nil) (cons_n nil_n)))) (pdsms_cons (pdsm_expr (pdm_pure (Γ := [false, false, false]) (allF rfl) (pd_call (ok_need_choice g tb nd) (hr.mono (by omega)) (gl_of (by kernel_rfl)) g.g_need_choice g.f_need_choice.kp (b_need_choice g) (L2N.takes_of rfl rfl rfl rfl) (pda_cons (pd_var 2 rfl (vis_of (by kernel_rfl)) (by decide)) pda_nil) (cons_n nil_n)))) (pdsms_one (pdsm_retX rfl (pdm_var 2 rfl (vis_of (by kernel_rfl)))))))))
theorem s__law_nots : FnScope (["_law_many", "_law_tree", "_law_j"] : List Str) (["_law_many"] : List Str) (defScope (top 41)) := scope_of (by kernel_rfl)
theorem b__law_nots (g : Gx w K mg fd) : Binds K (fd 24) (["_law_many"] : List Str) [] := g.f__law_nots.bindsN fun _ _ _ _ _ _ us hl => match us, hl with | [_], _ => rfl
theorem ok__law_nots (g : Gx w K mg fd) (tb : ∀ p ∈ tf, TabB base mg (He.cT K p).1 (He.cT K p).2) (nd : ((tf.map fun p => (He.cT K p).2)).Nodup) : FnD P w K mg base (TT K) 1 (He.ga K "_law_nots") (fd 24) (["_law_many"] : List Str) .v _law_nots_f :=
  fnD_fun (lv := 0) (k := .v) (_law_nots_F) 3 (0 + 1) (_law_nots_f) g.f__law_nots s__law_nots rfl (by omega) rfl (.inl rfl) fun cdv A outer s H E hr => by
    have S := s__law_nots
    show PDSs _ _ [false, false, false] [false, false, false] [false, false, false] _ _
    exact (pdss_cons (Γ1 := [false, false, false]) (pds_set S.nd (i := 1) rfl (loc_of (by kernel_rfl)) (pd_tup (pda_cons (pd_str (by kernel_rfl)) (pda_cons (pd_str (by kernel_rfl)) pda_nil)) (len_ok (cons_len (cons_len (nil_len (n := 0)))) (by rw [sizeLine_eq]; omega))) (.inl rfl)) (pdss_cons (Γ1 := [false, false, false]) (pds_for PassesOwn.leaving rfl (pdi_range (gl_of (by kernel_rfl)) g.g_range (pda_cons (PD.vb (pd_var 0 rfl (vis_of (by kernel_rfl)) (by decide))) pda_nil)) (pdg_one S.nd (i := 2) rfl (loc_of (by kernel_rfl)) (hf_of (by kernel_rfl))) (pdss_one (pds_set S.nd (i := 1) rfl (loc_of (by kernel_rfl)) (pd_tup (pda_cons (pd_str (by kernel_rfl)) (pda_cons (pd_var 1 rfl (vis_of (by kernel_rfl)) (by decide)) pda_nil)) (len_ok (cons_len (cons_len (nil_len (n := 0)))) (by rw [sizeLine_eq]; omega))) (.inl rfl))) rfl) (pdss_one (pds_ret (pd_var 1 rfl (vis_of (by kernel_rfl)) (by decide))))))
theorem s_within : FnScope (["tree", "least", "found"] : List Str) (["tree", "least"] : List Str) (defScope (top 22)) := scope_of (by kernel_rfl)
theorem b_within (g : Gx w K mg fd) : Binds K (fd 4) (["tree", "least"] : List Str) [] := g.f_within.bindsN fun _ _ _ _ _ _ us hl => match us, hl with | [_, _], _ => rfl
theorem s_plain_text : FnScope (["tree", "word", "least"] : List Str) (["tree"] : List Str) (defScope (top 23)) := scope_of (by kernel_rfl)
theorem b_plain_text (g : Gx w K mg fd) : Binds K (fd 5) (["tree"] : List Str) [] := g.f_plain_text.bindsN fun _ _ _ _ _ _ us hl => match us, hl with | [_], _ => rfl
theorem oks_within (g : Gx w K mg fd) (tb : ∀ p ∈ tf, TabB base mg (He.cT K p).1 (He.cT K p).2) (nd : ((tf.map fun p => (He.cT K p).2)).Nodup) : ∀ n : Nat, FnD P w K mg base (TT K) (1 + n) (He.ga K "within") (fd 4) (["tree", "least"] : List Str) .v (within_r n) ∧ FnD P w K mg base (TT K) (1 + n) (He.ga K "plain_text") (fd 5) (["tree"] : List Str) .v (plain_text_r n)
  | 0 => ⟨fnD_none (lv := 0) g.f_within s_within, fnD_none (lv := 0) g.f_plain_text s_plain_text⟩
  | n + 1 => by
    obtain ⟨h_within, h_plain_text⟩ := oks_within g tb nd n
    refine ⟨?_, ?_⟩
    · exact fnD_fun (lv := 1 + n) (k := .v) (within_F (within_r n) (plain_text_r n)) 3 (1 + n + 1) (_) g.f_within s_within rfl (by omega) rfl (.inl rfl) fun cdv A outer s H E hr => by
        have S := s_within
        show PDSs _ _ [false, false, false] [false, false, false] [false, false, false] _ _
        exact (pdss_cons (Γ1 := [false, false, false]) (pds_set S.nd (i := 2) rfl (loc_of (by kernel_rfl)) (pd_call h_plain_text (hr.mono (by omega)) (gl_of (by kernel_rfl)) g.g_plain_text g.f_plain_text.kp (b_plain_text g) (L2N.takes_of rfl rfl rfl rfl) (pda_cons (pd_var 0 rfl (vis_of (by kernel_rfl)) (by decide)) pda_nil) (cons_n nil_n)) (.inl rfl)) (pdss_one (pds_ret (pd_ifExp (pdt_cmp op_ge (OpD.vb od_ge) (PD.vb (pd_ixK (gl_of (by kernel_rfl)) g.d_STRENGTHS (PD.vb (pd_ix2 (units1 hr) (PD.vb (pd_var 0 rfl (vis_of (by kernel_rfl)) (by decide))) (PD.vb pd_int) (fun _ _ => rfl) (fun _ _ => rfl))) (fun _ _ => rfl))) (PD.vb (pd_var 1 rfl (vis_of (by kernel_rfl)) (by decide))) (nomark _)) (pd_var 2 rfl (vis_of (by kernel_rfl)) (by decide)) (pd_op (pe_op op_addU (PD.vb (pd_op (pe_op op_addU (PD.vb (pd_str (by kernel_rfl))) (PD.vb (pd_var 2 rfl (vis_of (by kernel_rfl)) (by decide)))) od_add)) (PD.vb (pd_str (by kernel_rfl)))) od_add)))))
    · exact fnD_fun (lv := 1 + n) (k := .v) (plain_text_F (within_r n) (plain_text_r n)) 3 (1 + n + 1) (_) g.f_plain_text s_plain_text rfl (by omega) rfl (.inl rfl) fun cdv A outer s H E hr => by
        have S := s_plain_text
        show PDSs _ _ [false, false, false] [false, false, false] [false, false, false] _ _
        exact (pdss_cons (Γ1 := [false, false, false]) (pds_set S.nd (i := 1) rfl (loc_of (by kernel_rfl)) (pd_ix2 (units1 hr) (PD.vb (pd_var 0 rfl (vis_of (by kernel_rfl)) (by decide))) (PD.vb pd_int) (fun _ _ => rfl) (fun _ _ => rfl)) (.inl rfl)) (pdss_cons (Γ1 := [false, false, false]) (pds_if (Γ' := [false, false, false]) (pdt_cmp (op_eqD hr.units) (OpD.vb od_eq) (PD.vb (pd_var 1 rfl (vis_of (by kernel_rfl)) (by decide))) (PD.vb (pd_str (by kernel_rfl))) (nomark _)) (pdss_one (pds_ret (pd_ix2 (units1 hr) (PD.vb (pd_var 0 rfl (vis_of (by kernel_rfl)) (by decide))) (PD.vb pd_int) (fun _ _ => rfl) (fun _ _ => rfl)))) pdss_nil) (pdss_cons (Γ1 := [false, false, false]) (pds_set S.nd (i := 2) rfl (loc_of (by kernel_rfl)) (pd_ixK (gl_of (by kernel_rfl)) g.d_STRENGTHS (PD.vb (pd_var 1 rfl (vis_of (by kernel_rfl)) (by decide))) (fun _ _ => rfl)) (.inl rfl)) (pdss_cons (Γ1 := [false, false, false]) (pds_if (Γ' := [false, false, false]) (pdt_cmp (op_eqD hr.units) (OpD.vb od_eq) (PD.vb (pd_var 1 rfl (vis_of (by kernel_rfl)) (by decide))) (PD.vb (pd_str (by kernel_rfl))) (nomark _)) (pdss_one (pds_ret (pd_op (pe_op op_addU (PD.vb (pd_str (by kernel_rfl))) (PD.vb (pd_call h_within (hr.mono (by omega)) (gl_of (by kernel_rfl)) g.g_within g.f_within.kp (b_within g) (L2N.takes_of rfl rfl rfl rfl) (pda_cons (pd_ix2 (units1 hr) (PD.vb (pd_var 0 rfl (vis_of (by kernel_rfl)) (by decide))) (PD.vb pd_int) (fun _ _ => rfl) (fun _ _ => rfl)) (pda_cons (pd_var 2 rfl (vis_of (by kernel_rfl)) (by decide)) pda_nil)) (cons_n (cons_n nil_n))))) od_add))) pdss_nil) (pdss_one (pds_ret (pd_op (pe_op op_addU (PD.vb (pd_op (pe_op op_addU (PD.vb (pd_op (pe_op op_addU (PD.vb (pd_op (pe_op op_addU (PD.vb (pd_call h_within (hr.mono (by omega)) (gl_of (by kernel_rfl)) g.g_within g.f_within.kp (b_within g) (L2N.takes_of rfl rfl rfl rfl) (pda_cons (pd_ix2 (units1 hr) (PD.vb (pd_var 0 rfl (vis_of (by kernel_rfl)) (by decide))) (PD.vb pd_int) (fun _ _ => rfl) (fun _ _ => rfl)) (pda_cons (pd_var 2 rfl (vis_of (by kernel_rfl)) (by decide)) pda_nil)) (cons_n (cons_n nil_n)))) (PD.vb (pd_str (by kernel_rfl)))) od_add)) (PD.vb (pd_var 1 rfl (vis_of (by kernel_rfl)) (by decide)))) od_add)) (PD.vb (pd_str (by kernel_rfl)))) od_add)) (PD.vb (pd_call h_within (hr.mono (by omega)) (gl_of (by kernel_rfl)) g.g_within g.f_within.kp (b_within g) (L2N.takes_of rfl rfl rfl rfl) (pda_cons (pd_ix2 (units1 hr) (PD.vb (pd_var 0 rfl (vis_of (by kernel_rfl)) (by decide))) (PD.vb pd_int) (fun _ _ => rfl) (fun _ _ => rfl)) (pda_cons (pd_op (pe_op op_addU (PD.vb (pd_var 2 rfl (vis_of (by kernel_rfl)) (by decide))) (PD.vb pd_int)) od_add) pda_nil)) (cons_n (cons_n nil_n))))) od_add)))))))
theorem ok_within (g : Gx w K mg fd) (tb : ∀ p ∈ tf, TabB base mg (He.cT K p).1 (He.cT K p).2) (nd : ((tf.map fun p => (He.cT K p).2)).Nodup) (n : Nat) : FnD P w K mg base (TT K) (1 + n) (He.ga K "within") (fd 4) (["tree", "least"] : List Str) .v (within_r n) := (oks_within g tb nd n).1
theorem ok_plain_text (g : Gx w K mg fd) (tb : ∀ p ∈ tf, TabB base mg (He.cT K p).1 (He.cT K p).2) (nd : ((tf.map fun p => (He.cT K p).2)).Nodup) (n : Nat) : FnD P w K mg base (TT K) (1 + n) (He.ga K "plain_text") (fd 5) (["tree"] : List Str) .v (plain_text_r n) := (oks_within g tb nd n).2
theorem s_written_choice : FnScope (["tree"] : List Str) (["tree"] : List Str) (defScope (top 24)) := scope_of (by kernel_rfl)
theorem b_written_choice (g : Gx w K mg fd) : Binds K (fd 6) (["tree"] : List Str) [] := g.f_written_choice.bindsN fun _ _ _ _ _ _ us hl => match us, hl with | [_], _ => rfl
theorem ok_written_choice (g : Gx w K mg fd) (tb : ∀ p ∈ tf, TabB base mg (He.cT K p).1 (He.cT K p).2) (nd : ((tf.map fun p => (He.cT K p).2)).Nodup) : FnD P w K mg base (TT K) 26 (He.ga K "written_choice") (fd 6) (["tree"] : List Str) .v written_choice_f :=
  fnD_fun (lv := 25) (k := .v) (written_choice_F) 1 (25 + 1) (written_choice_f) g.f_written_choice s_written_choice rfl (by omega) rfl (.inl rfl) fun cdv A outer s H E hr => by
    have S := s_written_choice
    show PDSs _ _ [false] [false] [false] _ _
    exact (pdss_cons (Γ1 := [false]) (pds_expr (PD.vb (pd_call (ok_need_choice g tb nd) (hr.mono (by omega)) (gl_of (by kernel_rfl)) g.g_need_choice g.f_need_choice.kp (b_need_choice g) (L2N.takes_of rfl rfl rfl rfl) (pda_cons (pd_var 0 rfl (vis_of (by kernel_rfl)) (by decide)) pda_nil) (cons_n nil_n)))) (pdss_one (pds_ret (pd_call (ok_plain_text g tb nd 24) (hr.mono (by omega)) (gl_of (by kernel_rfl)) g.g_plain_text g.f_plain_text.kp (b_plain_text g) (L2N.takes_of rfl rfl rfl rfl) (pda_cons (pd_var 0 rfl (vis_of (by kernel_rfl)) (by decide)) pda_nil) (cons_n nil_n)))))
theorem s_is_chosen : FnScope (["tree", "names"] : List Str) (["tree", "names"] : List Str) (defScope (top 29)) := scope_of (by kernel_rfl)
theorem b_is_chosen (g : Gx w K mg fd) : Binds K (fd 15) (["tree", "names"] : List Str) [] := g.f_is_chosen.bindsN fun _ _ _ _ _ _ us hl => match us, hl with | [_, _], _ => rfl
theorem ok_is_chosen (g : Gx w K mg fd) (tb : ∀ p ∈ tf, TabB base mg (He.cT K p).1 (He.cT K p).2) (nd : ((tf.map fun p => (He.cT K p).2)).Nodup) : FnD P w K mg base (TT K) 16 (He.ga K "is_chosen") (fd 15) (["tree", "names"] : List Str) .v is_chosen_f :=
  fnD_fun (lv := 15) (k := .v) (is_chosen_F) 2 (15 + 1) (is_chosen_f) g.f_is_chosen s_is_chosen rfl (by omega) rfl (.inl rfl) fun cdv A outer s H E hr => by
    have S := s_is_chosen
    show PDSs _ _ [false, false] [false, false] [false, false] _ _
    exact (pdss_cons (Γ1 := [false, false]) (pds_expr (PD.vb (pd_call (ok_need_choice g tb nd) (hr.mono (by omega)) (gl_of (by kernel_rfl)) g.g_need_choice g.f_need_choice.kp (b_need_choice g) (L2N.takes_of rfl rfl rfl rfl) (pda_cons (pd_var 0 rfl (vis_of (by kernel_rfl)) (by decide)) pda_nil) (cons_n nil_n)))) (pdss_one (pds_ret (pd_call (ok_is_so g tb nd 12) (hr.mono (by omega)) (gl_of (by kernel_rfl)) g.g_is_so g.f_is_so.kp (b_is_so g) (L2N.takes_of rfl rfl rfl rfl) (pda_cons (pd_var 0 rfl (vis_of (by kernel_rfl)) (by decide)) (pda_cons (pd_var 1 rfl (vis_of (by kernel_rfl)) (by decide)) pda_nil)) (cons_n (cons_n nil_n))))))
theorem s_law : FnScope (["_law_script", "_law_k", "_law_more", "_law_j", "_law_here", "_law_a", "_law_none_here", "_law_tree", "_law_told_here", "_law_text", "_law_whole"] : List Str) (["_law_script"] : List Str) (defScope (top 42)) := scope_of (by kernel_rfl)
theorem b_law (g : Gx w K mg fd) : Binds K (fd 25) (["_law_script"] : List Str) [] := g.f_law.bindsN fun _ _ _ _ _ _ us hl => match us, hl with | [_], _ => rfl
theorem ok_law (g : Gx w K mg fd) (tb : ∀ p ∈ tf, TabB base mg (He.cT K p).1 (He.cT K p).2) (nd : ((tf.map fun p => (He.cT K p).2)).Nodup) : FnD P w K mg base (TT K) 117 (He.ga K "law") (fd 25) (["_law_script"] : List Str) .v law_f :=
  fnD_lam (lv := 116) (k := .v) (p := ("law", none)) (law_F) 11 (116 + 1) (law_f) g.f_law s_law rfl (by omega) rfl (.inl rfl) fun A outer s H E hr => by
    have S := s_law
    show PDSs _ _ [false, false, false, false, false, false, false, false, false, false, false] [false, false, false, false, false, false, false, false, false, false, false] [false, false, false, false, false, false, false, false, false, false, false] _ _
    exact (pdss_cons (Γ1 := [false, false, false, false, false, false, false, false, false, false, false]) (pds_for PassesOwn.leaving rfl (pdi_range (gl_of (by kernel_rfl)) g.g_range (pda_cons (PD.vb (pd_cb (es := []) (pe_callB (call_max2 rfl) (gl_of (by kernel_rfl)) g.g_max bt_max (pda_cons (PD.vb pd_int) (pda_cons (PD.vb (pd_cb (es := []) (pe_callB (call_min2 rfl) (gl_of (by kernel_rfl)) g.g_min bt_min (pda_cons (PD.vb pd_int) (pda_cons (PD.vb (pd_cb (es := []) (pe_callB call_len (gl_of (by kernel_rfl)) g.g_len bt_len (pda_cons (PD.vb (pd_var 0 rfl (vis_of (by kernel_rfl)) (by decide))) pda_nil)) fb_len)) pda_nil))) fb_min2)) pda_nil))) fb_max2)) pda_nil)) (pdg_one S.nd (i := 1) rfl (loc_of (by kernel_rfl)) (hf_of (by kernel_rfl))) (pdss_cons (Γ1 := [false, false, false, false, false, false, false, false, false, false, false]) (pds_set S.nd (i := 2) rfl (loc_of (by kernel_rfl)) (pd_call (ok__law_drawn g tb nd) (hr.mono (by omega)) (gl_of (by kernel_rfl)) g.g__law_drawn g.f__law_drawn.kp (b__law_drawn g) (L2N.takes_of rfl rfl rfl rfl) (pda_cons (pd_call (ok__law_cell g tb nd) (hr.mono (by omega)) (gl_of (by kernel_rfl)) g.g__law_cell g.f__law_cell.kp (b__law_cell g) (L2N.takes_of rfl rfl rfl rfl) (pda_cons (pd_var 0 rfl (vis_of (by kernel_rfl)) (by decide)) (pda_cons (pd_var 1 rfl (vis_of (by kernel_rfl)) (by decide)) pda_nil)) (cons_n (cons_n nil_n))) (pda_cons (pd_var 1 rfl (vis_of (by kernel_rfl)) (by decide)) pda_nil)) (cons_n (cons_n nil_n))) (.inl rfl)) (pdss_cons (Γ1 := [false, false, false, false, false, false, false, false, false, false, false]) (pds_for PassesOwn.leaving rfl (pdi_range (gl_of (by kernel_rfl)) g.g_range (pda_cons (PD.vb pd_int) pda_nil)) (pdg_one S.nd (i := 3) rfl (loc_of (by kernel_rfl)) (hf_of (by kernel_rfl))) (PDSs.frzEnd (Γ1 := [false, false, false, false, false, false, false, false, true, false, false]) 8 (pdss_cons (Γ1 := [false, false, false, false, false, false, false, false, false, false, false]) (pds_set S.nd (i := 4) rfl (loc_of (by kernel_rfl)) (pd_call (ok__law_drawn g tb nd) (hr.mono (by omega)) (gl_of (by kernel_rfl)) g.g__law_drawn g.f__law_drawn.kp (b__law_drawn g) (L2N.takes_of rfl rfl rfl rfl) (pda_cons (pd_var 2 rfl (vis_of (by kernel_rfl)) (by decide)) (pda_cons (pd_var 3 rfl (vis_of (by kernel_rfl)) (by decide)) pda_nil)) (cons_n (cons_n nil_n))) (.inl rfl)) (pdss_cons (Γ1 := [false, false, false, false, false, false, false, false, false, false, false]) (pds_set S.nd (i := 5) rfl (loc_of (by kernel_rfl)) (pd_tup (pda_cons (pd_str (by kernel_rfl)) (pda_cons (pd_str (by kernel_rfl)) pda_nil)) (len_ok (cons_len (cons_len (nil_len (n := 0)))) (by rw [sizeLine_eq]; omega))) (.inl rfl)) (pdss_cons (Γ1 := [false, false, false, false, false, false, false, false, false, false, false]) (pds_set S.nd (i := 6) rfl (loc_of (by kernel_rfl)) (pd_ix2 (units1 hr) (PD.ob (pd_call0 (ok__law_none g tb nd) (hr.mono (by omega)) (gl_of (by kernel_rfl)) g.g__law_none g.f__law_none.kp (b__law_none g) (by intro e h; have h : (R.ok _ : R D) = R.exc e := h; cases h))) (PD.vb (pd_op (pe_op op_mod (PD.vb (pd_op (pe_op op_fdivW (PD.vb (pd_var 4 rfl (vis_of (by kernel_rfl)) (by decide))) (PD.vb pd_int)) od_div)) (PD.vb (pd_cb (es := []) (pe_callB call_len (gl_of (by kernel_rfl)) g.g_len bt_len (pda_cons (PD.ob (pd_call0 (ok__law_none g tb nd) (hr.mono (by omega)) (gl_of (by kernel_rfl)) g.g__law_none g.f__law_none.kp (b__law_none g) (by intro e h; have h : (R.ok _ : R D) = R.exc e := h; cases h))) pda_nil)) fb_len))) od_mod)) (fun _ _ => rfl) (fun _ _ => rfl)) (.inl rfl)) (pdss_cons (Γ1 := [false, false, false, false, false, false, false, false, false, false, false]) (pds_set S.nd (i := 7) rfl (loc_of (by kernel_rfl)) (pd_ix2 (units1 hr) (PD.ob (pd_lst (pda_cons (pd_var 6 rfl (vis_of (by kernel_rfl)) (by decide)) (pda_cons (pd_tup (pda_cons (pd_str (by kernel_rfl)) (pda_cons (pd_var 6 rfl (vis_of (by kernel_rfl)) (by decide)) pda_nil)) (len_ok (cons_len (cons_len (nil_len (n := 0)))) (by rw [sizeLine_eq]; omega))) (pda_cons (pd_tup (pda_cons (pd_str (by kernel_rfl)) (pda_cons (pd_var 5 rfl (vis_of (by kernel_rfl)) (by decide)) (pda_cons (pd_var 6 rfl (vis_of (by kernel_rfl)) (by decide)) pda_nil))) (len_ok (cons_len (cons_len (cons_len (nil_len (n := 0))))) (by rw [sizeLine_eq]; omega))) (pda_cons (pd_tup (pda_cons (pd_str (by kernel_rfl)) (pda_cons (pd_var 6 rfl (vis_of (by kernel_rfl)) (by decide)) (pda_cons (pd_var 5 rfl (vis_of (by kernel_rfl)) (by decide)) pda_nil))) (len_ok (cons_len (cons_len (cons_len (nil_len (n := 0))))) (by rw [sizeLine_eq]; omega))) (pda_cons (pd_tup (pda_cons (pd_str (by kernel_rfl)) (pda_cons (pd_tup (pda_cons (pd_str (by kernel_rfl)) (pda_cons (pd_var 5 rfl (vis_of (by kernel_rfl)) (by decide)) (pda_cons (pd_var 6 rfl (vis_of (by kernel_rfl)) (by decide)) pda_nil))) (len_ok (cons_len (cons_len (cons_len (nil_len (n := 0))))) (by rw [sizeLine_eq]; omega))) pda_nil)) (len_ok (cons_len (cons_len (nil_len (n := 0)))) (by rw [sizeLine_eq]; omega))) pda_nil))))) (len_ok (cons_len (cons_len (cons_len (cons_len (cons_len (nil_len (n := 0))))))) (by rw [sizeLine_eq]; omega)))) (PD.vb (pd_op (pe_op op_mod (PD.vb (pd_var 4 rfl (vis_of (by kernel_rfl)) (by decide))) (PD.vb pd_int)) od_mod)) (fun _ _ => rfl) (fun _ _ => rfl)) (.inl rfl)) (pdss_cons (Γ1 := [false, false, false, false, false, false, false, false, true, false, false]) (pds_setO S.nd (i := 8) rfl (loc_of (by kernel_rfl)) (pd_lst (pda_cons (told_call (lv := (116 - 2)) g.wg g.wt g.x_Trouble g.f__law_told g.f__law_word g.g__law_told g.g__law_word (gl_of (by kernel_rfl)) (hr.mono (by omega)) (tb ("law", none) (by decide)) rfl (tm_law K) (tu_law K nd) (lamS_by (by kernel_rfl)) (by rfl) (fun _ _ _ _ _ => rfl) (fun A outer s H E f1 c1 hr => (pd_call (ok_need_choice g tb nd) (hr.mono (by omega)) (gl_of (by kernel_rfl)) g.g_need_choice g.f_need_choice.kp (b_need_choice g) takes_lam (pda_cons (pd_var 7 rfl (vis_of (by kernel_rfl)) (by decide)) pda_nil) (cons_n nil_n)))) pda_nil) (len_ok (cons_len (nil_len (n := 0))) (by rw [sizeLine_eq]; omega))) (.inl rfl) (by decide)) (pdss_cons (Γ1 := [false, false, false, false, false, false, false, false, true, false, false]) (pds_append (pe_bm PySem.F.plainAttrs_list PySem.F.slot_list_append PySem.F.type_list_append mt_append (pe_var (i := 8) rfl (vis_of (by kernel_rfl))) (pa_cons (told_call (lv := (116 - 2)) g.wg g.wt g.x_Trouble g.f__law_told g.f__law_word g.g__law_told g.g__law_word (gl_of (by kernel_rfl)) (hr.mono (by omega)) (tb ("law", none) (by decide)) rfl (tm_law K) (tu_law K nd) (lamS_by (by kernel_rfl)) (by rfl) (fun _ _ _ _ _ => rfl) (fun A outer s H E f1 c1 hr => (pd_call (ok_written_choice g tb nd) (hr.mono (by omega)) (gl_of (by kernel_rfl)) g.g_written_choice g.f_written_choice.kp (b_written_choice g) takes_lam (pda_cons (pd_var 7 rfl (vis_of (by kernel_rfl)) (by decide)) pda_nil) (cons_n nil_n)))) pa_nil)) rfl) (pdss_cons (Γ1 := [false, false, false, false, false, false, false, false, true, false, false]) (pds_append (pe_bm PySem.F.plainAttrs_list PySem.F.slot_list_append PySem.F.type_list_append mt_append (pe_var (i := 8) rfl (vis_of (by kernel_rfl))) (pa_cons (told_call (lv := (116 - 2)) g.wg g.wt g.x_Trouble g.f__law_told g.f__law_word g.g__law_told g.g__law_word (gl_of (by kernel_rfl)) (hr.mono (by omega)) (tb ("law", none) (by decide)) rfl (tm_law K) (tu_law K nd) (lamS_by (by kernel_rfl)) (by rfl) (fun _ _ _ _ _ => rfl) (fun A outer s H E f1 c1 hr => (pd_call (ok_is_chosen g tb nd) (hr.mono (by omega)) (gl_of (by kernel_rfl)) g.g_is_chosen g.f_is_chosen.kp (b_is_chosen g) takes_lam (pda_cons (pd_var 7 rfl (vis_of (by kernel_rfl)) (by decide)) (pda_cons (PD.ov (pd_lst (pda_cons (pd_str (by kernel_rfl)) pda_nil) (len_ok (cons_len (nil_len (n := 0))) (by rw [sizeLine_eq]; omega)))) pda_nil)) (cons_n (cons_n nil_n))))) pa_nil)) rfl) (pdss_cons (Γ1 := [false, false, false, false, false, false, false, false, true, false, false]) (pds_append (pe_bm PySem.F.plainAttrs_list PySem.F.slot_list_append PySem.F.type_list_append mt_append (pe_var (i := 8) rfl (vis_of (by kernel_rfl))) (pa_cons (told_call (lv := (116 - 2)) g.wg g.wt g.x_Trouble g.f__law_told g.f__law_word g.g__law_told g.g__law_word (gl_of (by kernel_rfl)) (hr.mono (by omega)) (tb ("law", none) (by decide)) rfl (tm_law K) (tu_law K nd) (lamS_by (by kernel_rfl)) (by rfl) (fun _ _ _ _ _ => rfl) (fun A outer s H E f1 c1 hr => (pd_call (ok_unlike_by g tb nd) (hr.mono (by omega)) (gl_of (by kernel_rfl)) g.g_unlike_by g.f_unlike_by.kp (b_unlike_by g) takes_lam (pda_cons (pd_var 5 rfl (vis_of (by kernel_rfl)) (by decide)) (pda_cons (pd_var 7 rfl (vis_of (by kernel_rfl)) (by decide)) pda_nil)) (cons_n (cons_n nil_n))))) pa_nil)) rfl) (pdss_cons (Γ1 := [false, false, false, false, false, false, false, false, true, false, false]) (pds_append (pe_bm PySem.F.plainAttrs_list PySem.F.slot_list_append PySem.F.type_list_append mt_append (pe_var (i := 8) rfl (vis_of (by kernel_rfl))) (pa_cons (told_call (lv := (116 - 2)) g.wg g.wt g.x_Trouble g.f__law_told g.f__law_word g.g__law_told g.g__law_word (gl_of (by kernel_rfl)) (hr.mono (by omega)) (tb ("law", none) (by decide)) rfl (tm_law K) (tu_law K nd) (lamS_by (by kernel_rfl)) (by rfl) (fun _ _ _ _ _ => rfl) (fun A outer s H E f1 c1 hr => (pd_call (ok_unlike_by g tb nd) (hr.mono (by omega)) (gl_of (by kernel_rfl)) g.g_unlike_by g.f_unlike_by.kp (b_unlike_by g) takes_lam (pda_cons (pd_var 7 rfl (vis_of (by kernel_rfl)) (by decide)) (pda_cons (pd_var 5 rfl (vis_of (by kernel_rfl)) (by decide)) pda_nil)) (cons_n (cons_n nil_n))))) pa_nil)) rfl) (pdss_cons (Γ1 := [false, false, false, false, false, false, false, false, true, false, false]) (pds_if (Γ' := [false, false, false, false, false, false, false, false, true, false, false]) (pdt_cmp (op_neD hr.units) (OpD.vb od_ne) (pd_varb 8 rfl (vis_of (by kernel_rfl))) (PD.ob (pd_op (pe_op op_rep (PD.ob (pd_lst (pda_cons (pd_tup (pda_cons (pd_str (by kernel_rfl)) (pda_cons (pd_str (by kernel_rfl)) pda_nil)) (len_ok (cons_len (cons_len (nil_len (n := 0)))) (by rw [sizeLine_eq]; omega))) pda_nil) (len_ok (cons_len (nil_len (n := 0))) (by rw [sizeLine_eq]; omega)))) (PD.vb pd_int)) od_repL)) (nomark _)) (pdss_one (pds_ret pd_bl)) pdss_nil) (pdss_cons (Γ1 := [false, false, false, false, false, false, false, false, true, false, false]) (pds_set S.nd (i := 9) rfl (loc_of (by kernel_rfl)) (pd_ix2 (units1 hr) (PD.ob (pd_call0 (ok__law_texts g tb nd) (hr.mono (by omega)) (gl_of (by kernel_rfl)) g.g__law_texts g.f__law_texts.kp (b__law_texts g) (by intro e h; have h : (R.ok _ : R D) = R.exc e := h; cases h))) (PD.vb (pd_op (pe_op op_mod (PD.vb (pd_op (pe_op op_fdivW (PD.vb (pd_var 4 rfl (vis_of (by kernel_rfl)) (by decide))) (PD.vb (pd_op (pe_op op_pow (PD.vb pd_int) (PD.vb pd_int)) od_pow))) od_div)) (PD.vb (pd_cb (es := []) (pe_callB call_len (gl_of (by kernel_rfl)) g.g_len bt_len (pda_cons (PD.ob (pd_call0 (ok__law_texts g tb nd) (hr.mono (by omega)) (gl_of (by kernel_rfl)) g.g__law_texts g.f__law_texts.kp (b__law_texts g) (by intro e h; have h : (R.ok _ : R D) = R.exc e := h; cases h))) pda_nil)) fb_len))) od_mod)) (fun _ _ => rfl) (fun _ _ => rfl)) (.inl rfl)) (pdss_one (pds_if (Γ' := [false, false, false, false, false, false, false, false, true, false, false]) (pdt_cmp (op_neD hr.units) (OpD.vb od_ne) (PD.vb (told_call (lv := (116 - 2)) g.wg g.wt g.x_Trouble g.f__law_told g.f__law_word g.g__law_told g.g__law_word (gl_of (by kernel_rfl)) (hr.mono (by omega)) (tb ("law", none) (by decide)) rfl (tm_law K) (tu_law K nd) (lamS_by (by kernel_rfl)) (by rfl) (fun _ _ _ _ _ => rfl) (fun A outer s H E f1 c1 hr => (pd_call (ok_read_choice g tb nd) (hr.mono (by omega)) (gl_of (by kernel_rfl)) g.g_read_choice g.f_read_choice.kp (b_read_choice g) takes_lam (pda_cons (pd_var 9 rfl (vis_of (by kernel_rfl)) (by decide)) pda_nil) (cons_n nil_n))))) (PD.vb (pd_tup (pda_cons (pd_str (by kernel_rfl)) (pda_cons (pd_str (by kernel_rfl)) pda_nil)) (len_ok (cons_len (cons_len (nil_len (n := 0)))) (by rw [sizeLine_eq]; omega)))) (nomark _)) (pdss_one (pds_ret pd_bl)) pdss_nil)))))))))))))) rfl) (pdss_cons (Γ1 := [false, false, false, false, false, false, false, false, false, false, false]) (pds_if (Γ' := [false, false, false, false, false, false, false, false, false, false, false]) (pdt_w (pdw_or (pdt_cmp (op_neD hr.units) (OpD.vb od_ne) (PD.vb (pd_call (ok_read_choice g tb nd) (hr.mono (by omega)) (gl_of (by kernel_rfl)) g.g_read_choice g.f_read_choice.kp (b_read_choice g) (L2N.takes_of rfl rfl rfl rfl) (pda_cons (pd_op (pe_op op_addU (PD.vb (pd_op (pe_op op_repS (PD.vb (pd_str (by kernel_rfl))) (PD.vb pd_int)) od_repS)) (PD.vb (pd_str (by kernel_rfl)))) od_add) pda_nil) (cons_n nil_n))) (PD.vb (pd_call (ok__law_nots g tb nd) (hr.mono (by omega)) (gl_of (by kernel_rfl)) g.g__law_nots g.f__law_nots.kp (b__law_nots g) (L2N.takes_of rfl rfl rfl rfl) (pda_cons pd_int pda_nil) (cons_n nil_n))) (nomark _)) (pdw_or1 (pdt_isntN (PD.vb (pd_call (ok_need_choice g tb nd) (hr.mono (by omega)) (gl_of (by kernel_rfl)) g.g_need_choice g.f_need_choice.kp (b_need_choice g) (L2N.takes_of rfl rfl rfl rfl) (pda_cons (pd_call (ok__law_tower g tb nd) (hr.mono (by omega)) (gl_of (by kernel_rfl)) g.g__law_tower g.f__law_tower.kp (b__law_tower g) (L2N.takes_of rfl rfl rfl rfl) (pda_cons pd_int pda_nil) (cons_n nil_n)) pda_nil) (cons_n nil_n))))))) (pdss_one (pds_ret pd_bl)) pdss_nil) (pdss_cons (Γ1 := [false, false, false, false, false, false, false, false, false, false, false]) (pds_for PassesOwn.leaving rfl (pdi_any (PD.ov (pd_lst (pda_cons (pd_op (pe_op op_addU (PD.vb (pd_op (pe_op op_addU (PD.vb (pd_op (pe_op op_repS (PD.vb (pd_str (by kernel_rfl))) (PD.vb pd_int)) od_repS)) (PD.vb (pd_str (by kernel_rfl)))) od_add)) (PD.vb (pd_op (pe_op op_repS (PD.vb (pd_str (by kernel_rfl))) (PD.vb pd_int)) od_repS))) od_add) (pda_cons (pd_op (pe_op op_addU (PD.vb (pd_op (pe_op op_addU (PD.vb (pd_op (pe_op op_repS (PD.vb (pd_str (by kernel_rfl))) (PD.vb pd_int)) od_repS)) (PD.vb (pd_str (by kernel_rfl)))) od_add)) (PD.vb (pd_op (pe_op op_repS (PD.vb (pd_str (by kernel_rfl))) (PD.vb pd_int)) od_repS))) od_add) pda_nil)) (len_ok (cons_len (cons_len (nil_len (n := 0)))) (by rw [sizeLine_eq]; omega))))) (pdg_one S.nd (i := 9) rfl (loc_of (by kernel_rfl)) (hf_of (by kernel_rfl))) (pdss_one (pds_if (Γ' := [false, false, false, false, false, false, false, false, false, false, false]) (pdt_cmp (op_neD hr.units) (OpD.vb od_ne) (PD.vb (pd_call (ok_read_choice g tb nd) (hr.mono (by omega)) (gl_of (by kernel_rfl)) g.g_read_choice g.f_read_choice.kp (b_read_choice g) (L2N.takes_of rfl rfl rfl rfl) (pda_cons (pd_var 9 rfl (vis_of (by kernel_rfl)) (by decide)) pda_nil) (cons_n nil_n))) (PD.vb (pd_tup (pda_cons (pd_str (by kernel_rfl)) (pda_cons (pd_str (by kernel_rfl)) pda_nil)) (len_ok (cons_len (cons_len (nil_len (n := 0)))) (by rw [sizeLine_eq]; omega)))) (nomark _)) (pdss_one (pds_ret pd_bl)) pdss_nil)) rfl) (pdss_cons (Γ1 := [false, false, false, false, false, false, false, false, false, false, false]) (pds_set S.nd (i := 10) rfl (loc_of (by kernel_rfl)) (pd_tup (pda_cons (pd_str (by kernel_rfl)) (pda_cons (pd_tup (pda_cons (pd_str (by kernel_rfl)) (pda_cons (pd_tup (pda_cons (pd_str (by kernel_rfl)) (pda_cons (pd_tup (pda_cons (pd_str (by kernel_rfl)) (pda_cons (pd_str (by kernel_rfl)) pda_nil)) (len_ok (cons_len (cons_len (nil_len (n := 0)))) (by rw [sizeLine_eq]; omega))) (pda_cons (pd_tup (pda_cons (pd_str (by kernel_rfl)) (pda_cons (pd_str (by kernel_rfl)) pda_nil)) (len_ok (cons_len (cons_len (nil_len (n := 0)))) (by rw [sizeLine_eq]; omega))) pda_nil))) (len_ok (cons_len (cons_len (cons_len (nil_len (n := 0))))) (by rw [sizeLine_eq]; omega))) (pda_cons (pd_tup (pda_cons (pd_str (by kernel_rfl)) (pda_cons (pd_tup (pda_cons (pd_str (by kernel_rfl)) (pda_cons (pd_str (by kernel_rfl)) pda_nil)) (len_ok (cons_len (cons_len (nil_len (n := 0)))) (by rw [sizeLine_eq]; omega))) (pda_cons (pd_tup (pda_cons (pd_str (by kernel_rfl)) (pda_cons (pd_str (by kernel_rfl)) pda_nil)) (len_ok (cons_len (cons_len (nil_len (n := 0)))) (by rw [sizeLine_eq]; omega))) pda_nil))) (len_ok (cons_len (cons_len (cons_len (nil_len (n := 0))))) (by rw [sizeLine_eq]; omega))) pda_nil))) (len_ok (cons_len (cons_len (cons_len (nil_len (n := 0))))) (by rw [sizeLine_eq]; omega))) (pda_cons (pd_call0 (ok__law_pairs g tb nd) (hr.mono (by omega)) (gl_of (by kernel_rfl)) g.g__law_pairs g.f__law_pairs.kp (b__law_pairs g) (by intro e h; have h : (R.ok _ : R D) = R.exc e := h; cases h)) pda_nil))) (len_ok (cons_len (cons_len (cons_len (nil_len (n := 0))))) (by rw [sizeLine_eq]; omega))) (.inl rfl)) (pdss_cons (Γ1 := [false, false, false, false, false, false, false, false, false, false, false]) (pds_if (Γ' := [false, false, false, false, false, false, false, false, false, false, false]) (pdt_isntN (PD.vb (pd_call (ok_unlike_by g tb nd) (hr.mono (by omega)) (gl_of (by kernel_rfl)) g.g_unlike_by g.f_unlike_by.kp (b_unlike_by g) (L2N.takes_of rfl rfl rfl rfl) (pda_cons (pd_var 10 rfl (vis_of (by kernel_rfl)) (by decide)) (pda_cons (pd_var 10 rfl (vis_of (by kernel_rfl)) (by decide)) pda_nil)) (cons_n (cons_n nil_n))))) (pdss_one (pds_ret pd_bl)) pdss_nil) (pdss_one (pds_if (Γ' := [false, false, false, false, false, false, false, false, false, false, false]) (pdt_cmp (op_neD hr.units) (OpD.vb od_ne) (PD.vb (told_call (lv := (116 - 2)) g.wg g.wt g.x_Trouble g.f__law_told g.f__law_word g.g__law_told g.g__law_word (gl_of (by kernel_rfl)) (hr.mono (by omega)) (tb ("law", none) (by decide)) rfl (tm_law K) (tu_law K nd) (lamS_by (by kernel_rfl)) (by rfl) (fun _ _ _ _ _ => rfl) (fun A outer s H E f1 c1 hr => (pd_call (ok_unlike_by g tb nd) (hr.mono (by omega)) (gl_of (by kernel_rfl)) g.g_unlike_by g.f_unlike_by.kp (b_unlike_by g) takes_lam (pda_cons (pd_var 10 rfl (vis_of (by kernel_rfl)) (by decide)) (pda_cons (pd_tup (pda_cons (pd_str (by kernel_rfl)) (pda_cons (pd_str (by kernel_rfl)) pda_nil)) (len_ok (cons_len (cons_len (nil_len (n := 0)))) (by rw [sizeLine_eq]; omega))) pda_nil)) (cons_n (cons_n nil_n)))))) (PD.vb (pd_tup (pda_cons (pd_str (by kernel_rfl)) (pda_cons (pd_str (by kernel_rfl)) pda_nil)) (len_ok (cons_len (cons_len (nil_len (n := 0)))) (by rw [sizeLine_eq]; omega)))) (nomark _)) (pdss_one (pds_ret pd_bl)) pdss_nil)))))))) rfl) (pdss_one (pds_ret pd_bl)))
end
end Kk51
namespace Kk51
open PySem PySem.Spec PyProof.Rows L2 BV
def fn0 : List He.DefD := [⟨("is_name", none), "is_name", "is_name", defArgs (top 13), defBody (top 13), defScope (top 13), [], []⟩,
  ⟨("need", none), "need", "need", defArgs (top 19), defBody (top 19), defScope (top 19), [], []⟩,
  ⟨("need_deep", none), "need_deep", "need_deep", defArgs (top 20), defBody (top 20), defScope (top 20), [], []⟩,
  ⟨("need_choice", none), "need_choice", "need_choice", defArgs (top 21), defBody (top 21), defScope (top 21), [], []⟩,
  ⟨("within", none), "within", "within", defArgs (top 22), defBody (top 22), defScope (top 22), [], []⟩,
  ⟨("plain_text", none), "plain_text", "plain_text", defArgs (top 23), defBody (top 23), defScope (top 23), [], []⟩,
  ⟨("written_choice", none), "written_choice", "written_choice", defArgs (top 24), defBody (top 24), defScope (top 24), [], []⟩,
  ⟨("words_of", none), "words_of", "words_of", defArgs (top 25), defBody (top 25), defScope (top 25), [], []⟩,
  ⟨("Reader", some "__init__"), "__init__", "Reader.__init__", defArgs (topM 26 0), defBody (topM 26 0), defScope (topM 26 0), [], []⟩,
  ⟨("Reader", some "ahead"), "ahead", "Reader.ahead", defArgs (topM 26 1), defBody (topM 26 1), defScope (topM 26 1), [], []⟩,
  ⟨("Reader", some "take"), "take", "Reader.take", defArgs (topM 26 2), defBody (topM 26 2), defScope (topM 26 2), [], []⟩,
  ⟨("Reader", some "choice"), "choice", "Reader.choice", defArgs (topM 26 3), defBody (topM 26 3), defScope (topM 26 3), [], []⟩,
  ⟨("Reader", some "one"), "one", "Reader.one", defArgs (topM 26 4), defBody (topM 26 4), defScope (topM 26 4), [], []⟩,
  ⟨("read_choice", none), "read_choice", "read_choice", defArgs (top 27), defBody (top 27), defScope (top 27), [], []⟩,
  ⟨("is_so", none), "is_so", "is_so", defArgs (top 28), defBody (top 28), defScope (top 28), [], []⟩,
  ⟨("is_chosen", none), "is_chosen", "is_chosen", defArgs (top 29), defBody (top 29), defScope (top 29), [], []⟩,
  ⟨("names_in", none), "names_in", "names_in", defArgs (top 30), defBody (top 30), defScope (top 30), [], []⟩,
  ⟨("unlike_by", none), "unlike_by", "unlike_by", defArgs (top 31), defBody (top 31), defScope (top 31), [], []⟩,
  ⟨("_law_cell", none), "_law_cell", "_law_cell", defArgs (top 33), defBody (top 33), defScope (top 33), [], []⟩,
  ⟨("_law_drawn", none), "_law_drawn", "_law_drawn", defArgs (top 34), defBody (top 34), defScope (top 34), [], []⟩,
  ⟨("_law_none", none), "_law_none", "_law_none", defArgs (top 37), defBody (top 37), defScope (top 37), [], []⟩,
  ⟨("_law_tower", none), "_law_tower", "_law_tower", defArgs (top 38), defBody (top 38), defScope (top 38), [], []⟩,
  ⟨("_law_texts", none), "_law_texts", "_law_texts", defArgs (top 39), defBody (top 39), defScope (top 39), [], []⟩,
  ⟨("_law_pairs", none), "_law_pairs", "_law_pairs", defArgs (top 40), defBody (top 40), defScope (top 40), [], []⟩,
  ⟨("_law_nots", none), "_law_nots", "_law_nots", defArgs (top 41), defBody (top 41), defScope (top 41), [], []⟩,
  ⟨("law", none), "law", "law", defArgs (top 42), defBody (top 42), defScope (top 42), [], []⟩,
  ⟨("_law_told", none), "_law_told", "_law_told", defArgs (top 36), defBody (top 36), defScope (top 36), [], []⟩,
  ⟨("_law_word", none), "_law_word", "_law_word", defArgs (top 35), defBody (top 35), defScope (top 35), [], []⟩]
def fn : List He.DefD := fn0
def fa0 : List He.Fa := [.free "ValueError", .free "all", .free "int", .free "isinstance", .free "len", .free "max", .free "min", .free "range", .free "set", .free "sorted", .free "str", .free "sum", .free "tuple", .str "LETTERS" "abcdefghijklmnopqrstuvwxyz", .int "MOST_NAME" 10, .int "MOST_NAMES" 6, .int "MOST_SIGNS" 100, .int "MOST_WITHIN" 8, .glo "BadChoice", .exc "BadChoice", .glo "BARRED", .glo "STRENGTHS", .glo "Reader", .cls "Reader", .glo "Trouble", .noat "Reader" "reached", .noat "Reader" "words", .meth "Reader" "ahead", .meth "Reader" "choice", .meth "Reader" "one"]
def fa1 : List He.Fa := [.meth "Reader" "take", .mkr "Reader", .glo "is_name", .glo "need", .glo "need_deep", .glo "need_choice", .glo "within", .glo "plain_text", .glo "written_choice", .glo "words_of", .glo "read_choice", .glo "is_so", .glo "is_chosen", .glo "names_in", .glo "unlike_by", .glo "_law_cell", .glo "_law_drawn", .glo "_law_none", .glo "_law_tower", .glo "_law_texts", .glo "_law_pairs", .glo "_law_nots", .glo "law", .glo "_law_told", .glo "_law_word", .glo "BadValue", .glo "BadSteps", .glo "BadHouse", .glo "BadName", .glo "BadRecord"]
def fa2 : List He.Fa := [.glo "TryError"]
def fa : List He.Fa := fa0 ++ fa1 ++ fa2
def loose : List PySem.Str := (["TryError", "BadValue", "BadSteps", "BadHouse", "BadName", "BadChoice", "BadRecord", "Trouble", "MOST_NAME", "LETTERS", "BARRED", "is_name", "MOST_SIGNS", "MOST_WITHIN", "MOST_NAMES", "STRENGTHS", "need", "need_deep", "need_choice", "within", "plain_text", "written_choice", "words_of", "Reader", "read_choice", "is_so", "is_chosen", "names_in", "unlike_by", "_law_cell"] : List PySem.Str) ++ (["_law_drawn", "_law_word", "_law_told", "_law_none", "_law_tower", "_law_texts", "_law_pairs", "_law_nots"] : List PySem.Str)
def ex0 (K : PySem.W.Frag) : Bool := WD.wgB K && decide ((tf.map fun p => (He.cT K p).2).Nodup)
def ex1 (K : PySem.W.Frag) : Bool := He.tupB K "BARRED" ((["and", "or", "not", "row"] : List PySem.Str).map He.Dv.str)
def ex2 (K : PySem.W.Frag) : Bool := kvB K (He.ga K "STRENGTHS") kv_STRENGTHS
def ex3 (K : PySem.W.Frag) : Bool := xcB K "Trouble" "word" "what"
def ex4 (K : PySem.W.Frag) : Bool := WD.wgtB K
def exs : List (PySem.W.Frag → Bool) := [ex0, ex1, ex2, ex3, ex4]
def ts : List He.Tab := [(fun K => He.ga K "STRENGTHS", ["or", "and", "not", "name"])]
def ex (K : PySem.W.Frag) : Bool := exs.all fun e => e K
abbrev RwK : PySem.W.OpenRow := PySem.W.OpenLaw.row PySem.Challenge.rw_trywright_k51_choices_refused
abbrev hk : PySem.W.Hook := He.hookX 5 fa fn ts tf ex
def ob (s : PySem.W.SharedT) := He.obsX 5 fa fn ts tf ex (HandSHeadRun.getT s)
theorem ob_eq (s : PySem.W.SharedT) : ob s = hk.obs s.abs := He.obsX_eq (HandSHeadRun.getT_eq s)
theorem run_false : ∀ w : World, HandSHeadRun.RunEq RwK (PySem.W.view RwK.prog [42]) hk ob 20000 loose (w.withFollow "special-get-raises" false) := by
  intro w os
  kernel_rfl
theorem run_true : ∀ w : World, HandSHeadRun.RunEq RwK (PySem.W.view RwK.prog [42]) hk ob 20000 loose (w.withFollow "special-get-raises" true) := by
  intro w os
  kernel_rfl
theorem run (w : World) : HandSHeadRun.RunEq RwK (PySem.W.view RwK.prog [42]) hk ob 20000 loose w := PySem.W.byRow2 "special-get-raises" run_false run_true w
theorem fds {K : PySem.W.Frag} (c : He.SaysD fa fn K) : ∃ fd : Nat → FuncData, FunD K "is_name" "is_name" (defArgs (top 13)) (defBody (top 13)) (defScope (top 13)) [] [] (He.ga K "is_name") (fd 0) ∧ FunD K "need" "need" (defArgs (top 19)) (defBody (top 19)) (defScope (top 19)) [] [] (He.ga K "need") (fd 1) ∧ FunD K "need_deep" "need_deep" (defArgs (top 20)) (defBody (top 20)) (defScope (top 20)) [] [] (He.ga K "need_deep") (fd 2) ∧ FunD K "need_choice" "need_choice" (defArgs (top 21)) (defBody (top 21)) (defScope (top 21)) [] [] (He.ga K "need_choice") (fd 3) ∧ FunD K "within" "within" (defArgs (top 22)) (defBody (top 22)) (defScope (top 22)) [] [] (He.ga K "within") (fd 4) ∧ FunD K "plain_text" "plain_text" (defArgs (top 23)) (defBody (top 23)) (defScope (top 23)) [] [] (He.ga K "plain_text") (fd 5) ∧ FunD K "written_choice" "written_choice" (defArgs (top 24)) (defBody (top 24)) (defScope (top 24)) [] [] (He.ga K "written_choice") (fd 6) ∧ FunD K "words_of" "words_of" (defArgs (top 25)) (defBody (top 25)) (defScope (top 25)) [] [] (He.ga K "words_of") (fd 7) ∧ FunD K "__init__" "Reader.__init__" (defArgs (topM 26 0)) (defBody (topM 26 0)) (defScope (topM 26 0)) [] [] (He.ma K (He.ga K "Reader") "__init__") (fd 8) ∧ FunD K "ahead" "Reader.ahead" (defArgs (topM 26 1)) (defBody (topM 26 1)) (defScope (topM 26 1)) [] [] (He.ma K (He.ga K "Reader") "ahead") (fd 9) ∧ FunD K "take" "Reader.take" (defArgs (topM 26 2)) (defBody (topM 26 2)) (defScope (topM 26 2)) [] [] (He.ma K (He.ga K "Reader") "take") (fd 10) ∧ FunD K "choice" "Reader.choice" (defArgs (topM 26 3)) (defBody (topM 26 3)) (defScope (topM 26 3)) [] [] (He.ma K (He.ga K "Reader") "choice") (fd 11) ∧ FunD K "one" "Reader.one" (defArgs (topM 26 4)) (defBody (topM 26 4)) (defScope (topM 26 4)) [] [] (He.ma K (He.ga K "Reader") "one") (fd 12) ∧ FunD K "read_choice" "read_choice" (defArgs (top 27)) (defBody (top 27)) (defScope (top 27)) [] [] (He.ga K "read_choice") (fd 13) ∧ FunD K "is_so" "is_so" (defArgs (top 28)) (defBody (top 28)) (defScope (top 28)) [] [] (He.ga K "is_so") (fd 14) ∧ FunD K "is_chosen" "is_chosen" (defArgs (top 29)) (defBody (top 29)) (defScope (top 29)) [] [] (He.ga K "is_chosen") (fd 15) ∧ FunD K "names_in" "names_in" (defArgs (top 30)) (defBody (top 30)) (defScope (top 30)) [] [] (He.ga K "names_in") (fd 16) ∧ FunD K "unlike_by" "unlike_by" (defArgs (top 31)) (defBody (top 31)) (defScope (top 31)) [] [] (He.ga K "unlike_by") (fd 17) ∧ FunD K "_law_cell" "_law_cell" (defArgs (top 33)) (defBody (top 33)) (defScope (top 33)) [] [] (He.ga K "_law_cell") (fd 18) ∧ FunD K "_law_drawn" "_law_drawn" (defArgs (top 34)) (defBody (top 34)) (defScope (top 34)) [] [] (He.ga K "_law_drawn") (fd 19) ∧ FunD K "_law_none" "_law_none" (defArgs (top 37)) (defBody (top 37)) (defScope (top 37)) [] [] (He.ga K "_law_none") (fd 20) ∧ FunD K "_law_tower" "_law_tower" (defArgs (top 38)) (defBody (top 38)) (defScope (top 38)) [] [] (He.ga K "_law_tower") (fd 21) ∧ FunD K "_law_texts" "_law_texts" (defArgs (top 39)) (defBody (top 39)) (defScope (top 39)) [] [] (He.ga K "_law_texts") (fd 22) ∧ FunD K "_law_pairs" "_law_pairs" (defArgs (top 40)) (defBody (top 40)) (defScope (top 40)) [] [] (He.ga K "_law_pairs") (fd 23) ∧ FunD K "_law_nots" "_law_nots" (defArgs (top 41)) (defBody (top 41)) (defScope (top 41)) [] [] (He.ga K "_law_nots") (fd 24) ∧ FunD K "law" "law" (defArgs (top 42)) (defBody (top 42)) (defScope (top 42)) [] [] (He.ga K "law") (fd 25) ∧ FunD K "_law_told" "_law_told" (defArgs (top 36)) (defBody (top 36)) (defScope (top 36)) [] [] (He.ga K "_law_told") (fd 26) ∧ FunD K "_law_word" "_law_word" (defArgs (top 35)) (defBody (top 35)) (defScope (top 35)) [] [] (He.ga K "_law_word") (fd 27) := by
  obtain ⟨d0, h0⟩ := c.def_ 0 (d := ⟨("is_name", none), "is_name", "is_name", defArgs (top 13), defBody (top 13), defScope (top 13), [], []⟩) (by rfl)
  obtain ⟨d1, h1⟩ := c.def_ 1 (d := ⟨("need", none), "need", "need", defArgs (top 19), defBody (top 19), defScope (top 19), [], []⟩) (by rfl)
  obtain ⟨d2, h2⟩ := c.def_ 2 (d := ⟨("need_deep", none), "need_deep", "need_deep", defArgs (top 20), defBody (top 20), defScope (top 20), [], []⟩) (by rfl)
  obtain ⟨d3, h3⟩ := c.def_ 3 (d := ⟨("need_choice", none), "need_choice", "need_choice", defArgs (top 21), defBody (top 21), defScope (top 21), [], []⟩) (by rfl)
  obtain ⟨d4, h4⟩ := c.def_ 4 (d := ⟨("within", none), "within", "within", defArgs (top 22), defBody (top 22), defScope (top 22), [], []⟩) (by rfl)
  obtain ⟨d5, h5⟩ := c.def_ 5 (d := ⟨("plain_text", none), "plain_text", "plain_text", defArgs (top 23), defBody (top 23), defScope (top 23), [], []⟩) (by rfl)
  obtain ⟨d6, h6⟩ := c.def_ 6 (d := ⟨("written_choice", none), "written_choice", "written_choice", defArgs (top 24), defBody (top 24), defScope (top 24), [], []⟩) (by rfl)
  obtain ⟨d7, h7⟩ := c.def_ 7 (d := ⟨("words_of", none), "words_of", "words_of", defArgs (top 25), defBody (top 25), defScope (top 25), [], []⟩) (by rfl)
  obtain ⟨d8, h8⟩ := c.def_ 8 (d := ⟨("Reader", some "__init__"), "__init__", "Reader.__init__", defArgs (topM 26 0), defBody (topM 26 0), defScope (topM 26 0), [], []⟩) (by rfl)
  obtain ⟨d9, h9⟩ := c.def_ 9 (d := ⟨("Reader", some "ahead"), "ahead", "Reader.ahead", defArgs (topM 26 1), defBody (topM 26 1), defScope (topM 26 1), [], []⟩) (by rfl)
  obtain ⟨d10, h10⟩ := c.def_ 10 (d := ⟨("Reader", some "take"), "take", "Reader.take", defArgs (topM 26 2), defBody (topM 26 2), defScope (topM 26 2), [], []⟩) (by rfl)
  obtain ⟨d11, h11⟩ := c.def_ 11 (d := ⟨("Reader", some "choice"), "choice", "Reader.choice", defArgs (topM 26 3), defBody (topM 26 3), defScope (topM 26 3), [], []⟩) (by rfl)
  obtain ⟨d12, h12⟩ := c.def_ 12 (d := ⟨("Reader", some "one"), "one", "Reader.one", defArgs (topM 26 4), defBody (topM 26 4), defScope (topM 26 4), [], []⟩) (by rfl)
  obtain ⟨d13, h13⟩ := c.def_ 13 (d := ⟨("read_choice", none), "read_choice", "read_choice", defArgs (top 27), defBody (top 27), defScope (top 27), [], []⟩) (by rfl)
  obtain ⟨d14, h14⟩ := c.def_ 14 (d := ⟨("is_so", none), "is_so", "is_so", defArgs (top 28), defBody (top 28), defScope (top 28), [], []⟩) (by rfl)
  obtain ⟨d15, h15⟩ := c.def_ 15 (d := ⟨("is_chosen", none), "is_chosen", "is_chosen", defArgs (top 29), defBody (top 29), defScope (top 29), [], []⟩) (by rfl)
  obtain ⟨d16, h16⟩ := c.def_ 16 (d := ⟨("names_in", none), "names_in", "names_in", defArgs (top 30), defBody (top 30), defScope (top 30), [], []⟩) (by rfl)
  obtain ⟨d17, h17⟩ := c.def_ 17 (d := ⟨("unlike_by", none), "unlike_by", "unlike_by", defArgs (top 31), defBody (top 31), defScope (top 31), [], []⟩) (by rfl)
  obtain ⟨d18, h18⟩ := c.def_ 18 (d := ⟨("_law_cell", none), "_law_cell", "_law_cell", defArgs (top 33), defBody (top 33), defScope (top 33), [], []⟩) (by rfl)
  obtain ⟨d19, h19⟩ := c.def_ 19 (d := ⟨("_law_drawn", none), "_law_drawn", "_law_drawn", defArgs (top 34), defBody (top 34), defScope (top 34), [], []⟩) (by rfl)
  obtain ⟨d20, h20⟩ := c.def_ 20 (d := ⟨("_law_none", none), "_law_none", "_law_none", defArgs (top 37), defBody (top 37), defScope (top 37), [], []⟩) (by rfl)
  obtain ⟨d21, h21⟩ := c.def_ 21 (d := ⟨("_law_tower", none), "_law_tower", "_law_tower", defArgs (top 38), defBody (top 38), defScope (top 38), [], []⟩) (by rfl)
  obtain ⟨d22, h22⟩ := c.def_ 22 (d := ⟨("_law_texts", none), "_law_texts", "_law_texts", defArgs (top 39), defBody (top 39), defScope (top 39), [], []⟩) (by rfl)
  obtain ⟨d23, h23⟩ := c.def_ 23 (d := ⟨("_law_pairs", none), "_law_pairs", "_law_pairs", defArgs (top 40), defBody (top 40), defScope (top 40), [], []⟩) (by rfl)
  obtain ⟨d24, h24⟩ := c.def_ 24 (d := ⟨("_law_nots", none), "_law_nots", "_law_nots", defArgs (top 41), defBody (top 41), defScope (top 41), [], []⟩) (by rfl)
  obtain ⟨d25, h25⟩ := c.def_ 25 (d := ⟨("law", none), "law", "law", defArgs (top 42), defBody (top 42), defScope (top 42), [], []⟩) (by rfl)
  obtain ⟨d26, h26⟩ := c.def_ 26 (d := ⟨("_law_told", none), "_law_told", "_law_told", defArgs (top 36), defBody (top 36), defScope (top 36), [], []⟩) (by rfl)
  obtain ⟨d27, h27⟩ := c.def_ 27 (d := ⟨("_law_word", none), "_law_word", "_law_word", defArgs (top 35), defBody (top 35), defScope (top 35), [], []⟩) (by rfl)
  exact ⟨fun i => ([d0, d1, d2, d3, d4, d5, d6, d7, d8, d9, d10, d11, d12, d13, d14, d15, d16, d17, d18, d19, d20, d21, d22, d23, d24, d25, d26, d27] : List FuncData).getD i d25, h0, h1, h2, h3, h4, h5, h6, h7, h8, h9, h10, h11, h12, h13, h14, h15, h16, h17, h18, h19, h20, h21, h22, h23, h24, h25, h26, h27⟩
theorem exk {K : PySem.W.Frag} (h : ex K = true) {n : Nat} {e : PySem.W.Frag → Bool} (q : exs[n]? = some e) : e K = true := List.all_eq_true.mp h e (List.mem_of_getElem? q)
theorem gx {K : PySem.W.Frag} {h : Heap} {mg : Str → Option Value} {w : World} (X : K.In h) (G : h.Ns mainGlobals mg) (c : He.SaysT fa fn ts w K) (hx : ex K = true) : ∃ fd : Nat → FuncData, Gx w K mg fd := by
  obtain ⟨fd, h0, h1, h2, h3, h4, h5, h6, h7, h8, h9, h10, h11, h12, h13, h14, h15, h16, h17, h18, h19, h20, h21, h22, h23, h24, h25, h26, h27⟩ := fds c.d
  exact ⟨fd, {
    wg := WD.wg_of (Bool.and_eq_true_iff.mp (exk hx (n := 0) rfl)).1 (fun n hn => by
      unfold WD.seven at hn
      simp only [List.mem_cons, List.not_mem_nil, or_false] at hn
      rcases hn with rfl | rfl | rfl | rfl | rfl | rfl | rfl
      · exact (He.glo_ok X G (c.d.fact 55 (f := .glo "BadValue") (by rfl)))
      · exact (He.glo_ok X G (c.d.fact 56 (f := .glo "BadSteps") (by rfl)))
      · exact (He.glo_ok X G (c.d.fact 57 (f := .glo "BadHouse") (by rfl)))
      · exact (He.glo_ok X G (c.d.fact 58 (f := .glo "BadName") (by rfl)))
      · exact (He.glo_ok X G (c.d.fact 18 (f := .glo "BadChoice") (by rfl)))
      · exact (He.glo_ok X G (c.d.fact 59 (f := .glo "BadRecord") (by rfl)))
      · exact (He.glo_ok X G (c.d.fact 24 (f := .glo "Trouble") (by rfl)))) (He.glo_ok X G (c.d.fact 60 (f := .glo "TryError") (by rfl))) (He.free_ok X G (c.d.fact 3 (f := .free "isinstance") (by rfl))) (He.free_ok X G (c.d.fact 11 (f := .free "sum") (by rfl))) (He.free_ok X G (c.d.fact 2 (f := .free "int") (by rfl))) (He.free_ok X G (c.d.fact 0 (f := .free "ValueError") (by rfl)))
    t_BARRED := tupG_of (He.glo_ok X G (c.d.fact 20 (f := .glo "BARRED") (by rfl))) (exk hx (n := 1) rfl)
    d_STRENGTHS := dicG_of (He.glo_ok X G (c.d.fact 21 (f := .glo "STRENGTHS") (by rfl))) (c.tab 0 (t := (fun K => He.ga K "STRENGTHS", ["or", "and", "not", "name"])) (by rfl)) (exk hx (n := 2) rfl)
    x_Trouble := xcB_ok (He.glo_ok X G (c.d.fact 24 (f := .glo "Trouble") (by rfl))) (exk hx (n := 3) rfl)
    wt := WD.wgt_of (exk hx (n := 4) rfl)
    g_all := He.free_ok X G (c.d.fact 1 (f := .free "all") (by rfl))
    g_isinstance := He.free_ok X G (c.d.fact 3 (f := .free "isinstance") (by rfl))
    g_len := He.free_ok X G (c.d.fact 4 (f := .free "len") (by rfl))
    g_max := He.free_ok X G (c.d.fact 5 (f := .free "max") (by rfl))
    g_min := He.free_ok X G (c.d.fact 6 (f := .free "min") (by rfl))
    g_range := He.free_ok X G (c.d.fact 7 (f := .free "range") (by rfl))
    g_set := He.free_ok X G (c.d.fact 8 (f := .free "set") (by rfl))
    g_sorted := He.free_ok X G (c.d.fact 9 (f := .free "sorted") (by rfl))
    g_str := He.free_ok X G (c.d.fact 10 (f := .free "str") (by rfl))
    g_tuple := He.free_ok X G (c.d.fact 12 (f := .free "tuple") (by rfl))
    v_LETTERS := He.str_ok X G (c.d.fact 13 (f := .str "LETTERS" "abcdefghijklmnopqrstuvwxyz") (by rfl))
    v_MOST_NAME := He.int_ok X G (c.d.fact 14 (f := .int "MOST_NAME" 10) (by rfl))
    v_MOST_NAMES := He.int_ok X G (c.d.fact 15 (f := .int "MOST_NAMES" 6) (by rfl))
    v_MOST_SIGNS := He.int_ok X G (c.d.fact 16 (f := .int "MOST_SIGNS" 100) (by rfl))
    v_MOST_WITHIN := He.int_ok X G (c.d.fact 17 (f := .int "MOST_WITHIN" 8) (by rfl))
    e_BadChoice := ⟨_, (He.glo_ok X G (c.d.fact 18 (f := .glo "BadChoice") (by rfl))), He.exc_ok (c.d.fact 19 (f := .exc "BadChoice") (by rfl))⟩
    c_Reader := ⟨(He.glo_ok X G (c.d.fact 22 (f := .glo "Reader") (by rfl))), He.cls_ok (c.d.fact 23 (f := .cls "Reader") (by rfl))⟩
    na_Reader_reached := He.noat_ok (c.d.fact 25 (f := .noat "Reader" "reached") (by rfl))
    na_Reader_words := He.noat_ok (c.d.fact 26 (f := .noat "Reader" "words") (by rfl))
    fc_Reader_reached := fun C hC => by rw [List.mem_singleton.mp hC]; exact ⟨⟨(He.glo_ok X G (c.d.fact 22 (f := .glo "Reader") (by rfl))), He.cls_ok (c.d.fact 23 (f := .cls "Reader") (by rfl))⟩, He.noat_ok (c.d.fact 25 (f := .noat "Reader" "reached") (by rfl))⟩
    fc_Reader_words := fun C hC => by rw [List.mem_singleton.mp hC]; exact ⟨⟨(He.glo_ok X G (c.d.fact 22 (f := .glo "Reader") (by rfl))), He.cls_ok (c.d.fact 23 (f := .cls "Reader") (by rfl))⟩, He.noat_ok (c.d.fact 26 (f := .noat "Reader" "words") (by rfl))⟩
    me_Reader__ahead := He.meth_ok (c.d.fact 27 (f := .meth "Reader" "ahead") (by rfl))
    me_Reader__choice := He.meth_ok (c.d.fact 28 (f := .meth "Reader" "choice") (by rfl))
    me_Reader__one := He.meth_ok (c.d.fact 29 (f := .meth "Reader" "one") (by rfl))
    me_Reader__take := He.meth_ok (c.d.fact 30 (f := .meth "Reader" "take") (by rfl))
    mk_Reader := He.mkr_ok (c.d.fact 31 (f := .mkr "Reader") (by rfl))
    g_is_name := He.glo_ok X G (c.d.fact 32 (f := .glo "is_name") (by rfl))
    f_is_name := h0
    g_need := He.glo_ok X G (c.d.fact 33 (f := .glo "need") (by rfl))
    f_need := h1
    g_need_deep := He.glo_ok X G (c.d.fact 34 (f := .glo "need_deep") (by rfl))
    f_need_deep := h2
    g_need_choice := He.glo_ok X G (c.d.fact 35 (f := .glo "need_choice") (by rfl))
    f_need_choice := h3
    g_within := He.glo_ok X G (c.d.fact 36 (f := .glo "within") (by rfl))
    f_within := h4
    g_plain_text := He.glo_ok X G (c.d.fact 37 (f := .glo "plain_text") (by rfl))
    f_plain_text := h5
    g_written_choice := He.glo_ok X G (c.d.fact 38 (f := .glo "written_choice") (by rfl))
    f_written_choice := h6
    g_words_of := He.glo_ok X G (c.d.fact 39 (f := .glo "words_of") (by rfl))
    f_words_of := h7
    f_Reader__init := h8
    f_Reader__ahead := h9
    f_Reader__take := h10
    f_Reader__choice := h11
    f_Reader__one := h12
    g_read_choice := He.glo_ok X G (c.d.fact 40 (f := .glo "read_choice") (by rfl))
    f_read_choice := h13
    g_is_so := He.glo_ok X G (c.d.fact 41 (f := .glo "is_so") (by rfl))
    f_is_so := h14
    g_is_chosen := He.glo_ok X G (c.d.fact 42 (f := .glo "is_chosen") (by rfl))
    f_is_chosen := h15
    g_names_in := He.glo_ok X G (c.d.fact 43 (f := .glo "names_in") (by rfl))
    f_names_in := h16
    g_unlike_by := He.glo_ok X G (c.d.fact 44 (f := .glo "unlike_by") (by rfl))
    f_unlike_by := h17
    g__law_cell := He.glo_ok X G (c.d.fact 45 (f := .glo "_law_cell") (by rfl))
    f__law_cell := h18
    g__law_drawn := He.glo_ok X G (c.d.fact 46 (f := .glo "_law_drawn") (by rfl))
    f__law_drawn := h19
    g__law_none := He.glo_ok X G (c.d.fact 47 (f := .glo "_law_none") (by rfl))
    f__law_none := h20
    g__law_tower := He.glo_ok X G (c.d.fact 48 (f := .glo "_law_tower") (by rfl))
    f__law_tower := h21
    g__law_texts := He.glo_ok X G (c.d.fact 49 (f := .glo "_law_texts") (by rfl))
    f__law_texts := h22
    g__law_pairs := He.glo_ok X G (c.d.fact 50 (f := .glo "_law_pairs") (by rfl))
    f__law_pairs := h23
    g__law_nots := He.glo_ok X G (c.d.fact 51 (f := .glo "_law_nots") (by rfl))
    f__law_nots := h24
    g_law := He.glo_ok X G (c.d.fact 52 (f := .glo "law") (by rfl))
    f_law := h25
    g__law_told := He.glo_ok X G (c.d.fact 53 (f := .glo "_law_told") (by rfl))
    f__law_told := h26
    g__law_word := He.glo_ok X G (c.d.fact 54 (f := .glo "_law_word") (by rfl))
    f__law_word := h27 }⟩
end Kk51
open PySem PySem.W PySem.Calls PyProof.Rows
theorem PySem.Challenge.cw_trywright_k51_choices_refused_holds : PySem.Challenge.rw_trywright_k51_choices_refused.Holds := by
  w_on; o_law
  refine HandSHeadRun.head_any (r := OpenLaw.row PySem.Challenge.rw_trywright_k51_choices_refused) (q := view (OpenLaw.row PySem.Challenge.rw_trywright_k51_choices_refused).prog [42]) (H := Kk51.hk) (ob := Kk51.ob) (M := 20000) (loose := Kk51.loose) (d := HandSHeadRun.topDef (OpenLaw.row PySem.Challenge.rw_trywright_k51_choices_refused).prog 42) (kwd := []) Kk51.ob_eq
    (by kernel_rfl) (fun s => by kernel_rfl) Kk51.run (by kernel_rfl) (by kernel_rfl) (by kernel_rfl) (by rfl) (by first | assumption | decide +kernel) (by decide +kernel) ⟨rfl, rfl, rfl, rfl, rfl, by decide +kernel⟩ ?hw ?hc
  case hw => w_witness2
  case hc =>
    refine LamX.walk_ofTsE (l := PySem.Challenge.rw_trywright_k51_choices_refused) (n := 63) (k := 117) (x := "_law_script") (CX := fun w => L2N.CX PySem.Challenge.rw_trywright_k51_choices_refused.prog w) rfl (by decide) (by kernel_rfl) ⟨rfl, by decide, by decide⟩ ?F BV.cx_none
    intro w mg fa h Y G hmg0
    obtain ⟨K, KX, c⟩ := Y
    have hx : (WD.wgB K && decide ((Kk51.tf.map fun p => (He.cT K p).2).Nodup)) = true := Kk51.exk c.more (n := 0) rfl
    rw [Bool.and_eq_true] at hx
    have nd := of_decide_eq_true hx.2
    have hmg : mg "law" = some (.ref fa) := by
      have e : (HandSHeadRun.topDef (OpenLaw.row PySem.Challenge.rw_trywright_k51_choices_refused).prog 42).name = "law" := by kernel_rfl
      rw [← e]
      exact hmg0
    obtain ⟨fd, g⟩ := Kk51.gx KX G c.t c.more
    have e := hmg.symm.trans g.g_law
    cases e
    have b := L2.FunD.bindsA (ps := ["_law_script"]) g.f_law fun _ _ _ _ _ _ us hl => match us, hl with | [_], _ => rfl
    refine ⟨K, KX, fd 25, Kk51.tf.map (He.cT K), BV.spD K mg (Kk51.TT K) 1 .v Kk51.law_f, fun p hp => ?_, fun p hp => ?_, fun p hp => ?_, fun s v => b s [v] rfl, fun H a ns hl hb hT hS => BV.law_spT (Nat.le_trans hl (by decide)) (fun p hp => ?_) hS (Kk51.law_true ns hl hb), fun base _ _ tb => Kk51.ok_law g (fun p hp => tb _ (List.mem_map.mpr ⟨p, hp, rfl⟩)) nd⟩
    · obtain ⟨q, hq, rfl⟩ := List.mem_map.mp hp
      exact c.empty q hq
    · obtain ⟨q, hq, rfl⟩ := List.mem_map.mp hp
      exact c.out q hq
    · obtain ⟨q, hq, rfl⟩ := List.mem_map.mp hp
      exact PySem.W.codeHd_of_K KX (c.hd q hq)
    · obtain ⟨q, hq, rfl⟩ := List.mem_map.mp hp
      exact hT (He.cT K q) (List.mem_map.mpr ⟨q, hq, rfl⟩)
