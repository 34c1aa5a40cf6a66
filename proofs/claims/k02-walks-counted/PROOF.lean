import PyProof.Rows.All
import HandS.ForMost
import HandS.Exc
import HandS.ExcOwn
import HandS.ExcValue
import HandS.TryOnly
import HandS.WordsExc
import HandS.Lambda
import HandS.EndTab
import HandS.TupAny
import HandS.IsInst
import HandS.Deep
import KE.SortData
import HandS.Conv
import HandS.TupLen
import HandS.SortInts
import KE.GoesEnum
import KE.GoesZip
import HandS.Walk
import HandS.Zip
import HandS.DictComp
import HandS.Style
import HandS.ExcIs
import KE.KNestM
import KE.IntBitsLaws
import PySem.Challenge.RW_turnless_k02_whole_walks_counted
set_option Elab.async false
set_option linter.all false
set_option maxRecDepth 100000
set_option maxHeartbeats 4000000
namespace Tn
open PySem PySem.Spec PyProof.Rows L2

/-! ## trees and values -/
/-- what a Python value is, as a tree; und: no value; ref: a thing of the store; exc: an exception -/
inductive D where
  | und | non | bl (b : Bool) | int (i : Int) | str (s : Str)
  | tup (ds : List D) | lst (ds : List D) | dct (ks vs : List D)
  | ref (a : Addr) | exc (c : Addr) (ns : List Str) (fs : List D) | scr (ds : List D)

/-- a key of a dict as a tree -/
def kD : Key → D
  | .inl i => .int i
  | .inr s => .str s

/-- frozen: nobody writes it any more -/
def Fz (o : HO) : Prop := (∃ xs, o = .tup xs) ∨ ∃ ob u, o = .frz ob u
/-- what is frozen stays -/
def Fx (H H' : Hp) : Prop := ∀ a o, H a = some o → Fz o → H' a = some o
theorem Fx.refl (H : Hp) : Fx H H := fun _ _ h _ => h
theorem Fx.trans {H H1 H2 : Hp} (a : Fx H H1) (b : Fx H1 H2) : Fx H H2 := fun c o h f => b c o (a c o h f) f

/-- a frozen list -/
def LstAt (H : Hp) (a : Addr) (xs : List V) : Prop := ∃ o, H a = some (.frz o (.lst xs))
theorem LstAt.rd {H : Hp} {a : Addr} {xs : List V} (h : LstAt H a xs) : Rd H a (.lst xs) := .inr h
theorem LstAt.sq {K : PySem.W.Frag} {H : Hp} {a : Addr} {xs : List V} (h : LstAt H a xs) : SqL K H a xs := .inl (.inr h)
/-- a frozen dict, by its pairs -/
def DctAt (H : Hp) (a : Addr) (u : HO) : Prop := ∃ o, H a = some (.frz o u)
/-- a caught exception -/
def ExcAt (H : Hp) (a c : Addr) (ns : List Str) (xs : List V) : Prop :=
  ∃ (oe : Obj) (dx : Option Addr), H a = some (.frz oe (.ext fun h => h.get? a = some oe)) ∧ Zc (.ref c) dx oe ∧ (∃ vs, oe.data = .fields vs) ∧
    ((dx = none ∧ ns = [] ∧ xs = []) ∨ ∃ d od, dx = some d ∧ H d = some (.frz od (.xd (ns.zip xs))) ∧ ns.length = xs.length ∧ ns ≠ [])
/-- the script: frozen, or one of the module's own -/
def ScrAt (K : PySem.W.Frag) (H : Hp) (a : Addr) (xs : List V) : Prop := LstAt H a xs ∨
  ∃ (o : Obj) (its : Array Value) (n : Nat), K.lookup a = some o ∧ o.cls = .type "list" ∧ o.dict = none ∧ o.data = .seq its n ∧ its.size ≤ sizeLine ∧ Vals xs its.toList
theorem ScrAt.sq {K : PySem.W.Frag} {H : Hp} {a : Addr} {xs : List V} (h : ScrAt K H a xs) : SqL K H a xs := by
  rcases h with h | h
  · exact h.sq
  · exact .inr h
/-- how a dict's pairs are told -/
def DctOf (u : HO) (ks : List D) (xs : List V) : Prop :=
  ∃ kvs : List (Key × V), u = .dK kvs ∧ kvs.map (fun p => kD p.1) = ks ∧ kvs.map (·.2) = xs

mutual
/-- the value v is the tree d in the heap H, and stays so -/
def RV (K : PySem.W.Frag) (H : Hp) : D → V → Prop
  | .und, _ => False
  | .non, v => v = .non
  | .bl b, v => v = .bl b
  | .int i, v => v = .int i
  | .str s, v => v = .str s
  | .tup ds, v => ∃ a xs, v = .ref a ∧ SqT K H a xs ∧ RVs K H ds xs
  | .lst ds, v => ∃ a xs, v = .ref a ∧ LstAt H a xs ∧ RVs K H ds xs
  | .dct ks vs, v => ∃ a xs u, v = .ref a ∧ DctAt H a u ∧ DctOf u ks xs ∧ RVs K H vs xs
  | .ref a, v => v = .ref a
  | .exc c ns fs, v => ∃ a xs, v = .ref a ∧ ExcAt H a c ns xs ∧ RVs K H fs xs
  | .scr ds, v => ∃ a xs, v = .ref a ∧ ScrAt K H a xs ∧ RVs K H ds xs
def RVs (K : PySem.W.Frag) (H : Hp) : List D → List V → Prop
  | [], vs => vs = []
  | d :: ds, vs => ∃ v r, vs = v :: r ∧ RV K H d v ∧ RVs K H ds r
end

section
variable {K : PySem.W.Frag} {H H' H1 : Hp}
theorem SqT.fx {a : Addr} {xs : List V} (f : Fx H H') (h : SqT K H a xs) : SqT K H' a xs := by
  rcases h with (h | ⟨o, h⟩) | h
  · exact .inl (.inl (f _ _ h (.inl ⟨_, rfl⟩)))
  · exact .inl (.inr ⟨o, f _ _ h (.inr ⟨_, _, rfl⟩)⟩)
  · exact .inr h
theorem LstAt.fx {a : Addr} {xs : List V} (f : Fx H H') (h : LstAt H a xs) : LstAt H' a xs := by
  obtain ⟨o, h⟩ := h
  exact ⟨o, f _ _ h (.inr ⟨_, _, rfl⟩)⟩
theorem ScrAt.fx {a : Addr} {xs : List V} (f : Fx H H') (h : ScrAt K H a xs) : ScrAt K H' a xs := by
  rcases h with h | h
  · exact .inl (h.fx f)
  · exact .inr h
theorem DctAt.fx {a : Addr} {u : HO} (f : Fx H H') (h : DctAt H a u) : DctAt H' a u := by
  obtain ⟨o, h⟩ := h
  exact ⟨o, f _ _ h (.inr ⟨_, _, rfl⟩)⟩
theorem ExcAt.fx {a c : Addr} {ns : List Str} {xs : List V} (f : Fx H H') (h : ExcAt H a c ns xs) : ExcAt H' a c ns xs := by
  obtain ⟨oe, dx, h1, h2, h3, h4⟩ := h
  refine ⟨oe, dx, f _ _ h1 (.inr ⟨_, _, rfl⟩), h2, h3, ?_⟩
  rcases h4 with h4 | ⟨d, od, e1, e2, e3⟩
  · exact .inl h4
  · exact .inr ⟨d, od, e1, f _ _ e2 (.inr ⟨_, _, rfl⟩), e3⟩
mutual
theorem RV.fx (f : Fx H H') : ∀ (d : D) {v : V}, RV K H d v → RV K H' d v
  | .und, _, h => h
  | .non, _, h => h
  | .bl _, _, h => h
  | .int _, _, h => h
  | .str _, _, h => h
  | .tup ds, v, h => by
    unfold RV at h ⊢
    obtain ⟨a, xs, e, q, r⟩ := h
    exact ⟨a, xs, e, SqT.fx f q, RVs.fx f ds r⟩
  | .lst ds, v, h => by
    unfold RV at h ⊢
    obtain ⟨a, xs, e, q, r⟩ := h
    exact ⟨a, xs, e, LstAt.fx f q, RVs.fx f ds r⟩
  | .dct ks vs, v, h => by
    unfold RV at h ⊢
    obtain ⟨a, xs, u, e, q, q2, r⟩ := h
    exact ⟨a, xs, u, e, q.fx f, q2, RVs.fx f vs r⟩
  | .ref _, _, h => h
  | .exc c ns fs, v, h => by
    unfold RV at h ⊢
    obtain ⟨a, xs, e, q, r⟩ := h
    exact ⟨a, xs, e, q.fx f, RVs.fx f fs r⟩
  | .scr ds, v, h => by
    unfold RV at h ⊢
    obtain ⟨a, xs, e, q, r⟩ := h
    exact ⟨a, xs, e, q.fx f, RVs.fx f ds r⟩
theorem RVs.fx (f : Fx H H') : ∀ (ds : List D) {vs : List V}, RVs K H ds vs → RVs K H' ds vs
  | [], _, h => h
  | d :: ds, vs, h => by
    unfold RVs at h ⊢
    obtain ⟨v, r, e, h1, h2⟩ := h
    exact ⟨v, r, e, RV.fx f d h1, RVs.fx f ds h2⟩
end
theorem RVs.nil_iff {vs : List V} : RVs K H [] vs ↔ vs = [] := by unfold RVs; exact Iff.rfl
theorem RVs.cons_iff {d : D} {ds : List D} {vs : List V} : RVs K H (d :: ds) vs ↔ ∃ v r, vs = v :: r ∧ RV K H d v ∧ RVs K H ds r := by
  constructor
  · intro h; unfold RVs at h; exact h
  · intro h; unfold RVs; exact h
theorem RVs.mk {d : D} {ds : List D} {v : V} {vs : List V} (h : RV K H d v) (hs : RVs K H ds vs) : RVs K H (d :: ds) (v :: vs) := RVs.cons_iff.mpr ⟨v, vs, rfl, h, hs⟩
theorem RVs.length : ∀ {ds : List D} {vs : List V}, RVs K H ds vs → ds.length = vs.length
  | [], vs, h => by rw [RVs.nil_iff.mp h]; rfl
  | d :: ds, vs, h => by
    obtain ⟨v, r, e, _, h2⟩ := RVs.cons_iff.mp h
    rw [e, List.length_cons, List.length_cons, RVs.length h2]
theorem RVs.app : ∀ {ds es : List D} {vs ws : List V}, RVs K H ds vs → RVs K H es ws → RVs K H (ds ++ es) (vs ++ ws)
  | [], es, vs, ws, h, h2 => by rw [RVs.nil_iff.mp h]; exact h2
  | d :: ds, es, vs, ws, h, h2 => by
    obtain ⟨v, r, e, h3, h4⟩ := RVs.cons_iff.mp h
    rw [e]
    exact RVs.mk h3 (RVs.app h4 h2)
theorem RVs.get : ∀ {ds : List D} {vs : List V} {i : Nat} {d : D}, RVs K H ds vs → ds[i]? = some d → ∃ v, vs[i]? = some v ∧ RV K H d v
  | [], _, _, _, _, h => by simp at h
  | d :: ds, vs, 0, x, h, e => by
    obtain ⟨v, r, e2, h3, h4⟩ := RVs.cons_iff.mp h
    simp at e
    subst e
    exact ⟨v, by rw [e2]; rfl, h3⟩
  | d :: ds, vs, i + 1, x, h, e => by
    obtain ⟨v, r, e2, h3, h4⟩ := RVs.cons_iff.mp h
    obtain ⟨w, h5, h6⟩ := RVs.get (i := i) h4 (by simpa using e)
    exact ⟨w, by rw [e2]; simpa using h5, h6⟩
theorem RVs.get' {ds : List D} {vs : List V} {i : Nat} {v : V} (h : RVs K H ds vs) (e : vs[i]? = some v) : ∃ d, ds[i]? = some d ∧ RV K H d v := by
  have hl := h.length
  have hi : i < vs.length := (List.getElem?_eq_some_iff.mp e).1
  obtain ⟨w, h1, h2⟩ := h.get (i := i) (d := ds[i]) (List.getElem?_eq_getElem (by omega))
  rw [e] at h1
  cases h1
  exact ⟨_, List.getElem?_eq_getElem (by omega), h2⟩
theorem RVs.set : ∀ {ds : List D} {vs : List V} {i : Nat} {d : D} {v : V}, RVs K H ds vs → RV K H d v → RVs K H (ds.set i d) (vs.set i v)
  | [], vs, i, _, _, h, _ => by rw [RVs.nil_iff.mp h]; exact RVs.nil_iff.mpr rfl
  | e :: ds, vs, 0, d, v, h, q => by
    obtain ⟨w, r, e2, h3, h4⟩ := RVs.cons_iff.mp h
    rw [e2]
    exact RVs.mk q h4
  | e :: ds, vs, i + 1, d, v, h, q => by
    obtain ⟨w, r, e2, h3, h4⟩ := RVs.cons_iff.mp h
    rw [e2]
    exact RVs.mk h3 (RVs.set h4 q)
theorem RVs.take : ∀ {ds : List D} {vs : List V} (n : Nat), RVs K H ds vs → RVs K H (ds.take n) (vs.take n)
  | [], vs, n, h => by rw [RVs.nil_iff.mp h]; simpa using RVs.nil_iff.mpr rfl
  | e :: ds, vs, 0, h => RVs.nil_iff.mpr rfl
  | e :: ds, vs, n + 1, h => by
    obtain ⟨w, r, e2, h3, h4⟩ := RVs.cons_iff.mp h
    rw [e2]
    exact RVs.mk h3 (RVs.take n h4)
theorem RVs.drop : ∀ {ds : List D} {vs : List V} (n : Nat), RVs K H ds vs → RVs K H (ds.drop n) (vs.drop n)
  | [], vs, n, h => by rw [RVs.nil_iff.mp h]; simpa using RVs.nil_iff.mpr rfl
  | e :: ds, vs, 0, h => h
  | e :: ds, vs, n + 1, h => by
    obtain ⟨w, r, e2, h3, h4⟩ := RVs.cons_iff.mp h
    rw [e2]
    exact RVs.drop n h4
end

/-! ## the store -/
/-- a thing that may change: a dict, a list -/
inductive MC where
  | dct (ks vs : List D) | lst (ds : List D)
abbrev Mem := Addr → Option MC
def Mem.set (M : Mem) (p : Addr) (c : MC) : Mem := fun b => if b = p then some c else M b
theorem Mem.set_same (M : Mem) (p : Addr) (c : MC) : (M.set p c) p = some c := by unfold Mem.set; rw [if_pos rfl]
theorem Mem.set_ne (M : Mem) {p b : Addr} (c : MC) (h : b ≠ p) : (M.set p c) b = M b := by unfold Mem.set; rw [if_neg h]
theorem Mem.set_set (M : Mem) (p : Addr) (c c' : MC) : (M.set p c).set p c' = M.set p c' := by
  funext b; unfold Mem.set; split <;> rfl
/-- nothing of it can change -/
def imm : D → Bool
  | .non => true
  | .bl _ => true
  | .int _ => true
  | .str _ => true
  | .ref _ => true
  | .tup ds => imms ds
  | _ => false
where imms : List D → Bool
  | [] => true
  | d :: ds => imm d && imms ds

section
variable (K : PySem.W.Frag)
def MCat (H : Hp) (p : Addr) : MC → Prop
  | .dct ks vs => ∃ xs u, H p = some u ∧ DctOf u ks xs ∧ RVs K H vs xs
  | .lst ds => ∃ xs, H p = some (.lst xs) ∧ RVs K H ds xs
def MOk (M : Mem) (H : Hp) : Prop := ∀ p c, M p = some c → MCat K H p c
/-- nothing is at b, or a table -/
def Nw (H : Hp) (b : Addr) : Prop := ∀ o, H b = some o → ∃ ps, o = .tbl ps
theorem nw_of {H : Hp} {b : Addr} (h : H b = none) : Nw H b := fun o e => by rw [h] at e; cases e
/-- from (M, H) to (M', H'): all that was is as it was but the store; T: the tables that may have grown -/
structure Stp (T : List (Addr × Str)) (M : Mem) (H : Hp) (M' : Mem) (H' : Hp) : Prop where
  kp : ∀ b o, H b = some o → (M b = none ∨ Fz o) → (T = [] ∨ ∀ ps, o ≠ .tbl ps) → H' b = some o
  th : ∀ b, Nw H' b → Nw H b
  tb : LamX.Tabs T H → LamX.Tabs T H'
  mo : MOk K M' H'
  dm : ∀ b, M b ≠ none → M' b ≠ none
  dn : ∀ b, M' b ≠ none → M b ≠ none ∨ Nw H b
end
section
variable {K : PySem.W.Frag} {T : List (Addr × Str)} {M M1 M2 : Mem} {H H1 H2 : Hp}
theorem DctOf.notFz {u : HO} {ks : List D} {xs : List V} (d : DctOf u ks xs) : ¬ Fz u := fun f => by
  obtain ⟨_, rfl, _⟩ := d
  rcases f with ⟨_, e⟩ | ⟨_, _, e⟩ <;> cases e
theorem MCat.notFz {p : Addr} {c : MC} (h : MCat K H p c) : ∃ o, H p = some o ∧ ¬ Fz o ∧ ∀ ps, o ≠ .tbl ps := by
  cases c with
  | dct ks vs =>
    obtain ⟨xs, u, h, d, _⟩ := h
    refine ⟨u, h, d.notFz, fun ps e => ?_⟩
    obtain ⟨_, rfl, _⟩ := d
    cases e
  | lst ds =>
    obtain ⟨xs, h, _⟩ := h
    refine ⟨_, h, fun f => ?_, fun ps e => by cases e⟩
    rcases f with ⟨_, e⟩ | ⟨_, _, e⟩ <;> cases e
theorem Stp.fx (s : Stp K T M H M1 H1) : Fx H H1 := fun a o h f => s.kp a o h (.inr f) (.inr fun ps e => by
  subst e
  rcases f with ⟨_, e⟩ | ⟨_, _, e⟩ <;> cases e)
theorem Stp.refl (h : MOk K M H) : Stp K T M H M H := ⟨fun _ _ h _ _ => h, fun _ h => h, fun h => h, h, fun _ h => h, fun _ h => .inl h⟩
theorem Stp.trans (a : Stp K T M H M1 H1) (b : Stp K T M1 H1 M2 H2) : Stp K T M H M2 H2 where
  kp := fun c o h q t => b.kp c o (a.kp c o h q t) (by
    rcases q with q | q
    · cases e : M1 c with
      | none => exact .inl rfl
      | some z =>
        rcases a.dn c (by rw [e]; simp) with n | n
        · exact absurd q n
        · obtain ⟨ps, rfl⟩ := n o h
          rcases t with t | t
          · have k := a.kp c _ h (.inl q) (.inl t)
            obtain ⟨u, h1, _, h3⟩ := MCat.notFz (a.mo c z e)
            rw [k] at h1
            cases h1
            exact absurd rfl (h3 ps)
          · exact absurd rfl (t ps)
    · exact .inr q) t
  th := fun c h => a.th c (b.th c h)
  tb := fun h => b.tb (a.tb h)
  mo := b.mo
  dm := fun c h => b.dm c (a.dm c h)
  dn := fun c h => by
    rcases b.dn c h with n | n
    · exact a.dn c n
    · exact .inr (a.th c n)
theorem MOk.none_of {p : Addr} (m : MOk K M H) (h : H p = none) : M p = none := by
  cases e : M p with
  | none => rfl
  | some c =>
    obtain ⟨o, h1, _⟩ := (m p c e).notFz
    rw [h] at h1; cases h1
theorem MOk.fx (m : MOk K M H) (f : Fx H H1) (k : ∀ p, M p ≠ none → H1 p = H p) : MOk K M H1 := fun p c e => by
  have hp := k p (by rw [e]; simp)
  have := m p c e
  cases c with
  | dct ks vs =>
    obtain ⟨xs, u, h, d, r⟩ := this
    exact ⟨xs, u, hp.trans h, d, RVs.fx f _ r⟩
  | lst ds =>
    obtain ⟨xs, h, r⟩ := this
    exact ⟨xs, hp.trans h, RVs.fx f _ r⟩
/-- a new thing is laid -/
theorem Stp.laid {p : Addr} {o : HO} (m : MOk K M H) (hp : H p = none) : Stp K T M H M (upd H p o) := by
  have ne : ∀ b u, H b = some u → b ≠ p := fun b u e z => by rw [z, hp] at e; cases e
  have sm : ∀ b u, H b = some u → upd H p o b = some u := fun b u e => by rw [upd_ne (ne b u e)]; exact e
  refine ⟨fun b u e _ _ => sm b u e, fun b h => ?_, fun h => h.ext sm, m.fx (fun b u e _ => sm b u e) fun q hq => ?_, fun _ h => h, fun _ h => .inl h⟩
  · intro u e
    exact h u (sm b u e)
  · exact upd_ne fun z => hq (m.none_of (by rw [z]; exact hp))
end
end Tn

set_option Elab.async false
set_option linter.all false
set_option maxRecDepth 100000
set_option maxHeartbeats 4000000
namespace Tn
open PySem PySem.Spec PyProof.Rows L2

/-! ## what a computation tells -/
abbrev Env := List D
inductive Res (α : Type) where
  | ok (a : α) (m : Mem) | err (c : Addr) (ns : List Str) (fs : List D) (m : Mem) | bad
abbrev EF := Env → Mem → Res D
inductive Ctl where
  | nx (η : Env) | rt (d : D) | bk (η : Env) | ct (η : Env)
abbrev SF := Env → Mem → Res Ctl
def Res.bind {α β : Type} (r : Res α) (k : α → Mem → Res β) : Res β := match r with
  | .ok a m => k a m
  | .err c ns fs m => .err c ns fs m
  | .bad => .bad
@[simp] theorem Res.bind_ok {α β : Type} (a : α) (m : Mem) (k : α → Mem → Res β) : (Res.ok a m).bind k = k a m := by
  unfold Res.bind
  exact Eq.trans rfl rfl
@[simp] theorem Res.bind_err {α β : Type} (c : Addr) (ns : List Str) (fs : List D) (m : Mem) (k : α → Mem → Res β) : (Res.err c ns fs m).bind k = .err c ns fs m := rfl
@[simp] theorem Res.bind_bad {α β : Type} (k : α → Mem → Res β) : (Res.bad : Res α).bind k = .bad := rfl
def Res.opt {α : Type} (o : Option α) (m : Mem) : Res α := match o with
  | some a => .ok a m
  | none => .bad

/-- how surely a value is its tree: view, for now; stable, for ever; fresh, a new list or dict that nobody else knows -/
inductive Gr where | view | stable | fresh

section
variable (K : PySem.W.Frag)
/-- for now -/
def VW (M : Mem) (H : Hp) : D → V → Prop
  | .lst ds, v => ∃ a xs, v = .ref a ∧ ((H a = some (.lst xs) ∧ M a = none) ∨ LstAt H a xs) ∧ RVs K H ds xs
  | .dct ks vs, v => ∃ a xs u, v = .ref a ∧ ((H a = some u ∧ M a = none) ∨ DctAt H a u) ∧ DctOf u ks xs ∧ RVs K H vs xs
  | d, v => RV K H d v
/-- at this moment -/
def VX (H : Hp) : D → V → Prop
  | .lst ds, v => ∃ a xs, v = .ref a ∧ Rd H a (.lst xs) ∧ RVs K H ds xs
  | .dct ks vs, v => ∃ a xs u, v = .ref a ∧ Rd H a u ∧ DctOf u ks xs ∧ RVs K H vs xs
  | d, v => RV K H d v
/-- new behind H0 -/
def FR (H0 : Hp) (M : Mem) (H : Hp) : D → V → Prop
  | .lst ds, v => ∃ a xs, v = .ref a ∧ Nw H0 a ∧ H a = some (.lst xs) ∧ M a = none ∧ RVs K H ds xs
  | .dct ks vs, v => ∃ a xs u, v = .ref a ∧ Nw H0 a ∧ H a = some u ∧ M a = none ∧ DctOf u ks xs ∧ RVs K H vs xs
  | d, v => RV K H d v
def RG (g : Gr) (H0 : Hp) (M : Mem) (H : Hp) (d : D) (v : V) : Prop := match g with
  | .view => VW K M H d v
  | .stable => RV K H d v
  | .fresh => FR K H0 M H d v
end
section
variable {K : PySem.W.Frag} {T : List (Addr × Str)} {M M1 M2 : Mem} {H0 H H1 H2 : Hp} {d : D} {v : V}
theorem RV.vw (h : RV K H d v) : VW K M H d v := by
  cases d with
  | lst ds =>
    unfold RV at h
    obtain ⟨a, xs, e, q, r⟩ := h
    exact ⟨a, xs, e, .inr q, r⟩
  | dct ks vs =>
    unfold RV at h
    obtain ⟨a, xs, u, e, q, q2, r⟩ := h
    exact ⟨a, xs, u, e, .inr q, q2, r⟩
  | _ => exact h
theorem FR.vw (h : FR K H0 M H d v) : VW K M H d v := by
  cases d with
  | lst ds =>
    obtain ⟨a, xs, e, n, q, m, r⟩ := h
    exact ⟨a, xs, e, .inl ⟨q, m⟩, r⟩
  | dct ks vs =>
    obtain ⟨a, xs, u, e, n, q, m, q2, r⟩ := h
    exact ⟨a, xs, u, e, .inl ⟨q, m⟩, q2, r⟩
  | _ => exact h
theorem RG.vw {g : Gr} (h : RG K g H0 M H d v) : VW K M H d v := by
  cases g with
  | view => exact h
  | stable => exact RV.vw h
  | fresh => exact FR.vw h
theorem Stp.mnone (s : Stp K T M H M1 H1) {a : Addr} {o : HO} (h : H a = some o) (n : M a = none) (t : ∀ ps, o ≠ .tbl ps) : M1 a = none := by
  cases e : M1 a with
  | none => rfl
  | some c =>
    rcases s.dn a (by rw [e]; simp) with q | q
    · exact absurd n q
    · obtain ⟨ps, e⟩ := q o h
      exact absurd e (t ps)
theorem DctOf.notTbl {u : HO} {ks : List D} {xs : List V} (d : DctOf u ks xs) : ∀ ps, u ≠ .tbl ps := fun ps e => by
  obtain ⟨_, rfl, _⟩ := d
  cases e
theorem VW.stp (s : Stp K T M H M1 H1) (h : VW K M H d v) : VW K M1 H1 d v := by
  cases d with
  | lst ds =>
    obtain ⟨a, xs, e, q, r⟩ := h
    refine ⟨a, xs, e, ?_, RVs.fx s.fx _ r⟩
    rcases q with ⟨q, m⟩ | q
    · exact .inl ⟨s.kp a _ q (.inl m) (.inr fun ps e => by cases e), s.mnone q m fun ps e => by cases e⟩
    · exact .inr (q.fx s.fx)
  | dct ks vs =>
    obtain ⟨a, xs, u, e, q, q2, r⟩ := h
    refine ⟨a, xs, u, e, ?_, q2, RVs.fx s.fx _ r⟩
    rcases q with ⟨q, m⟩ | q
    · exact .inl ⟨s.kp a _ q (.inl m) (.inr q2.notTbl), s.mnone q m q2.notTbl⟩
    · exact .inr (q.fx s.fx)
  | _ => exact RV.fx s.fx _ h
theorem VW.vx (h : VW K M H d v) : VX K H d v := by
  cases d with
  | lst ds =>
    obtain ⟨a, xs, e, q, r⟩ := h
    refine ⟨a, xs, e, ?_, r⟩
    rcases q with ⟨q, _⟩ | q
    · exact .inl q
    · exact q.rd
  | dct ks vs =>
    obtain ⟨a, xs, u, e, q, q2, r⟩ := h
    refine ⟨a, xs, u, e, ?_, q2, r⟩
    rcases q with ⟨q, _⟩ | ⟨o, q⟩
    · exact .inl q
    · exact .inr ⟨o, q⟩
  | _ => exact h
theorem VX.rd {ds : List D} (h : VX K H (.lst ds) v) : ∃ a xs, v = .ref a ∧ Rd H a (.lst xs) ∧ RVs K H ds xs := h
theorem VX.sq {ds : List D} (h : VX K H (.lst ds) v) : ∃ a xs, v = .ref a ∧ SqL K H a xs ∧ RVs K H ds xs := by
  obtain ⟨a, xs, e, q, r⟩ := h
  exact ⟨a, xs, e, .inl q, r⟩
theorem VX.tup {ds : List D} (h : VX K H (.tup ds) v) : ∃ a xs, v = .ref a ∧ SqT K H a xs ∧ RVs K H ds xs := by
  have h' : RV K H (.tup ds) v := h
  unfold RV at h'
  exact h'
/-- what the store holds under a reference -/
def mcD (p : Addr) : Option MC → D
  | some (.dct ks vs) => .dct ks vs
  | some (.lst ds) => .lst ds
  | none => .ref p
def deref (M : Mem) : D → D
  | .ref p => mcD p (M p)
  | d => d
theorem VX.deref (m : MOk K M H) (h : VX K H d v) : VX K H (deref M d) v := by
  cases d with
  | ref p =>
    have e : v = .ref p := h
    show VX K H (mcD p (M p)) v
    cases e2 : M p with
    | none => exact h
    | some c =>
      have q := m p c e2
      cases c with
      | dct ks vs =>
        obtain ⟨xs, u, h1, h2, h3⟩ := q
        exact ⟨p, xs, u, e, .inl h1, h2, h3⟩
      | lst ds =>
        obtain ⟨xs, h1, h3⟩ := q
        exact ⟨p, xs, e, .inl h1, h3⟩
  | _ => exact h
/-- behind a step the newness still counts from the earlier heap -/
theorem FR.back (th : ∀ b, Nw H1 b → Nw H b) (h : FR K H1 M2 H2 d v) : FR K H M2 H2 d v := by
  have key := th
  cases d with
  | lst ds =>
    obtain ⟨a, xs, e, n, q⟩ := h
    exact ⟨a, xs, e, key a n, q⟩
  | dct ks vs =>
    obtain ⟨a, xs, u, e, n, q⟩ := h
    exact ⟨a, xs, u, e, key a n, q⟩
  | _ => exact h
theorem RG.back {g : Gr} (th : ∀ b, Nw H1 b → Nw H b) (h : RG K g H1 M2 H2 d v) : RG K g H M2 H2 d v := by
  cases g with
  | view => exact h
  | stable => exact h
  | fresh => exact FR.back th h
theorem RG.scal {g : Gr} (h1 : ∀ ds, d ≠ .lst ds) (h2 : ∀ ks vs, d ≠ .dct ks vs) (h : RV K H d v) : RG K g H0 M H d v := by
  cases d with
  | lst ds => exact absurd rfl (h1 ds)
  | dct ks vs => exact absurd rfl (h2 ks vs)
  | _ => cases g <;> exact h
end

/-! ## slots -/
/-- how a slot is held: st, stable; ow, its list or dict is this frame's alone; vw, to be looked at for now -/
inductive Ow where | st | ow | vw
  deriving DecidableEq
/-- the list or dict that slot i owns -/
def Owns (σ : L2.St) (η : Env) (i : Nat) (a : Addr) : Prop := σ[i]? = some (some (V.ref a)) ∧ ((∃ ds, (η[i]? : Option D) = some (D.lst ds)) ∨ ∃ ks vs, (η[i]? : Option D) = some (D.dct ks vs))
def SlR (K : PySem.W.Frag) (H0 : Hp) (M : Mem) (H : Hp) (o : Ow) (d : D) (v : V) : Prop := match o with
  | .st => RV K H d v
  | .ow => FR K H0 M H d v
  | .vw => VW K M H d v ∧ (((∃ ds, d = .lst ds) ∨ ∃ ks vs, d = .dct ks vs) → ∀ a, v = .ref a → ¬ Nw H0 a)
def isOw : Ow → Bool
  | .ow => true
  | _ => false
structure StR (K : PySem.W.Frag) (H0 : Hp) (T : List (Addr × Str)) (M0 : Mem) (own : List Ow) (σ : L2.St) (H : Hp) (η : Env) (M : Mem) : Prop where
  st : Stp K T M0 H0 M H
  tabs : LamX.Tabs T H
  sl : ∀ (i : Nat) (d : D), (η[i]? : Option D) = some d → d ≠ .und → ∃ v, σ[i]? = some (some v) ∧ SlR K H0 M H (own.getD i .st) d v
  ap : ∀ (i j : Nat) (a : Addr), own.getD i .st = .ow → Owns σ η i a → Owns σ η j a → own.getD j .st = .ow → i = j
  len : η.length = σ.length
/-- the same for expressions: what is owned is looked at -/
structure StE (K : PySem.W.Frag) (T : List (Addr × Str)) (own : List Ow) (σ : L2.St) (H : Hp) (η : Env) (M : Mem) : Prop where
  mo : MOk K M H
  tabs : LamX.Tabs T H
  sl : ∀ (i : Nat) (d : D), (η[i]? : Option D) = some d → d ≠ .und → ∃ v, σ[i]? = some (some v) ∧ VW K M H d v ∧ (own.getD i .st = .st → RV K H d v)
  len : η.length = σ.length
theorem FR.stp {K : PySem.W.Frag} {T : List (Addr × Str)} {M M1 : Mem} {H0 H H1 : Hp} {d : D} {v : V} (s : Stp K T M H M1 H1) (h : FR K H0 M H d v) : FR K H0 M1 H1 d v := by
  cases d with
  | lst ds =>
    obtain ⟨a, xs, e, n, q, m, r⟩ := h
    exact ⟨a, xs, e, n, s.kp a _ q (.inl m) (.inr fun ps e => by cases e), s.mnone q m (fun ps e => by cases e), RVs.fx s.fx _ r⟩
  | dct ks vs =>
    obtain ⟨a, xs, u, e, n, q, m, q2, r⟩ := h
    exact ⟨a, xs, u, e, n, s.kp a _ q (.inl m) (.inr q2.notTbl), s.mnone q m q2.notTbl, q2, RVs.fx s.fx _ r⟩
  | _ => exact RV.fx s.fx _ h
theorem SlR.stp {K : PySem.W.Frag} {T : List (Addr × Str)} {M M1 : Mem} {H0 H H1 : Hp} {o : Ow} {d : D} {v : V} (s : Stp K T M H M1 H1) (h : SlR K H0 M H o d v) : SlR K H0 M1 H1 o d v := by
  cases o with
  | st => exact RV.fx s.fx _ h
  | ow => exact FR.stp s h
  | vw => exact ⟨VW.stp s h.1, h.2⟩
theorem SlR.vw {K : PySem.W.Frag} {M : Mem} {H0 H : Hp} {o : Ow} {d : D} {v : V} (h : SlR K H0 M H o d v) : VW K M H d v := by
  cases o with
  | st => exact RV.vw h
  | ow => exact FR.vw h
  | vw => exact h.1
section
variable {K : PySem.W.Frag} {H0 : Hp} {T : List (Addr × Str)} {M0 M M1 : Mem} {own : List Ow} {σ : L2.St} {H H1 : Hp} {η : Env}
theorem StR.e (S : StR K H0 T M0 own σ H η M) : StE K T own σ H η M where
  mo := S.st.mo
  tabs := S.tabs
  sl := fun i d h1 h2 => by
    obtain ⟨v, e, q⟩ := S.sl i d h1 h2
    exact ⟨v, e, q.vw, fun z => by rw [z] at q; exact q⟩
  len := S.len
theorem StE.stp (S : StE K T own σ H η M) (s : Stp K T M H M1 H1) : StE K T own σ H1 η M1 where
  mo := s.mo
  tabs := s.tb S.tabs
  sl := fun i d h1 h2 => by
    obtain ⟨v, e, q, q2⟩ := S.sl i d h1 h2
    exact ⟨v, e, q.stp s, fun z => RV.fx s.fx _ (q2 z)⟩
  len := S.len
theorem StR.stp (S : StR K H0 T M0 own σ H η M) (s : Stp K T M H M1 H1) : StR K H0 T M0 own σ H1 η M1 where
  st := S.st.trans s
  tabs := s.tb S.tabs
  sl := fun i d h1 h2 => by
    obtain ⟨v, e, q⟩ := S.sl i d h1 h2
    exact ⟨v, e, q.stp s⟩
  ap := S.ap
  len := S.len
end

/-! ## judgements -/
/-- an exception's own dict -/
def XF (K : PySem.W.Frag) (H : Hp) (oe : Option Addr) (ns : List Str) (fs : List D) : Prop :=
  (oe = none ∧ ns = [] ∧ fs = []) ∨ ∃ d xs, oe = some d ∧ H d = some (.xd (ns.zip xs)) ∧ ns.length = xs.length ∧ ns ≠ [] ∧ RVs K H fs xs
/-- what is asked of an expression that tells r -/
def RunE (K : PySem.W.Frag) (T : List (Addr × Str)) (W : WX) (g : Gr) (σ : L2.St) (H : Hp) (M : Mem) (r : Res D) (Q : VK) : Prop := match r with
  | .ok d M' => ∀ v H', Stp K T M H M' H' → RG K g H M' H' d v → Q v H'
  | .err c ns fs M' => ∀ oe H', Stp K T M H M' H' → XF K H' oe ns fs → W (.ref c) oe σ H'
  | .bad => False
/-- the surroundings of a derivation -/
structure Cn where
  X : Cx
  T : List (Addr × Str)
  M0 : Mem
  H0 : Hp
  W : WX
def tD (C : Cn) (g : Gr) (own : List Ow) (F : EF) : TE := fun σ H Q => ∃ η M, StE C.X.K C.T own σ H η M ∧ RunE C.X.K C.T C.W g σ H M (F η M) Q
/-- the expression e tells what F tells -/
def DE (C : Cn) (g : Gr) (own : List Ow) (e : Expr) (F : EF) : Prop := PE C.X e (tD C g own F)
theorem PE.imp {X : Cx} {e : Expr} {t t' : TE} (h : PE X e t) (i : ∀ σ H Q, t' σ H Q → t σ H Q) : PE X e t' := ⟨fun pins s σ H Q I q => h.run pins s σ H Q I (i σ H Q q)⟩
theorem PT.imp {X : Cx} {e : Expr} {t t' : TT} (h : PT X e t) (i : ∀ σ H Q, t' σ H Q → t σ H Q) : PT X e t' := ⟨fun pins s σ H Q I q => h.run pins s σ H Q I (i σ H Q q)⟩
theorem PA.imp {X : Cx} {es : List Expr} {t t' : TA} (h : PA X es t) (i : ∀ σ H Q, t' σ H Q → t σ H Q) : PA X es t' := ⟨fun pos pins s σ H Q I q => h.run pos pins s σ H Q I (i σ H Q q)⟩
theorem PS.imp {X : Cx} {e : Stmt} {t t' : TS} (h : PS X e t) (i : ∀ D σ H, t' D σ H → t D σ H) : PS X e t' := ⟨fun pins s σ H D I q => h.run pins s σ H D I (i D σ H q)⟩
theorem PSs.imp {X : Cx} {e : List Stmt} {t t' : TS} (h : PSs X e t) (i : ∀ D σ H, t' D σ H → t D σ H) : PSs X e t' := ⟨fun pins s σ H D I q => h.run pins s σ H D I (i D σ H q)⟩
/-- an expression, then what is asked behind it -/
theorem RunE.step {C : Cn} {g : Gr} {own : List Ow} {F : EF} {σ : L2.St} {H : Hp} {η : Env} {M : Mem} {β : Type} {k : D → Mem → Res β} {Q : VK} {P : Res β → Prop}
    (S : StE C.X.K C.T own σ H η M) (h : P ((F η M).bind k))
    (he : ∀ c ns fs M', P (.err c ns fs M') → ∀ oe H', Stp C.X.K C.T M H M' H' → XF C.X.K H' oe ns fs → C.W (.ref c) oe σ H') (hb : ¬ P .bad)
    (hq : ∀ d M' v H', P (k d M') → Stp C.X.K C.T M H M' H' → StE C.X.K C.T own σ H' η M' → RG C.X.K g H M' H' d v → Q v H') : tD C g own F σ H Q := by
  refine ⟨η, M, S, ?_⟩
  cases e : F η M with
  | ok d M' =>
    rw [e] at h
    exact fun v H' st rg => hq d M' v H' h st (S.stp st) rg
  | err c ns fs M' =>
    rw [e] at h
    exact he c ns fs M' h
  | bad =>
    rw [e] at h
    exact absurd h hb
end Tn

set_option Elab.async false
set_option linter.all false
set_option maxRecDepth 100000
set_option maxHeartbeats 4000000
namespace Tn
open PySem PySem.Spec PyProof.Rows L2

/-! ## freezing -/
def Frable (u : HO) : Prop := (∃ xs, u = .lst xs) ∨ (∃ k, u = .dK k) ∨ (∃ k, u = .dT k) ∨ (∃ k, u = .ext k) ∨ ∃ k, u = .xd k
theorem DctOf.frable {u : HO} {ks : List D} {xs : List V} (d : DctOf u ks xs) : Frable u := by
  obtain ⟨k, rfl, _⟩ := d
  exact .inr (.inl ⟨_, rfl⟩)
theorem Inv.frz {X : Cx} {pins : List (Addr × Obj)} {σ : L2.St} {H : Hp} {s : Shared} {a : Addr} {u : HO} (I : Inv X pins σ H s) (h : H a = some u) (f : Frable u) :
    ∃ ob, s.heap.get? a = some ob ∧ Inv X pins σ (upd H a (.frz ob u)) s := by
  obtain ⟨ob, hob⟩ := objOk_get (I.hok a u h)
  refine ⟨ob, hob, ?_⟩
  have ne : ∀ b o, H b = some o → ¬ Frable o → b ≠ a := fun b o e n z => by
    rw [z, h] at e
    cases e
    exact n f
  have nt : ∀ xs, ¬ Frable (.tup xs) := fun xs q => by
    rcases q with ⟨_, e⟩ | ⟨_, e⟩ | ⟨_, e⟩ | ⟨_, e⟩ | ⟨_, e⟩ <;> cases e
  have nf : ∀ o v, ¬ Frable (.frz o v) := fun o v q => by
    rcases q with ⟨_, e⟩ | ⟨_, e⟩ | ⟨_, e⟩ | ⟨_, e⟩ | ⟨_, e⟩ <;> cases e
  have nb : ∀ ps, ¬ Frable (.tbl ps) := fun ps q => by
    rcases q with ⟨_, e⟩ | ⟨_, e⟩ | ⟨_, e⟩ | ⟨_, e⟩ | ⟨_, e⟩ <;> cases e
  have no : ∀ x, ¬ Frable (.own x) := fun ps q => by
    rcases q with ⟨_, e⟩ | ⟨_, e⟩ | ⟨_, e⟩ | ⟨_, e⟩ | ⟨_, e⟩ <;> cases e
  have hok : HOk X.prog X.w (upd H a (.frz ob u)) s.heap := fun b o e => by
    by_cases hb : b = a
    · rw [hb, upd_same] at e
      cases e
      rw [hb]
      refine ⟨hob, (I.hok a u h).stay (fun _ _ _ q => q) (fun c q => ?_) fun c xs q => ?_⟩
      · rw [upd_ne (ne c _ q (no _))]; exact q
      · rw [upd_ne (ne c _ q (nt _))]; exact q
    · rw [upd_ne hb] at e
      refine (I.hok b o e).stay (fun _ _ _ q => q) (fun c q => ?_) fun c xs q => ?_
      · rw [upd_ne (ne c _ q (no _))]; exact q
      · rw [upd_ne (ne c _ q (nt _))]; exact q
  refine I.step (g' := s.gens) (d' := s.drawn) (t' := s.toks) (h' := s.heap) (ch := []) (fun b hb => nomatch hb) (fun _ _ _ _ _ e _ => e) (fun b o _ _ _ e _ => ⟨o.slots, e⟩) (fun b o _ e n => ?_) (fun b o _ e => ⟨o, e⟩)
    (fun b xs e => ?_) (fun b o v e => ?_) (fun b ps e => ⟨#[], ?_⟩) (fun _ hm => hm) hok I.bare
  · rw [upd_ne fun z => by rw [z, h] at n; cases n]; exact n
  · rw [upd_ne (ne b _ e (nt _))]; exact e
  · rw [upd_ne (ne b _ e (nf _ _))]; exact e
  · rw [upd_ne (ne b _ e (nb _)), e]; simp

theorem PE.frz {X : Cx} {e : Expr} {t : TE} (h : PE X e t) : PE X e (fun σ H Q => t σ H fun v H' => Q v H' ∨ ∃ a u, Frable u ∧ H' a = some u ∧ ∀ ob, Q v (upd H' a (.frz ob u))) := by
  refine ⟨fun pins s σ H Q I q => thn (h.run pins s σ H _ I q) fun v s1 ⟨x, H1, I1, r, q⟩ => ?_⟩
  rcases q with q | ⟨a, u, f, e, q⟩
  · exact ⟨x, H1, I1, r, q⟩
  · obtain ⟨ob, _, I2⟩ := Inv.frz I1 e f
    exact ⟨x, _, I2, r, q ob⟩

/-- a step that touches one thing, a list or dict, that the store does not hold -/
theorem Tabs.but {T : List (Addr × Str)} {H H1 : Hp} (h : LamX.Tabs T H) (k : ∀ b o, H b = some o → ((∃ ps, o = .tbl ps) ∨ ∃ φ, o = .ext φ) → H1 b = some o) : LamX.Tabs T H1 := fun p hp => by
  obtain ⟨ps, e1, e2, e3⟩ := h p hp
  refine ⟨ps, k _ _ e1 (.inl ⟨_, rfl⟩), e2, fun pos cv hc => ?_⟩
  obtain ⟨c, e4, e5⟩ := e3 pos cv hc
  exact ⟨c, e4, k _ _ e5 (.inr ⟨_, rfl⟩)⟩
/-- the thing of the value itself -/
def plainO (u : HO) : Prop := (∃ xs, u = .lst xs) ∨ (∃ k, u = .dK k) ∨ ∃ k, u = .dT k
theorem plainO.nfz {u : HO} (h : plainO u) : ¬ Fz u := fun f => by
  rcases h with ⟨_, rfl⟩ | ⟨_, rfl⟩ | ⟨_, rfl⟩ <;> rcases f with ⟨_, e⟩ | ⟨_, _, e⟩ <;> cases e
theorem plainO.frable {u : HO} (h : plainO u) : Frable u := by
  rcases h with ⟨_, rfl⟩ | ⟨_, rfl⟩ | ⟨_, rfl⟩
  · exact .inl ⟨_, rfl⟩
  · exact .inr (.inl ⟨_, rfl⟩)
  · exact .inr (.inr (.inl ⟨_, rfl⟩))
theorem DctOf.plain {u : HO} {ks : List D} {xs : List V} (d : DctOf u ks xs) : plainO u := by
  obtain ⟨k, rfl, _⟩ := d
  exact .inr (.inl ⟨_, rfl⟩)
section
variable {K : PySem.W.Frag} {T : List (Addr × Str)} {M M1 : Mem} {H H1 : Hp} {a : Addr} {u o : HO}
/-- behind H1 the thing at a, new since H, is written or frozen -/
theorem Stp.put (s : Stp K T M H M1 H1) (n : Nw H a) (h : H1 a = some u) (p : plainO u) (m : M1 a = none) : Stp K T M H M1 (upd H1 a o) where
  kp := fun b x e q t => by
    have k := s.kp b x e q t
    refine (upd_ne fun z => ?_).trans k
    subst z
    obtain ⟨ps, rfl⟩ := n x e
    rw [h] at k
    cases k
    rcases p with ⟨_, e⟩ | ⟨_, e⟩ | ⟨_, e⟩ <;> cases e
  th := fun b q => by
    by_cases hb : b = a
    · rw [hb]; exact n
    · refine s.th b fun o e => q o ((upd_ne hb).trans e)
  tb := fun q => Tabs.but (s.tb q) fun b x e c => by
    refine (upd_ne fun z => ?_).trans e
    rw [z, h] at e
    cases e
    rcases p with ⟨_, rfl⟩ | ⟨_, rfl⟩ | ⟨_, rfl⟩ <;> rcases c with ⟨_, c⟩ | ⟨_, c⟩ <;> cases c
  mo := s.mo.fx (fun b x e f => (upd_ne fun z => by
    rw [z, h] at e
    cases e
    exact p.nfz f).trans e) fun p q => upd_ne fun z => q (by rw [z]; exact m)
  dm := s.dm
  dn := s.dn
theorem Fx.put (h : H1 a = some u) (p : plainO u) : Fx H1 (upd H1 a o) := fun b x e f => (upd_ne fun z => by
    rw [z, h] at e
    cases e
    exact p.nfz f).trans e
end

section
variable {C : Cn} {own : List Ow} {e : Expr} {F : EF}
theorem de_frz (h : DE C .fresh own e F) : DE C .stable own e F := by
  refine PE.imp (PE.frz h) fun σ H Q ⟨η, M, S, q⟩ => ⟨η, M, S, ?_⟩
  cases e : F η M with
  | ok d M' =>
    rw [e] at q
    intro v H' st rg
    cases d with
    | lst ds =>
      obtain ⟨a, xs, e1, n, e2, m, r⟩ := rg
      refine .inr ⟨a, _, .inl ⟨_, rfl⟩, e2, fun ob => q v _ (st.put n e2 (.inl ⟨_, rfl⟩) m) ?_⟩
      show RV _ _ _ _
      unfold RV
      exact ⟨a, xs, e1, ⟨ob, upd_same⟩, RVs.fx (Fx.put e2 (.inl ⟨_, rfl⟩)) _ r⟩
    | dct ks vs =>
      obtain ⟨a, xs, u, e1, n, e2, m, dd, r⟩ := rg
      refine .inr ⟨a, _, dd.frable, e2, fun ob => q v _ (st.put n e2 dd.plain m) ?_⟩
      show RV _ _ _ _
      unfold RV
      exact ⟨a, xs, u, e1, ⟨ob, upd_same⟩, dd, RVs.fx (Fx.put e2 dd.plain) _ r⟩
    | _ => exact .inl (q v H' st rg)
  | err c ns fs M' =>
    rw [e] at q
    exact q
  | bad =>
    rw [e] at q
    exact q
theorem de_look {g : Gr} (h : DE C g own e F) : DE C .view own e F := by
  refine PE.imp h fun σ H Q ⟨η, M, S, q⟩ => ⟨η, M, S, ?_⟩
  cases e : F η M with
  | ok d M' =>
    rw [e] at q
    exact fun v H' st rg => q v H' st rg.vw
  | err c ns fs M' =>
    rw [e] at q
    exact q
  | bad =>
    rw [e] at q
    exact q
/-- a tree of which nothing can change is stable, however it came -/
def immF (F : EF) : EF := fun η M => (F η M).bind fun d M' => if imm d then .ok d M' else .bad
theorem de_imm {g : Gr} (h : DE C .view own e F) : DE C g own e (immF F) := by
  refine PE.imp h fun σ H Q ⟨η, M, S, q⟩ => ⟨η, M, S, ?_⟩
  unfold immF at q
  cases e : F η M with
  | ok d M' =>
    rw [e] at q
    simp only [Res.bind] at q
    intro v H' st rg
    split at q
    · rename_i hi
      refine q v H' st (RG.scal (fun ds z => ?_) (fun ks vs z => ?_) ?_)
      · rw [z] at hi; simp [imm] at hi
      · rw [z] at hi; simp [imm] at hi
      · cases d with
        | lst ds => simp [imm] at hi
        | dct ks vs => simp [imm] at hi
        | _ => exact rg
    · exact q.elim
  | err c ns fs M' =>
    rw [e] at q
    exact q
  | bad =>
    rw [e] at q
    exact q
end

/-! ## names, constants -/
def isU : D → Bool
  | .und => true
  | _ => false
def eVar (i : Nat) : EF := fun η M => match (η[i]? : Option D) with
  | some d => if isU d then .bad else .ok d M
  | none => .bad
@[simp] def eC (d : D) : EF := fun _ M => .ok d M
section
variable {C : Cn} {own : List Ow} {e : Expr} {F : EF}
theorem eVar_ok {i : Nat} {η : Env} {M : Mem} {r : Res D} (h : eVar i η M = r) : r = .bad ∨ ∃ d, (η[i]? : Option D) = some d ∧ d ≠ .und ∧ r = .ok d M := by
  unfold eVar at h
  split at h
  · rename_i d e
    split at h
    · exact .inl h.symm
    · rename_i n
      refine .inr ⟨d, e, fun z => ?_, h.symm⟩
      rw [z] at n
      exact n rfl
  · exact .inl h.symm
theorem de_vs (i : Nat) {x : Str} {pos : Pos} (hp : PE C.X (.Name x pos) (tVar i)) (ho : own.getD i .st = .st := by rfl) : DE C .stable own (.Name x pos) (eVar i) := by
  refine PE.imp hp fun σ H Q ⟨η, M, S, q⟩ => ?_
  rcases eVar_ok (rfl : eVar i η M = _) with e | ⟨d, e1, e2, e3⟩
  · rw [e] at q; exact q.elim
  · rw [e3] at q
    obtain ⟨v, h1, h2, h3⟩ := S.sl i d e1 e2
    exact ⟨v, h1, q v H (Stp.refl S.mo) (h3 ho)⟩
theorem de_vv (i : Nat) {x : Str} {pos : Pos} (hp : PE C.X (.Name x pos) (tVar i)) : DE C .view own (.Name x pos) (eVar i) := by
  refine PE.imp hp fun σ H Q ⟨η, M, S, q⟩ => ?_
  rcases eVar_ok (rfl : eVar i η M = _) with e | ⟨d, e1, e2, e3⟩
  · rw [e] at q; exact q.elim
  · rw [e3] at q
    obtain ⟨v, h1, h2, h3⟩ := S.sl i d e1 e2
    exact ⟨v, h1, q v H (Stp.refl S.mo) h2⟩
theorem de_c {g : Gr} {v : V} {d : D} (hp : PE C.X e (tC v)) (hd : ∀ H0 M H, RG C.X.K g H0 M H d v) : DE C g own e (eC d) := by
  refine PE.imp hp fun σ H Q ⟨η, M, S, q⟩ => ?_
  exact q v H (Stp.refl S.mo) (hd _ _ _)
theorem de_int {g : Gr} {i j pos} : DE C g own (.Constant (.int i) j pos) (eC (.int i)) := de_c pe_int fun _ _ _ => by cases g <;> rfl
theorem de_bl {g : Gr} {b j pos} : DE C g own (.Constant (.bool b) j pos) (eC (.bl b)) := de_c pe_bl fun _ _ _ => by cases g <;> rfl
theorem de_non {g : Gr} {j pos} : DE C g own (.Constant .none j pos) (eC .non) := de_c pe_non fun _ _ _ => by cases g <;> rfl
theorem de_str {g : Gr} {x j pos} : DE C g own (.Constant (.str x) j pos) (eC (.str x)) := de_c pe_str fun _ _ _ => by cases g <;> rfl
theorem de_gint {g : Gr} {x : Str} {i : Int} {t : Tok} {pos : Pos} (hg : Gl C.X x) (hm : C.X.mg x = some (.int i t)) (hd : (x == ("__debug__" : Str)) = false := by decide) : DE C g own (.Name x pos) (eC (.int i)) :=
  de_c (pe_glob (v := .int i) hg hm ⟨t, rfl⟩ hd) fun _ _ _ => by cases g <;> rfl
end
end Tn

set_option Elab.async false
set_option linter.all false
set_option maxRecDepth 100000
set_option maxHeartbeats 4000000
namespace Tn
open PySem PySem.Spec PyProof.Rows L2

/-! ## arguments, calls of one's own defs -/
@[simp] def eArgs : List EF → Env → Mem → Res (List D)
  | [], _, M => .ok [] M
  | F :: Fs, η, M => (F η M).bind fun d M1 => (eArgs Fs η M1).bind fun ds M2 => .ok (d :: ds) M2
def RunA (K : PySem.W.Frag) (T : List (Addr × Str)) (W : WX) (σ : L2.St) (H : Hp) (M : Mem) (r : Res (List D)) (Q : List V → Hp → Prop) : Prop := match r with
  | .ok ds M' => ∀ vs H', Stp K T M H M' H' → RVs K H' ds vs → Q vs H'
  | .err c ns fs M' => ∀ oe H', Stp K T M H M' H' → XF K H' oe ns fs → W (.ref c) oe σ H'
  | .bad => False
def tDA (C : Cn) (own : List Ow) (Fs : List EF) : TA := fun σ H Q => ∃ η M, StE C.X.K C.T own σ H η M ∧ RunA C.X.K C.T C.W σ H M (eArgs Fs η M) Q
def DA (C : Cn) (own : List Ow) (es : List Expr) (Fs : List EF) : Prop := PA C.X es (tDA C own Fs)
section
variable {C : Cn} {own : List Ow} {e : Expr} {es : List Expr} {F : EF} {Fs : List EF}
theorem da_nil : DA C own [] [] := PA.imp pa_nil fun σ H Q ⟨η, M, S, q⟩ => q [] H (Stp.refl S.mo) (RVs.nil_iff.mpr rfl)
theorem da_cons (h : DE C .stable own e F) (hs : DA C own es Fs) (hst : starEach (e :: es) C.X.env = (false, eval e C.X.env) :: starEach es C.X.env := by rfl) : DA C own (e :: es) (F :: Fs) := by
  refine PA.imp (pa_cons h hs hst) fun σ H Q ⟨η, M, S, q⟩ => ⟨η, M, S, ?_⟩
  unfold eArgs at q
  cases e : F η M with
  | ok d M1 =>
    rw [e, Res.bind_ok] at q
    intro v H1 s1 r1
    refine ⟨η, M1, S.stp s1, ?_⟩
    cases e2 : eArgs Fs η M1 with
    | ok ds M2 =>
      rw [e2, Res.bind_ok] at q
      exact fun vs H2 s2 r2 => q (v :: vs) H2 (s1.trans s2) (RVs.mk (RV.fx s2.fx _ r1) r2)
    | err c ns fs M2 =>
      rw [e2] at q
      exact fun oe H2 s2 x => q oe H2 (s1.trans s2) x
    | bad =>
      rw [e2] at q
      exact q
  | err c ns fs M1 =>
    rw [e] at q
    exact q
  | bad =>
    rw [e] at q
    exact q
end

/-! ### arguments, some only looked at -/
def wOk (K : PySem.W.Frag) (M : Mem) (H : Hp) : Ow → D → V → Prop
  | .vw, d, v => VW K M H d v
  | _, d, v => RV K H d v
def RWs (K : PySem.W.Frag) (M : Mem) (H : Hp) : List Ow → List D → List V → Prop
  | [], [], vs => vs = []
  | w :: ws, d :: ds, vs => ∃ v r, vs = v :: r ∧ wOk K M H w d v ∧ RWs K M H ws ds r
  | _, _, _ => False
theorem wOk.stp {K : PySem.W.Frag} {T : List (Addr × Str)} {M M1 : Mem} {H H1 : Hp} {w : Ow} {d : D} {v : V} (s : Stp K T M H M1 H1) (h : wOk K M H w d v) : wOk K M1 H1 w d v := by
  cases w with
  | vw => exact VW.stp s h
  | st => exact RV.fx s.fx _ h
  | ow => exact RV.fx s.fx _ h
theorem RWs.stp {K : PySem.W.Frag} {T : List (Addr × Str)} {M M1 : Mem} {H H1 : Hp} (s : Stp K T M H M1 H1) : ∀ {ws : List Ow} {ds : List D} {vs : List V}, RWs K M H ws ds vs → RWs K M1 H1 ws ds vs
  | [], [], vs, h => h
  | w :: ws, d :: ds, vs, ⟨v, r, e, h1, h2⟩ => ⟨v, r, e, h1.stp s, h2.stp s⟩
theorem RWs.len {K : PySem.W.Frag} {M : Mem} {H : Hp} : ∀ {ws : List Ow} {ds : List D} {vs : List V}, RWs K M H ws ds vs → ds.length = ws.length ∧ vs.length = ws.length
  | [], [], vs, h => ⟨rfl, by rw [show vs = [] from h]; rfl⟩
  | w :: ws, d :: ds, vs, ⟨v, r, e, h1, h2⟩ => by
    obtain ⟨a, b⟩ := h2.len
    rw [e]
    simp [a, b]
theorem RWs.at {K : PySem.W.Frag} {M : Mem} {H : Hp} : ∀ {ws : List Ow} {ds : List D} {vs : List V} {i : Nat} {d : D}, RWs K M H ws ds vs → ds[i]? = some d → ∃ v, vs[i]? = some v ∧ wOk K M H (ws.getD i .st) d v
  | [], [], vs, i, d, h, e => by simp at e
  | w :: ws, d :: ds, vs, 0, d', ⟨v, r, e, h1, h2⟩, e2 => by
    simp only [List.getElem?_cons_zero, Option.some.injEq] at e2
    subst e2 e
    exact ⟨v, rfl, h1⟩
  | w :: ws, d :: ds, vs, i + 1, d', ⟨v, r, e, h1, h2⟩, e2 => by
    obtain ⟨x, h3, h4⟩ := RWs.at (i := i) h2 (by simpa using e2)
    subst e
    exact ⟨x, by simpa using h3, h4⟩
def RunW (K : PySem.W.Frag) (T : List (Addr × Str)) (W : WX) (ws : List Ow) (σ : L2.St) (H : Hp) (M : Mem) (r : Res (List D)) (Q : List V → Hp → Prop) : Prop := match r with
  | .ok ds M' => ∀ vs H', Stp K T M H M' H' → RWs K M' H' ws ds vs → Q vs H'
  | .err c ns fs M' => ∀ oe H', Stp K T M H M' H' → XF K H' oe ns fs → W (.ref c) oe σ H'
  | .bad => False
def tDR (C : Cn) (own ws : List Ow) (Fs : List EF) : TA := fun σ H Q => ∃ η M, StE C.X.K C.T own σ H η M ∧ RunW C.X.K C.T C.W ws σ H M (eArgs Fs η M) Q
def DR (C : Cn) (own ws : List Ow) (es : List Expr) (Fs : List EF) : Prop := PA C.X es (tDR C own ws Fs)
def grA : Ow → Gr
  | .vw => .view
  | _ => .stable
section
variable {C : Cn} {own ws : List Ow} {e : Expr} {es : List Expr} {F : EF} {Fs : List EF}
theorem dr_nil : DR C own [] [] [] := PA.imp pa_nil fun σ H Q ⟨η, M, S, q⟩ => q [] H (Stp.refl S.mo) rfl
theorem dr_cons (w : Ow) (h : DE C (grA w) own e F) (hs : DR C own ws es Fs) (hst : starEach (e :: es) C.X.env = (false, eval e C.X.env) :: starEach es C.X.env := by rfl) : DR C own (w :: ws) (e :: es) (F :: Fs) := by
  refine PA.imp (pa_cons h hs hst) fun σ H Q ⟨η, M, S, q⟩ => ⟨η, M, S, ?_⟩
  unfold eArgs at q
  cases e : F η M with
  | ok d M1 =>
    rw [e, Res.bind_ok] at q
    intro v H1 s1 r1
    refine ⟨η, M1, S.stp s1, ?_⟩
    cases e2 : eArgs Fs η M1 with
    | ok ds M2 =>
      rw [e2, Res.bind_ok] at q
      refine fun vs H2 s2 r2 => q (v :: vs) H2 (s1.trans s2) ⟨v, vs, rfl, wOk.stp s2 ?_, r2⟩
      cases w with
      | vw => exact r1
      | st => exact r1
      | ow => exact r1
    | err c ns fs M2 =>
      rw [e2] at q
      exact fun oe H2 s2 x => q oe H2 (s1.trans s2) x
    | bad =>
      rw [e2] at q
      exact q
  | err c ns fs M1 =>
    rw [e] at q
    exact q
  | bad =>
    rw [e] at q
    exact q
end

/-- a def's semantics, as a function of trees -/
abbrev GF := List D → Mem → Res D
/-- the promise of a def: with n arguments it tells what G tells -/
def spD (K : PySem.W.Frag) (T : List (Addr × Str)) (ws : List Ow) (g : Gr) (G : GF) : Sp := fun vs H Q E => ∃ ds M, RWs K M H ws ds vs ∧ MOk K M H ∧ LamX.Tabs T H ∧
  match G ds M with
  | .ok d M' => ∀ v H', Stp K T M H M' H' → RG K g H M' H' d v → Q v H'
  | .err c ns fs M' => ∀ oe H', Stp K T M H M' H' → XF K H' oe ns fs → E (.ref c) oe H'
  | .bad => False
theorem Stp.toT {K : PySem.W.Frag} {T : List (Addr × Str)} {M M1 : Mem} {H H1 : Hp} (m : MOk K M H) (s : Stp K [] M H M1 H1) : Stp K T M H M1 H1 where
  kp := fun b o h q _ => s.kp b o h q (.inl rfl)
  th := s.th
  tb := fun t => Tabs.but t fun b o h c => s.kp b o h (.inl (by
    cases e : M b with
    | none => rfl
    | some z =>
      obtain ⟨u, h1, n1, n2⟩ := (m b z e).notFz
      rw [h] at h1
      cases h1
      cases z with
      | dct ks vs =>
        obtain ⟨xs, u, h2, d, _⟩ := m b _ e
        rw [h] at h2
        cases h2
        obtain ⟨_, rfl, _⟩ := d
        rcases c with ⟨_, c⟩ | ⟨_, c⟩ <;> cases c
      | lst ds =>
        obtain ⟨xs, h2, _⟩ := m b _ e
        rw [h] at h2
        cases h2
        rcases c with ⟨_, c⟩ | ⟨_, c⟩ <;> cases c)) (.inl rfl)
  mo := s.mo
  dm := s.dm
  dn := s.dn
theorem eArgs_len : ∀ {Fs : List EF} {η : Env} {M : Mem} {ds : List D} {M1 : Mem}, eArgs Fs η M = .ok ds M1 → ds.length = Fs.length
  | [], _, _, _, _, h => by
    unfold eArgs at h
    cases h
    rfl
  | F :: Fs, η, M, ds, M1, h => by
    unfold eArgs at h
    cases e : F η M with
    | ok d M2 =>
      rw [e, Res.bind_ok] at h
      cases e2 : eArgs Fs η M2 with
      | ok ds' M3 =>
        rw [e2, Res.bind_ok] at h
        cases h
        rw [List.length_cons, List.length_cons, eArgs_len e2]
      | err _ _ _ _ => rw [e2] at h; cases h
      | bad => rw [e2] at h; cases h
    | err _ _ _ _ => rw [e] at h; cases h
    | bad => rw [e] at h; cases h
@[simp] def eCall (G : GF) (Fs : List EF) : EF := fun η M => (eArgs Fs η M).bind G
/-- what a caller must know of a def -/
structure Dn (C : Cn) (x : Str) (ws : List Ow) (g : Gr) (G : GF) : Prop where
  ex : ∃ (k : Nat) (f : Addr) (fd : FuncData) (ps : List Str) (T' : List (Addr × Str)), (T' = [] ∨ T' = C.T) ∧ FnOk C.X.prog C.X.w C.X.K C.X.mg C.X.base (L2.CX C.X.prog C.X.w) k f fd ps (spD C.X.K T' ws g G) ∧
    Room k C.X.A ∧ C.X.mg x = some (.ref f) ∧ PySem.W.keepIn C.X.K (.ref f) = true ∧ L2.Binds C.X.K fd ps []
section
variable {C : Cn} {own : List Ow} {e : Expr} {es : List Expr} {F : EF} {Fs : List EF}
theorem de_call {g : Gr} {G : GF} {ws : List Ow} {x : Str} {p pos : Pos} (tk : Takes C.X C.W) (D : Dn C x ws g G) (hg : Gl C.X x) (ha : DR C own ws (e :: es) Fs)
    (hdb : (x == ("__debug__" : Str)) = false := by decide) (he : starEach (e :: es) C.X.env = (false, eval e C.X.env) :: starEach es C.X.env := by rfl) (hpl : (backTo pos (starEach es C.X.env)).any (·.1) = false := by rfl)
    : DE C g own (.Call (.Name x p) (e :: es) [] pos) (eCall G Fs) := by
  obtain ⟨k, f, fd, ps, T', hT, FO, hr, hm, hk, hb⟩ := D.ex
  refine PE.imp (pe_callS (E := WE C.W) FO hr hg hm hk hb (passAt tk) ha hdb he hpl) fun σ H Q ⟨η, M, S, q⟩ => ⟨η, M, S, ?_⟩
  unfold eCall at q
  have up : ∀ {M1 M2 H1 H2}, MOk C.X.K M1 H1 → Stp C.X.K T' M1 H1 M2 H2 → Stp C.X.K C.T M1 H1 M2 H2 := fun m s => by
    rcases hT with h | h
    · subst h; exact s.toT m
    · rw [← h]; exact s
  cases e : eArgs Fs η M with
  | ok ds M1 =>
    rw [e, Res.bind_ok] at q
    intro vs H1 s1 r1
    have tabs' : LamX.Tabs T' H1 := by
      rcases hT with h | h
      · rw [h]; exact fun p hp => nomatch hp
      · rw [h]; exact s1.tb S.tabs
    refine ⟨ds, M1, r1, s1.mo, tabs', ?_⟩
    cases e2 : G ds M1 with
    | ok d M2 =>
      rw [e2] at q
      exact fun v H2 s2 rg => q v H2 (s1.trans (up s1.mo s2)) (rg.back s1.th)
    | err c ns fs M2 =>
      rw [e2] at q
      exact fun oe H2 s2 x => q oe H2 (s1.trans (up s1.mo s2)) x
    | bad =>
      rw [e2] at q
      exact q
  | err c ns fs M1 =>
    rw [e] at q
    exact q
  | bad =>
    rw [e] at q
    exact q
end
end Tn

set_option Elab.async false
set_option linter.all false
set_option maxRecDepth 100000
set_option maxHeartbeats 4000000
namespace Tn
open PySem PySem.Spec PyProof.Rows L2

/-! ## trees that are compared -/
mutual
/-- what == looks through: no dict, no thing of the store -/
def flat : D → Bool
  | .non => true
  | .bl _ => true
  | .int _ => true
  | .str s => PyData.strOk s
  | .tup ds => flats ds
  | .lst ds => flats ds
  | _ => false
def flats : List D → Bool
  | [] => true
  | d :: ds => flat d && flats ds
end
mutual
def dep : D → Nat
  | .tup ds => deps ds + 1
  | .lst ds => deps ds + 1
  | _ => 0
def deps : List D → Nat
  | [] => 0
  | d :: ds => max (dep d) (deps ds)
end
mutual
/-- == of Python -/
def eqD : D → D → Bool
  | .non, .non => true
  | .bl a, .bl b => a == b
  | .bl a, .int j => (if a then 1 else 0) == j
  | .int i, .bl b => i == (if b then 1 else 0)
  | .int i, .int j => i == j
  | .str x, .str y => x == y
  | .tup xs, .tup ys => eqDs xs ys
  | .lst xs, .lst ys => eqDs xs ys
  | _, _ => false
def eqDs : List D → List D → Bool
  | [], [] => true
  | x :: xs, y :: ys => eqD x y && eqDs xs ys
  | _, _ => false
end
mutual
def toPy : D → PyData
  | .bl b => .bool b
  | .int i => .int i
  | .str s => .str s
  | .tup ds => .tuple (toPys ds)
  | .lst ds => .list (toPys ds)
  | _ => .none
def toPys : List D → List PyData
  | [] => []
  | d :: ds => toPy d :: toPys ds
end
mutual
theorem toPy_lay : ∀ d : D, flat d = true → (toPy d).canLay0 = true
  | .und, h => by simp [flat] at h
  | .non, _ => by simp [toPy, PyData.canLay0]
  | .bl _, _ => by simp [toPy, PyData.canLay0]
  | .int _, _ => by simp [toPy, PyData.canLay0]
  | .str s, h => by simpa [toPy, PyData.canLay0, flat] using h
  | .tup ds, h => by
    simp only [toPy, PyData.canLay0]
    exact toPys_lay ds (by simpa [flat] using h)
  | .lst ds, h => by
    simp only [toPy, PyData.canLay0]
    exact toPys_lay ds (by simpa [flat] using h)
  | .dct _ _, h => by simp [flat] at h
  | .ref _, h => by simp [flat] at h
  | .exc _ _ _, h => by simp [flat] at h
  | .scr _, h => by simp [flat] at h
theorem toPys_lay : ∀ ds : List D, flats ds = true → PyData.canLayAll0 (toPys ds) = true
  | [], _ => by simp [toPys, PyData.canLayAll0]
  | d :: ds, h => by
    simp only [flats, Bool.and_eq_true] at h
    simp only [toPys, PyData.canLayAll0, Bool.and_eq_true]
    exact ⟨toPy_lay d h.1, toPys_lay ds h.2⟩
end
mutual
theorem toPy_dep : ∀ d : D, (toPy d).depth = dep d
  | .und => by simp [toPy, PyData.depth, dep]
  | .non => by simp [toPy, PyData.depth, dep]
  | .bl _ => by simp [toPy, PyData.depth, dep]
  | .int _ => by simp [toPy, PyData.depth, dep]
  | .str s => by simp [toPy, PyData.depth, dep]
  | .tup ds => by simp only [toPy, PyData.depth, dep, toPys_dep ds]
  | .lst ds => by simp only [toPy, PyData.depth, dep, toPys_dep ds]
  | .dct _ _ => by simp [toPy, PyData.depth, dep]
  | .ref _ => by simp [toPy, PyData.depth, dep]
  | .exc _ _ _ => by simp [toPy, PyData.depth, dep]
  | .scr _ => by simp [toPy, PyData.depth, dep]
theorem toPys_dep : ∀ ds : List D, PyData.depthAll (toPys ds) = deps ds
  | [] => by simp [toPys, PyData.depthAll, deps]
  | d :: ds => by simp only [toPys, PyData.depthAll, deps, toPy_dep d, toPys_dep ds]
end
mutual
theorem eqD_py : ∀ a b : D, flat a = true → flat b = true → PyData.eqv (toPy a) (toPy b) = eqD a b
  | .non, b, _, hb => by cases b <;> first | (simp [flat] at hb; done) | simp [toPy, PyData.eqv, eqD]
  | .bl _, b, _, hb => by cases b <;> first | (simp [flat] at hb; done) | simp [toPy, PyData.eqv, eqD]
  | .int _, b, _, hb => by cases b <;> first | (simp [flat] at hb; done) | simp [toPy, PyData.eqv, eqD]
  | .str _, b, _, hb => by cases b <;> first | (simp [flat] at hb; done) | simp [toPy, PyData.eqv, eqD]
  | .tup xs, b, ha, hb => by
    cases b with
    | tup ys =>
      simp only [toPy, PyData.eqv, eqD]
      exact eqDs_py xs ys (by simpa [flat] using ha) (by simpa [flat] using hb)
    | _ => first | (simp [flat] at hb; done) | simp [toPy, PyData.eqv, eqD]
  | .lst xs, b, ha, hb => by
    cases b with
    | lst ys =>
      simp only [toPy, PyData.eqv, eqD]
      exact eqDs_py xs ys (by simpa [flat] using ha) (by simpa [flat] using hb)
    | _ => first | (simp [flat] at hb; done) | simp [toPy, PyData.eqv, eqD]
  | .und, _, h, _ => by simp [flat] at h
  | .dct _ _, _, h, _ => by simp [flat] at h
  | .ref _, _, h, _ => by simp [flat] at h
  | .exc _ _ _, _, h, _ => by simp [flat] at h
  | .scr _, _, h, _ => by simp [flat] at h
theorem eqDs_py : ∀ a b : List D, flats a = true → flats b = true → PyData.eqvAll (toPys a) (toPys b) = eqDs a b
  | [], [], _, _ => by simp [toPys, PyData.eqvAll, eqDs]
  | [], b :: bs, _, _ => by simp [toPys, PyData.eqvAll, eqDs]
  | a :: as, [], _, _ => by simp [toPys, PyData.eqvAll, eqDs]
  | a :: as, b :: bs, ha, hb => by
    simp only [flats, Bool.and_eq_true] at ha hb
    simp only [toPys, PyData.eqvAll, eqDs, eqD_py a b ha.1 hb.1, eqDs_py as bs ha.2 hb.2]
end
section
variable {K : PySem.W.Frag} {M : Mem} {H : Hp}
mutual
theorem RV.dp : ∀ (d : D) {v : V}, flat d = true → RV K H d v → Dp K H v (toPy d)
  | .und, _, h, _ => by simp [flat] at h
  | .non, v, _, r => by
    have e : v = .non := r
    subst e; simp only [toPy]; exact Dp.non
  | .bl b, v, _, r => by
    have e : v = .bl b := r
    subst e; simp only [toPy]; exact Dp.bl b
  | .int b, v, _, r => by
    have e : v = .int b := r
    subst e; simp only [toPy]; exact Dp.int b
  | .str b, v, _, r => by
    have e : v = .str b := r
    subst e; simp only [toPy]; exact Dp.str b
  | .tup ds, v, h, r => by
    unfold RV at r
    obtain ⟨a, xs, e, q, r⟩ := r
    subst e
    simp only [toPy]
    exact Dp.tup q (RVs.dp ds (by simpa [flat] using h) r)
  | .lst ds, v, h, r => by
    unfold RV at r
    obtain ⟨a, xs, e, q, r⟩ := r
    subst e
    simp only [toPy]
    exact Dp.lst q.sq (RVs.dp ds (by simpa [flat] using h) r)
  | .dct _ _, _, h, _ => by simp [flat] at h
  | .ref _, _, h, _ => by simp [flat] at h
  | .exc _ _ _, _, h, _ => by simp [flat] at h
  | .scr _, _, h, _ => by simp [flat] at h
theorem RVs.dp : ∀ (ds : List D) {vs : List V}, flats ds = true → RVs K H ds vs → DpAll K H vs (toPys ds)
  | [], vs, _, r => by
    rw [RVs.nil_iff.mp r]
    simp only [toPys]
    exact DpAll.nil
  | d :: ds, vs, h, r => by
    obtain ⟨v, q, e, r1, r2⟩ := RVs.cons_iff.mp r
    simp only [flats, Bool.and_eq_true] at h
    subst e
    simp only [toPys]
    exact DpAll.cons (RV.dp d h.1 r1) (RVs.dp ds h.2 r2)
end
theorem VX.dp {d : D} {v : V} (h : flat d = true) (r : VX K H d v) : Dp K H v (toPy d) := by
  cases d with
  | lst ds =>
    obtain ⟨a, xs, e, q, r1⟩ := r.sq
    subst e
    simp only [toPy]
    exact Dp.lst q (RVs.dp ds (by simpa [flat] using h) r1)
  | dct ks vs => simp [flat] at h
  | _ => exact RV.dp _ h r
theorem shaped_of {d : D} (h : flat d = true) (n : dep d ≤ 64) : SeqAt.shaped (toPy d) = true := by
  unfold SeqAt.shaped
  rw [toPy_lay d h, toPy_dep]
  simpa using n
end

/-! ## two-place operations -/
def OpD (C : Cn) (g : Gr) (sem : Value → Value → Sem Value) (f : D → D → Option D) : Prop :=
  ∀ (pins : List (Addr × Obj)) (s : Shared) (σ : L2.St) (H : Hp) (M : Mem) (x y : V) (v u : Value) (Q : VK) (d1 d2 d : D), Inv C.X pins σ H s → MOk C.X.K M H → RelV x v → RelV y u →
    VX C.X.K H d1 x → VX C.X.K H d2 y → f d1 d2 = some d → (∀ z H', Stp C.X.K C.T M H M H' → RG C.X.K g H M H' d z → Q z H') → wpAny (model C.X.prog C.X.w) C.X.A (sem v u) (EP C.X pins σ Q) C.X.xe s
@[simp] def eOp2 (f : D → D → Option D) (F G : EF) : EF := fun η M => (F η M).bind fun d1 M1 => (G η M1).bind fun d2 M2 => Res.opt (f d1 d2) M2
section
variable {C : Cn} {own : List Ow} {a b c : Expr} {F G Fc : EF} {f f' : D → D → Option D} {pos : Pos}
/-- the reading of an operation in the layer's form -/
def rD (C : Cn) (g : Gr) (f : D → D → Option D) : R2 := fun x y H Q => ∃ M d1 d2 d, MOk C.X.K M H ∧ VX C.X.K H d1 x ∧ VX C.X.K H d2 y ∧ f d1 d2 = some d ∧ ∀ z H', Stp C.X.K C.T M H M H' → RG C.X.K g H M H' d z → Q z H'
theorem OpD.r {g : Gr} {sem : Value → Value → Sem Value} (o : OpD C g sem f) : OpR C.X sem (rD C g f) := fun pins s σ H x y v u Q I rx ry ⟨M, d1, d2, d, m, h1, h2, e, q⟩ =>
  o pins s σ H M x y v u Q d1 d2 d I m rx ry h1 h2 e q
theorem tOp_of {g g1 g2 : Gr} {σ : L2.St} {H : Hp} {Q : VK} (h : tD C g own (eOp2 f F G) σ H Q) : tOp (rD C g f) (tD C g1 own F) (tD C g2 own G) σ H Q := by
  obtain ⟨η, M, S, q⟩ := h
  refine RunE.step (P := fun r => RunE C.X.K C.T C.W g σ H M r Q) S q (fun c ns fs M' q => q) (fun q => q) fun d1 M1 x H1 q1 s1 S1 r1 => ?_
  refine RunE.step (P := fun r => RunE C.X.K C.T C.W g σ H M r Q) S1 q1 (fun c ns fs M' q oe H' s x => q oe H' (s1.trans s) x) (fun q => q) fun d2 M2 y H2 q2 s2 S2 r2 => ?_
  cases e : f d1 d2 with
  | none => rw [e] at q2; exact q2.elim
  | some d =>
    rw [e] at q2
    exact ⟨M2, d1, d2, d, s2.mo, (r1.vw.stp s2).vx, r2.vw.vx, e, fun z H' st rg => q2 z H' ((s1.trans s2).trans st) (rg.back (s1.trans s2).th)⟩
/-- the same, what the store holds told -/
@[simp] def eOp2d (f : D → D → Option D) (F G : EF) : EF := fun η M => (F η M).bind fun d1 M1 => (G η M1).bind fun d2 M2 => Res.opt (f (deref M2 d1) (deref M2 d2)) M2
theorem tOp_ofd {g g1 g2 : Gr} {σ : L2.St} {H : Hp} {Q : VK} (h : tD C g own (eOp2d f F G) σ H Q) : tOp (rD C g f) (tD C g1 own F) (tD C g2 own G) σ H Q := by
  obtain ⟨η, M, S, q⟩ := h
  refine RunE.step (P := fun r => RunE C.X.K C.T C.W g σ H M r Q) S q (fun c ns fs M' q => q) (fun q => q) fun d1 M1 x H1 q1 s1 S1 r1 => ?_
  refine RunE.step (P := fun r => RunE C.X.K C.T C.W g σ H M r Q) S1 q1 (fun c ns fs M' q oe H' s x => q oe H' (s1.trans s) x) (fun q => q) fun d2 M2 y H2 q2 s2 S2 r2 => ?_
  cases e : f (deref M2 d1) (deref M2 d2) with
  | none => rw [e] at q2; exact q2.elim
  | some d =>
    rw [e] at q2
    exact ⟨M2, _, _, d, s2.mo, (r1.vw.stp s2).vx.deref s2.mo, r2.vw.vx.deref s2.mo, e, fun z H' st rg => q2 z H' ((s1.trans s2).trans st) (rg.back (s1.trans s2).th)⟩
theorem de_opd {g g1 g2 : Gr} {op : Operator} (o : OpD C g (binaryOp op) f) (ha : DE C g1 own a F) (hb : DE C g2 own b G) : DE C g own (.BinOp a op b pos) (eOp2d f F G) :=
  PE.imp (pe_op o.r ha hb) fun _ _ _ h => tOp_ofd h
theorem de_op {g g1 g2 : Gr} {op : Operator} (o : OpD C g (binaryOp op) f) (ha : DE C g1 own a F) (hb : DE C g2 own b G) : DE C g own (.BinOp a op b pos) (eOp2 f F G) :=
  PE.imp (pe_op o.r ha hb) fun _ _ _ h => tOp_of h
theorem de_cmp {g g1 g2 : Gr} {op : CmpOp} (o : OpD C g (compareOp op) f) (ha : DE C g1 own a F) (hb : DE C g2 own b G) (hm : behindInMarks op b = false) : DE C g own (.Compare a [op] [b] pos) (eOp2 f F G) :=
  PE.imp (pe_cmpR o.r ha hb hm) fun _ _ _ h => tOp_of h
end

section
variable {C : Cn} {g : Gr}
theorem vw_int {K : PySem.W.Frag} {H : Hp} {i : Int} {x : V} (h : VX K H (.int i) x) : x = .int i := h
theorem vw_bl {K : PySem.W.Frag} {H : Hp} {i : Bool} {x : V} (h : VX K H (.bl i) x) : x = .bl i := h
theorem vw_str {K : PySem.W.Frag} {H : Hp} {i : Str} {x : V} (h : VX K H (.str i) x) : x = .str i := h
theorem rg_int {K : PySem.W.Frag} {H0 : Hp} {M : Mem} {H : Hp} {i : Int} : RG K g H0 M H (.int i) (.int i) := by cases g <;> rfl
theorem rg_bl {K : PySem.W.Frag} {H0 : Hp} {M : Mem} {H : Hp} {i : Bool} : RG K g H0 M H (.bl i) (.bl i) := by cases g <;> rfl
theorem rg_str {K : PySem.W.Frag} {H0 : Hp} {M : Mem} {H : Hp} {i : Str} : RG K g H0 M H (.str i) (.str i) := by cases g <;> rfl
theorem rg_non {K : PySem.W.Frag} {H0 : Hp} {M : Mem} {H : Hp} : RG K g H0 M H .non .non := by cases g <;> rfl
instance (a b : Int) : Decidable (IntMulOk a b) := by unfold IntMulOk; infer_instance
def dSub : D → D → Option D
  | .int i, .int j => some (.int (i - j))
  | _, _ => none
def dMod : D → D → Option D
  | .int i, .int j => if j = 0 then none else some (.int (i.fmod j))
  | _, _ => none
def dDiv : D → D → Option D
  | .int i, .int j => if j = 0 ∨ Builtin.divisionGoesByPylong i j = true then none else some (.int (i.fdiv j))
  | _, _ => none
def dPow : D → D → Option D
  | .int i, .int j => if 0 ≤ j ∧ j ≤ 1000000 ∧ i.natAbs < 2 ^ 64 then some (.int (i ^ j.toNat)) else none
  | _, _ => none
def dAdd : D → D → Option D
  | .int i, .int j => some (.int (i + j))
  | .str i, .str j => if i.length + j.length ≤ sizeLine then some (.str (i ++ j)) else none
  | .lst i, .lst j => if i.length + j.length ≤ sizeLine then some (.lst (i ++ j)) else none
  | .tup i, .tup j => if i.length + j.length ≤ sizeLine then some (.tup (i ++ j)) else none
  | _, _ => none
def dMul : D → D → Option D
  | .int i, .int j => if IntMulOk i j then some (.int (i * j)) else none
  | .lst i, .int k => if k < 2 ^ 63 ∧ -(2 ^ 63) ≤ k ∧ i.length * k.toNat ≤ sizeLine then some (.lst (List.replicate k.toNat i).flatten) else none
  | _, _ => none
theorem od_sub : OpD C g (binaryOp .Sub) dSub := fun pins s σ H M x y v u Q d1 d2 d I m rx ry h1 h2 e q => by
  unfold dSub at e
  split at e
  · cases e
    rw [vw_int h1] at rx
    rw [vw_int h2] at ry
    exact op_sub pins s σ H _ _ v u Q I rx ry ⟨_, _, rfl, rfl, q _ H (Stp.refl m) rg_int⟩
  · cases e
theorem od_mod : OpD C g (binaryOp .Mod) dMod := fun pins s σ H M x y v u Q d1 d2 d I m rx ry h1 h2 e q => by
  unfold dMod at e
  split at e
  · split at e
    · cases e
    · rename_i hj
      cases e
      rw [vw_int h1] at rx
      rw [vw_int h2] at ry
      exact op_modN pins s σ H _ _ v u Q I rx ry ⟨_, _, rfl, rfl, hj, q _ H (Stp.refl m) rg_int⟩
  · cases e
theorem od_div : OpD C g (binaryOp .FloorDiv) dDiv := fun pins s σ H M x y v u Q d1 d2 d I m rx ry h1 h2 e q => by
  unfold dDiv at e
  split at e
  · split at e
    · cases e
    · rename_i hj
      cases e
      rw [vw_int h1] at rx
      rw [vw_int h2] at ry
      obtain ⟨t, rfl⟩ := rx
      obtain ⟨t', rfl⟩ := ry
      exact floordiv_int (fun z => hj (.inl z)) ⟨.int _, H, I.tok _, ⟨_, rfl⟩, q _ H (Stp.refl m) rg_int⟩ (.inl (by
        cases e : Builtin.divisionGoesByPylong _ _ with
        | false => rfl
        | true => exact absurd (.inr e) hj))
  · cases e
theorem od_pow : OpD C g (binaryOp .Pow) dPow := fun pins s σ H M x y v u Q d1 d2 d I m rx ry h1 h2 e q => by
  unfold dPow at e
  split at e
  · split at e
    · rename_i hj
      cases e
      rw [vw_int h1] at rx
      rw [vw_int h2] at ry
      exact op_pow pins s σ H _ _ v u Q I rx ry ⟨_, _, rfl, rfl, hj, q _ H (Stp.refl m) rg_int⟩
    · cases e
  · cases e
end

/-! ## lists and tuples put together -/
section
variable {X : Cx} {pins : List (Addr × Obj)} {σ : L2.St} {H : Hp} {s : Shared} {l : Addr} {xs ys : List V}
theorem Inv.rdl (I : Inv X pins σ H s) (h : Rd H l (.lst xs)) : xs.length ≤ sizeLine ∧ ∃ (its : List Value) (n : Nat), Vals xs its ∧ s.heap.get? l = some { cls := .type "list", data := .seq its.toArray n } := by
  obtain ⟨z, its, n, r, e⟩ := h.ok I.hok
  exact ⟨z, its, n, r, e⟩
/-- a new list -/
theorem ep_list {K : PySem.W.Frag} {T : List (Addr × Str)} {M : Mem} {its : List Value} {ds : List D} {Q : VK} {t : Nat} (I : Inv X pins σ H s) (m : MOk K M H) (hv : Vals ys its) (hz : ys.length ≤ sizeLine) (hd : RVs K H ds ys)
    (q : ∀ z H', Stp K T M H M H' → FR K H M H' (.lst ds) z → Q z H') : EP X pins σ Q (.ref s.heap.objs.size) { s with heap := s.heap.push { cls := .type "list", data := .seq its.toArray }, toks := t } := by
  have n : H s.heap.objs.size = none := I.hok.fresh (Nat.le_refl _)
  have st : Stp K T M H M (upd H s.heap.objs.size (.lst ys)) := Stp.laid m n
  exact ⟨.ref s.heap.objs.size, _, I.lnew hv hz, rfl, q _ _ st ⟨_, ys, rfl, nw_of n, upd_same, m.none_of n, RVs.fx st.fx _ hd⟩⟩
end
section
variable {C : Cn}
theorem RVs.rep {K : PySem.W.Frag} {H : Hp} {ds : List D} {xs : List V} (h : RVs K H ds xs) : ∀ k : Nat, RVs K H (List.replicate k ds).flatten (List.replicate k xs).flatten
  | 0 => RVs.nil_iff.mpr rfl
  | k + 1 => by
    rw [List.replicate_succ, List.replicate_succ, List.flatten_cons, List.flatten_cons]
    exact RVs.app h (RVs.rep h k)
theorem flat_rep {α : Type} (xs : List α) : ∀ k : Nat, (List.replicate k xs).flatten.length = k * xs.length
  | 0 => by simp
  | k + 1 => by rw [List.replicate_succ, List.flatten_cons, List.length_append, flat_rep xs k, Nat.succ_mul, Nat.add_comm]
theorem od_add : OpD C .fresh (binaryOp .Add) dAdd := fun pins s σ H M x y v u Q d1 d2 d I m rx ry h1 h2 e q => by
  unfold dAdd at e
  split at e
  · cases e
    rw [vw_int h1] at rx
    rw [vw_int h2] at ry
    exact op_add pins s σ H _ _ v u Q I rx ry ⟨_, _, rfl, rfl, q _ H (Stp.refl m) rg_int⟩
  · split at e
    · rename_i hz
      cases e
      rw [vw_str h1] at rx
      rw [vw_str h2] at ry
      exact op_add_str pins s σ H _ _ v u Q I rx ry ⟨_, _, rfl, rfl, hz, q _ H (Stp.refl m) rg_str⟩
    · cases e
  · split at e
    · rename_i hz
      cases e
      obtain ⟨a1, xs, e1, g1, r1⟩ := h1.rd
      obtain ⟨a2, ys, e2, g2, r2⟩ := h2.rd
      subst e1 e2
      cases rx
      cases ry
      obtain ⟨z1, i1, n1, v1, o1⟩ := Inv.rdl I g1
      obtain ⟨z2, i2, n2, v2, o2⟩ := Inv.rdl I g2
      have l1 := r1.length
      have l2 := r2.length
      have k1 := v1.length
      have k2 := v2.length
      refine PySem.P.add_list o1 o2 ?_ (by rw [List.size_toArray, List.size_toArray]; omega)
      have ee : i1.toArray ++ i2.toArray = (i1 ++ i2).toArray := by simp
      rw [ee]
      exact ep_list (T := C.T) (t := s.toks) I m (v1.append v2) (by rw [List.length_append]; omega) (r1.app r2) q
    · cases e
  · rename_i ds es
    split at e
    · rename_i hz
      cases e
      obtain ⟨a1, xs, e1, g1, r1⟩ := h1.tup
      obtain ⟨a2, ys, e2, g2, r2⟩ := h2.tup
      subst e1 e2
      have l1 := r1.length
      have l2 := r2.length
      refine op_catA pins s σ H _ _ v u Q I rx ry ⟨a1, a2, xs, ys, rfl, rfl, g1, g2, by omega, fun hx => ?_, fun hx hy => ?_, fun hx hy p hp => ?_⟩
      · have : RV C.X.K H (.tup (ds ++ es)) (.ref a2) := by
          unfold RV
          refine ⟨a2, ys, rfl, g2, ?_⟩
          have := r1.app r2
          rw [hx, List.nil_append] at this
          exact this
        exact q _ H (Stp.refl m) this
      · have : RV C.X.K H (.tup (ds ++ es)) (.ref a1) := by
          unfold RV
          refine ⟨a1, xs, rfl, g1, ?_⟩
          have := r1.app r2
          rw [hy, List.append_nil] at this
          exact this
        exact q _ H (Stp.refl m) this
      · have st : Stp C.X.K C.T M H M (upd H p (.tup (xs ++ ys))) := Stp.laid m hp
        have : RV C.X.K (upd H p (.tup (xs ++ ys))) (.tup (ds ++ es)) (.ref p) := by
          unfold RV
          exact ⟨p, _, rfl, SqT.of upd_same, RVs.fx st.fx _ (r1.app r2)⟩
        exact q _ _ st this
    · cases e
  · cases e
end
end Tn

set_option Elab.async false
set_option linter.all false
set_option maxRecDepth 100000
set_option maxHeartbeats 4000000
namespace Tn
open PySem PySem.Spec PyProof.Rows L2

section
variable {C : Cn}
theorem od_mul : OpD C .fresh (binaryOp .Mult) dMul := fun pins s σ H M x y v u Q d1 d2 d I m rx ry h1 h2 e q => by
  unfold dMul at e
  split at e
  · split at e
    · rename_i hj
      cases e
      rw [vw_int h1] at rx
      rw [vw_int h2] at ry
      obtain ⟨t, rfl⟩ := rx
      obtain ⟨t', rfl⟩ := ry
      exact mul_int ⟨.int _, H, I.tok _, ⟨_, rfl⟩, q _ H (Stp.refl m) rg_int⟩ hj
    · cases e
  · rename_i ds k
    split at e
    · rename_i hc
      obtain ⟨k1, k2, k3⟩ := hc
      cases e
      obtain ⟨a, xs, e1, g1, r1⟩ := h1.rd
      subst e1
      rw [vw_int h2] at ry
      obtain ⟨t, rfl⟩ := ry
      cases rx
      obtain ⟨z1, its, n1, v1, o1⟩ := Inv.rdl I g1
      have l1 := r1.length
      have e0 := v1.length
      have hA : its.toArray.size * k.toNat ≤ sizeLine := by rw [List.size_toArray, ← e0, ← l1]; exact k3
      have hB : ¬ its.toArray.size * k.toNat > (2 ^ 63 - 1) / 8 := by
        have w : (sizeLine : Nat) ≤ (2 ^ 63 - 1) / 8 := by decide
        omega
      have hF : ¬ (!Builtin.List.listFitsIndex k) = true := by rw [fitsIndex_both k2 k1]; decide
      have hL : ¬ Builtin.List.listTooLong (its.toArray.size * k.toNat) = true := by rw [notLongL hA]; decide
      have f0 : ∀ m : Nat, List.foldl (fun p q => p ++ q) #[] (List.replicate m its.toArray) = (List.replicate m its).flatten.toArray := fun m => by
        have w := foldl_rep its m []
        rw [List.nil_append] at w
        exact w
      have hnew : List.foldl (fun p q => p ++ q) #[] (List.replicate (if its.toArray.isEmpty = true then 0 else k.toNat) its.toArray) = (List.replicate k.toNat its).flatten.toArray := by
        rw [f0]
        cases its with
        | nil => simp
        | cons a r' => rw [if_neg (by simp)]
      refine wpAny_binaryOp_repeat_ref (T := "list") (U := "int") (by decide) ⟨_, o1, rfl⟩ (fun s' => typeIs_int s' k t) noFill_list_mul F.fills_int_mul F.slot_int_rmul repeat_list
        F.slot_int_index.lookup ?_
      refine call_meets F.slot_int_rmul (typeIs_int s k t) F.entry_int_rmul (F.args_int_rmul_2 _ _) (int___rmul___int_list k t a its.toArray n1) ⟨o1, rfl, ⟨_, o1, rfl⟩, ?_⟩
      refine call_meets F.slot_list_mul ⟨_, o1, rfl⟩ F.entry_list_mul (F.args_list_mul_2 _ _) (AutoListH.list___mul___list_int_3 a its.toArray n1 k t hF hB hL) ⟨o1, ?_⟩
      rw [hnew]
      refine ep_list (T := C.T) (t := s.toks) I m (v1.rep k.toNat) ?_ (r1.rep k.toNat) q
      rw [flat_rep, Nat.mul_comm, ← l1]
      exact k3
    · cases e
  · cases e

/-! ## comparisons -/
def dLt : D → D → Option D
  | .int i, .int j => some (.bl (decide (i < j)))
  | .str i, .str j => some (.bl (decide (i.cps.toList < j.cps.toList)))
  | _, _ => none
def dLe : D → D → Option D
  | .int i, .int j => some (.bl (decide (i ≤ j)))
  | _, _ => none
def dGt : D → D → Option D
  | .int i, .int j => some (.bl (decide (j < i)))
  | _, _ => none
def dGe : D → D → Option D
  | .int i, .int j => some (.bl (decide (j ≤ i)))
  | _, _ => none
def cmpOk (a b : D) : Bool := flat a && flat b && decide (dep a ≤ 64) && decide (dep b ≤ 64)
def dEq (a b : D) : Option D := if cmpOk a b = true then some (.bl (eqD a b)) else none
def dNe (a b : D) : Option D := if cmpOk a b = true then some (.bl (!eqD a b)) else none
def isNon : D → Bool
  | .non => true
  | _ => false
def isUnd : D → Bool
  | .und => true
  | _ => false
def dIs : D → D → Option D
  | .und, _ => none
  | a, .non => some (.bl (isNon a))
  | _, _ => none
def dIsN : D → D → Option D
  | .und, _ => none
  | a, .non => some (.bl (!isNon a))
  | _, _ => none
/-- x in ys by == -/
def dIn (a b : D) : Option D := match b with
  | .lst ds => if flat a && flats ds && decide (dep a ≤ 64) && decide (deps ds < 64) then some (.bl (ds.any fun z => eqD z a)) else none
  | _ => none
def dNin (a b : D) : Option D := match b with
  | .lst ds => if flat a && flats ds && decide (dep a ≤ 64) && decide (deps ds < 64) then some (.bl (!ds.any fun z => eqD z a)) else none
  | _ => none
variable {g : Gr}
theorem od_lt : OpD C g (compareOp .Lt) dLt := fun pins s σ H M x y v u Q d1 d2 d I m rx ry h1 h2 e q => by
  unfold dLt at e
  split at e
  · cases e
    rw [vw_int h1] at rx
    rw [vw_int h2] at ry
    exact op_lt pins s σ H _ _ v u Q I rx ry ⟨_, _, rfl, rfl, q _ H (Stp.refl m) rg_bl⟩
  · cases e
    rw [vw_str h1] at rx
    rw [vw_str h2] at ry
    exact op_lt_str pins s σ H _ _ v u Q I rx ry ⟨_, _, rfl, rfl, q _ H (Stp.refl m) rg_bl⟩
  · cases e
theorem od_le : OpD C g (compareOp .LtE) dLe := fun pins s σ H M x y v u Q d1 d2 d I m rx ry h1 h2 e q => by
  unfold dLe at e
  split at e
  · cases e
    rw [vw_int h1] at rx
    rw [vw_int h2] at ry
    exact op_le pins s σ H _ _ v u Q I rx ry ⟨_, _, rfl, rfl, q _ H (Stp.refl m) rg_bl⟩
  · cases e
theorem od_gt : OpD C g (compareOp .Gt) dGt := fun pins s σ H M x y v u Q d1 d2 d I m rx ry h1 h2 e q => by
  unfold dGt at e
  split at e
  · cases e
    rw [vw_int h1] at rx
    rw [vw_int h2] at ry
    exact op_gt pins s σ H _ _ v u Q I rx ry ⟨_, _, rfl, rfl, q _ H (Stp.refl m) rg_bl⟩
  · cases e
theorem od_ge : OpD C g (compareOp .GtE) dGe := fun pins s σ H M x y v u Q d1 d2 d I m rx ry h1 h2 e q => by
  unfold dGe at e
  split at e
  · cases e
    rw [vw_int h1] at rx
    rw [vw_int h2] at ry
    exact op_ge pins s σ H _ _ v u Q I rx ry ⟨_, _, rfl, rfl, q _ H (Stp.refl m) rg_bl⟩
  · cases e
theorem cmpOk_of {a b : D} (h : cmpOk a b = true) : flat a = true ∧ flat b = true ∧ dep a ≤ 64 ∧ dep b ≤ 64 := by
  simp only [cmpOk, Bool.and_eq_true, decide_eq_true_eq] at h
  exact ⟨h.1.1.1, h.1.1.2, h.1.2, h.2⟩
theorem od_eq (hu : C.X.A.units + 64 < cLine) : OpD C g (compareOp .Eq) dEq := fun pins s σ H M x y v u Q d1 d2 d I m rx ry h1 h2 e q => by
  unfold dEq at e
  split at e
  · rename_i hc
    obtain ⟨c1, c2, c3, c4⟩ := cmpOk_of hc
    cases e
    refine op_eqD hu pins s σ H _ _ v u Q I rx ry ⟨_, _, h1.dp c1, h2.dp c2, shaped_of c1 c3, shaped_of c2 c4, ?_⟩
    rw [eqD_py _ _ c1 c2]
    exact q _ H (Stp.refl m) rg_bl
  · cases e
theorem od_ne (hu : C.X.A.units + 64 < cLine) : OpD C g (compareOp .NotEq) dNe := fun pins s σ H M x y v u Q d1 d2 d I m rx ry h1 h2 e q => by
  unfold dNe at e
  split at e
  · rename_i hc
    obtain ⟨c1, c2, c3, c4⟩ := cmpOk_of hc
    cases e
    refine op_neD hu pins s σ H _ _ v u Q I rx ry ⟨_, _, h1.dp c1, h2.dp c2, shaped_of c1 c3, shaped_of c2 c4, ?_⟩
    rw [eqD_py _ _ c1 c2]
    exact q _ H (Stp.refl m) rg_bl
  · cases e
theorem isNon_vw {K : PySem.W.Frag} {H : Hp} {d : D} {x : V} (h : VX K H d x) (n : isUnd d = false) : decide (x = .non) = isNon d := by
  cases d with
  | und => simp [isUnd] at n
  | non => rw [show x = .non from h]; rfl
  | bl b => rw [show x = .bl b from h]; rfl
  | int b => rw [show x = .int b from h]; rfl
  | str b => rw [show x = .str b from h]; rfl
  | tup ds => obtain ⟨a, xs, e, _⟩ := h.tup; rw [e]; rfl
  | lst ds => obtain ⟨a, xs, e, _⟩ := h; rw [e]; rfl
  | dct ks vs => obtain ⟨a, xs, u, e, _⟩ := h; rw [e]; rfl
  | ref a => rw [show x = .ref a from h]; rfl
  | exc c ns fs =>
    have h' : RV K H (.exc c ns fs) x := h
    unfold RV at h'
    obtain ⟨a, xs, e, _⟩ := h'
    rw [e]; rfl
  | scr ds =>
    have h' : RV K H (.scr ds) x := h
    unfold RV at h'
    obtain ⟨a, xs, e, _⟩ := h'
    rw [e]; rfl
theorem dIs_of {a b d : D} (h : dIs a b = some d) : isUnd a = false ∧ b = .non ∧ d = .bl (isNon a) := by
  unfold dIs at h
  split at h
  · cases h
  · rename_i n
    cases h
    refine ⟨?_, rfl, rfl⟩
    cases a <;> first | rfl | exact absurd rfl n
  · cases h
theorem dIsN_of {a b d : D} (h : dIsN a b = some d) : isUnd a = false ∧ b = .non ∧ d = .bl (!isNon a) := by
  unfold dIsN at h
  split at h
  · cases h
  · rename_i n
    cases h
    refine ⟨?_, rfl, rfl⟩
    cases a <;> first | rfl | exact absurd rfl n
  · cases h
theorem od_is : OpD C g (compareOp .Is) dIs := fun pins s σ H M x y v u Q d1 d2 d I m rx ry h1 h2 e q => by
  obtain ⟨n, e1, e2⟩ := dIs_of e
  subst e1 e2
  rw [show y = .non from h2] at ry
  refine op_isN pins s σ H _ _ v u Q I rx ry ⟨rfl, ?_⟩
  rw [isNon_vw h1 n]
  exact q _ H (Stp.refl m) rg_bl
theorem od_isn : OpD C g (compareOp .IsNot) dIsN := fun pins s σ H M x y v u Q d1 d2 d I m rx ry h1 h2 e q => by
  obtain ⟨n, e1, e2⟩ := dIsN_of e
  subst e1 e2
  rw [show y = .non from h2] at ry
  refine op_notN pins s σ H _ _ v u Q I rx ry ⟨rfl, ?_⟩
  rw [isNon_vw h1 n]
  exact q _ H (Stp.refl m) rg_bl
theorem any_py {a : D} (ha : flat a = true) : ∀ ds : List D, flats ds = true → ((toPys ds).any fun z => PyData.eqv z (toPy a)) = ds.any fun z => eqD z a
  | [], _ => rfl
  | d :: ds, h => by
    simp only [flats, Bool.and_eq_true] at h
    simp only [toPys, List.any_cons, eqD_py d a h.1 ha, any_py ha ds h.2]
theorem od_in (hu : C.X.A.units + 65 < cLine) : OpD C g (compareOp .In) dIn := fun pins s σ H M x y v u Q d1 d2 d I m rx ry h1 h2 e q => by
  unfold dIn at e
  split at e
  · rename_i ds
    split at e
    · rename_i hc
      simp only [Bool.and_eq_true, decide_eq_true_eq] at hc
      obtain ⟨⟨⟨c1, c2⟩, c3⟩, c4⟩ := hc
      cases e
      have f2 : flat (.lst ds) = true := by simpa [flat] using c2
      have p2 := h2.dp f2
      have s2 := shaped_of f2 (show dep (.lst ds) ≤ 64 by simp only [dep]; omega)
      simp only [toPy] at p2 s2
      refine op_inD hu pins s σ H _ _ v u Q I rx ry ⟨_, _, h1.dp c1, p2, shaped_of c1 c3, s2, ?_⟩
      rw [any_py c1 ds c2]
      exact q _ H (Stp.refl m) rg_bl
    · cases e
  · cases e
theorem od_nin (hu : C.X.A.units + 65 < cLine) : OpD C g (compareOp .NotIn) dNin := fun pins s σ H M x y v u Q d1 d2 d I m rx ry h1 h2 e q => by
  unfold dNin at e
  split at e
  · rename_i ds
    split at e
    · rename_i hc
      simp only [Bool.and_eq_true, decide_eq_true_eq] at hc
      obtain ⟨⟨⟨c1, c2⟩, c3⟩, c4⟩ := hc
      cases e
      have f2 : flat (.lst ds) = true := by simpa [flat] using c2
      have p2 := h2.dp f2
      have s2 := shaped_of f2 (show dep (.lst ds) ≤ 64 by simp only [dep]; omega)
      simp only [toPy] at p2 s2
      refine op_notInD hu pins s σ H _ _ v u Q I rx ry ⟨_, _, h1.dp c1, p2, shaped_of c1 c3, s2, ?_⟩
      rw [any_py c1 ds c2]
      exact q _ H (Stp.refl m) rg_bl
    · cases e
  · cases e
end
end Tn

set_option Elab.async false
set_option linter.all false
set_option maxRecDepth 100000
set_option maxHeartbeats 4000000
namespace Tn
open PySem PySem.Spec PyProof.Rows L2

/-! ## tests -/
abbrev TF := Env → Mem → Res Bool
def RunT (K : PySem.W.Frag) (T : List (Addr × Str)) (W : WX) (σ : L2.St) (H : Hp) (M : Mem) (r : Res Bool) (Q : Bool → Hp → Prop) : Prop := match r with
  | .ok b M' => ∀ H', Stp K T M H M' H' → Q b H'
  | .err c ns fs M' => ∀ oe H', Stp K T M H M' H' → XF K H' oe ns fs → W (.ref c) oe σ H'
  | .bad => False
def tDT (C : Cn) (own : List Ow) (F : TF) : TT := fun σ H Q => ∃ η M, StE C.X.K C.T own σ H η M ∧ RunT C.X.K C.T C.W σ H M (F η M) Q
def DT (C : Cn) (own : List Ow) (e : Expr) (F : TF) : Prop := PT C.X e (tDT C own F)
/-- a test, then what is asked behind it -/
theorem RunT.step {C : Cn} {own : List Ow} {F : TF} {σ : L2.St} {H : Hp} {η : Env} {M : Mem} {β : Type} {k : Bool → Mem → Res β} {Q : Bool → Hp → Prop} {P : Res β → Prop}
    (S : StE C.X.K C.T own σ H η M) (h : P ((F η M).bind k))
    (he : ∀ c ns fs M', P (.err c ns fs M') → ∀ oe H', Stp C.X.K C.T M H M' H' → XF C.X.K H' oe ns fs → C.W (.ref c) oe σ H') (hb : ¬ P .bad)
    (hq : ∀ d M' H', P (k d M') → Stp C.X.K C.T M H M' H' → StE C.X.K C.T own σ H' η M' → Q d H') : tDT C own F σ H Q := by
  refine ⟨η, M, S, ?_⟩
  cases e : F η M with
  | ok d M' =>
    rw [e] at h
    exact fun H' st => hq d M' H' h st (S.stp st)
  | err c ns fs M' =>
    rw [e] at h
    exact he c ns fs M' h
  | bad =>
    rw [e] at h
    exact absurd h hb
/-- an expression's end is changed without a further run -/
theorem RunE.then {C : Cn} {g g' : Gr} {own : List Ow} {F : EF} {f : D → Option D} {σ : L2.St} {H : Hp} {Q Q' : VK}
    (h : tD C g' own (fun η M => (F η M).bind fun d M' => Res.opt (f d) M') σ H Q) (hq : ∀ d z d' H0 M' H', f d = some d' → RG C.X.K g H0 M' H' d z → MOk C.X.K M' H' → (∀ z', RG C.X.K g' H0 M' H' d' z' → Q z' H') → Q' z H') : tD C g own F σ H Q' := by
  obtain ⟨η, M, S, q⟩ := h
  refine RunE.step (P := fun r => RunE C.X.K C.T C.W g' σ H M r Q) S q (fun c ns fs M' q => q) (fun q => q) fun d M1 x H1 q1 s1 S1 r1 => ?_
  cases e : f d with
  | none => rw [e] at q1; exact q1.elim
  | some d' =>
    rw [e] at q1
    exact hq d x d' H M1 H1 e r1 s1.mo fun z' rg => q1 z' H1 s1 rg

/-- truth -/
def dTru : D → Option Bool
  | .non => some false
  | .bl b => some b
  | .int i => some (i != 0)
  | .str y => if y.length ≤ sizeLine then some ((y.length : Int) != 0) else none
  | .tup ds => some (!ds.isEmpty)
  | .lst ds => some (!ds.isEmpty)
  | _ => none
@[simp] def tOf (f : D → Option Bool) (F : EF) : TF := fun η M => (F η M).bind fun d M' => Res.opt (f d) M'
def eOf (F : TF) : EF := fun η M => (F η M).bind fun b M' => .ok (.bl b) M'
def dBl : D → Option Bool
  | .bl b => some b
  | _ => none
theorem RVs.isEmpty {K : PySem.W.Frag} {H : Hp} {ds : List D} {xs : List V} (h : RVs K H ds xs) : xs.isEmpty = ds.isEmpty := by
  have l := h.length
  cases ds <;> cases xs <;> first | rfl | simp at l
section
variable {C : Cn} {own : List Ow} {a b c e : Expr} {F G : EF} {f : D → Option Bool} {A B Cc : TF} {pos : Pos}
theorem tOf_then {g : Gr} {σ : L2.St} {H : Hp} {Q : Bool → Hp → Prop} {Q' : VK} (h : tDT C own (tOf f F) σ H Q) (hq : ∀ (d : D) (z : V) (k : Bool) (M' : Mem) (H' : Hp), f d = some k → VX C.X.K H' d z → Q k H' → Q' z H') : tD C g own F σ H Q' := by
  obtain ⟨η, M, S, q⟩ := h
  refine RunE.step (P := fun r => RunT C.X.K C.T C.W σ H M r Q) S q (fun c ns fs M' q => q) (fun q => q) fun d M1 x H1 q1 s1 S1 r1 => ?_
  cases e : f d with
  | none => rw [e] at q1; exact q1.elim
  | some k =>
    rw [e] at q1
    exact hq d x k M1 H1 e r1.vw.vx (q1 H1 s1)
theorem tru_vw {K : PySem.W.Frag} {H : Hp} {d : D} {z : V} {k : Bool} (h : dTru d = some k) (r : VX K H d z) : TruV K z H k := by
  cases d with
  | non => rw [show z = .non from r]; simp only [dTru] at h; cases h; rfl
  | bl b => rw [show z = .bl b from r]; simp only [dTru] at h; cases h; rfl
  | int b => rw [show z = .int b from r]; simp only [dTru] at h; cases h; rfl
  | str b =>
    rw [show z = .str b from r]
    simp only [dTru] at h
    split at h
    · rename_i hz
      cases h
      exact ⟨hz, rfl⟩
    · cases h
  | tup ds =>
    obtain ⟨a, xs, e, q, r⟩ := r.tup
    simp only [dTru] at h
    cases h
    rw [e]
    exact .inr (.inl ⟨xs, q, by rw [r.isEmpty]⟩)
  | lst ds =>
    obtain ⟨a, xs, e, q, r⟩ := r.sq
    simp only [dTru] at h
    cases h
    rw [e]
    exact .inl ⟨xs, q, by rw [r.isEmpty]⟩
  | _ => simp [dTru] at h
theorem dt_val {g : Gr} (h : DE C g own e F) (he : ∀ whole, isTrue e C.X.env whole = (do let v ← whole; standAt e.pos; holding [v] (truthy v)) := by intro _; rfl) : DT C own e (tOf dTru F) :=
  PT.imp (pt_truth h he) fun _ _ _ q => tOf_then q fun _ _ k _ _ e r q => ⟨k, tru_vw e r, q⟩
theorem bl_vw {K : PySem.W.Frag} {H : Hp} {d : D} {z : V} {k : Bool} (h : dBl d = some k) (r : VX K H d z) : z = .bl k := by
  cases d <;> simp [dBl] at h
  subst h
  exact r
theorem dt_cmp {g1 g2 : Gr} {op : CmpOp} {f : D → D → Option D} (o : OpD C .view (compareOp op) f) (ha : DE C g1 own a F) (hb : DE C g2 own b G) (hm : behindInMarks op b = false) : DT C own (.Compare a [op] [b] pos) (tOf dBl (eOp2 f F G)) := by
  refine PT.imp (pt_cmpR o.r ha hb hm) fun σ H Q q => ?_
  have h : tD C .view own (eOp2 f F G) σ H (fun z H' => ∃ k, z = .bl k ∧ Q k H') := tOf_then q fun _ _ k _ _ e r q => ⟨k, bl_vw e r, q⟩
  exact tOp_of h
/-- by a truth value -/
def onBl {α : Type} (d : D) (t f : Res α) : Res α := match d with
  | .bl true => t
  | .bl false => f
  | _ => .bad
theorem onBl_t {α : Type} (t f : Res α) : onBl (.bl true) t f = t := rfl
theorem onBl_f {α : Type} (t f : Res α) : onBl (.bl false) t f = f := rfl
theorem onBl_d {α : Type} (b : Bool) (t f : Res α) : onBl (.bl b) t f = if b then t else f := by cases b <;> rfl
/-- a chain of two -/
@[simp] def eChain (f f' : D → D → Option D) (F G Fc : EF) : EF := fun η M => (F η M).bind fun d1 M1 => (G η M1).bind fun d2 M2 => (Res.opt (f d1 d2) M2).bind fun k M3 =>
  onBl k ((Fc η M3).bind fun d3 M4 => Res.opt (f' d2 d3) M4) (.ok (.bl false) M3)
theorem tChain_of {g g1 g2 g3 : Gr} {f f' : D → D → Option D} {Fc : EF} {σ : L2.St} {H : Hp} {Q : VK} (h : tD C g own (eChain f f' F G Fc) σ H Q) : tChain (rD C .view f) (rD C g f') (tD C g1 own F) (tD C g2 own G) (tD C g3 own Fc) σ H Q := by
  obtain ⟨η, M, S, q⟩ := h
  refine RunE.step (P := fun r => RunE C.X.K C.T C.W g σ H M r Q) S q (fun c ns fs M' q => q) (fun q => q) fun d1 M1 x H1 q1 s1 S1 r1 => ?_
  refine RunE.step (P := fun r => RunE C.X.K C.T C.W g σ H M r Q) S1 q1 (fun c ns fs M' q oe H' s x => q oe H' (s1.trans s) x) (fun q => q) fun d2 M2 y H2 q2 s2 S2 r2 => ?_
  have s12 := s1.trans s2
  cases e : f d1 d2 with
  | none => rw [e] at q2; exact q2.elim
  | some d =>
    rw [e] at q2
    refine ⟨M2, d1, d2, d, s2.mo, (r1.vw.stp s2).vx, r2.vw.vx, e, fun z H3 s3 rg => ?_⟩
    change RunE C.X.K C.T C.W g σ H M (onBl d ((Fc η M2).bind fun d3 M4 => Res.opt (f' d2 d3) M4) (.ok (.bl false) M2)) Q at q2
    unfold onBl at q2
    split at q2
    · refine ⟨true, rg, ?_⟩
      rw [if_pos rfl]
      refine RunE.step (P := fun r => RunE C.X.K C.T C.W g σ H M r Q) (S2.stp s3) q2 (fun c ns fs M' q oe H' s x => q oe H' ((s12.trans s3).trans s) x) (fun q => q) fun d3 M4 w H4 q4 s4 S4 r4 => ?_
      cases e' : f' d2 d3 with
      | none => rw [e'] at q4; exact q4.elim
      | some d' =>
        rw [e'] at q4
        exact ⟨M4, d2, d3, d', s4.mo, (r2.vw.stp (s3.trans s4)).vx, r4.vw.vx, e', fun z H' st rg => q4 z H' (((s12.trans s3).trans s4).trans st) (rg.back ((s12.trans s3).trans s4).th)⟩
    · refine ⟨false, rg, ?_⟩
      rw [if_neg (by simp)]
      exact q2 _ H3 (s12.trans s3) rg_bl
    · exact q2.elim
theorem de_chain {g g1 g2 g3 : Gr} {f f' : D → D → Option D} {Fc : EF} {op op' : CmpOp} (o : OpD C .view (compareOp op) f) (o' : OpD C g (compareOp op') f') (ha : DE C g1 own a F) (hb : DE C g2 own b G) (hc : DE C g3 own c Fc)
    (hm : lastMarks [op, op'] [b, c] = false := by with_unfolding_all rfl) : DE C g own (.Compare a [op, op'] [b, c] pos) (eChain f f' F G Fc) :=
  PE.imp (pe_chain o.r o'.r ha hb hc hm) fun _ _ _ h => tChain_of h
theorem dt_chain {g1 g2 g3 : Gr} {f f' : D → D → Option D} {Fc : EF} {op op' : CmpOp} (o : OpD C .view (compareOp op) f) (o' : OpD C .view (compareOp op') f') (ha : DE C g1 own a F) (hb : DE C g2 own b G) (hc : DE C g3 own c Fc)
    (hm : lastMarks [op, op'] [b, c] = false := by with_unfolding_all rfl) : DT C own (.Compare a [op, op'] [b, c] pos) (tOf dBl (eChain f f' F G Fc)) := by
  refine PT.imp (pt_chain o.r o'.r ha hb hc hm) fun σ H Q q => ?_
  have h : tD C .view own (eChain f f' F G Fc) σ H (fun z H' => ∃ k, z = .bl k ∧ Q k H') := tOf_then q fun _ _ k _ _ e r q => ⟨k, bl_vw e r, q⟩
  exact tChain_of h

/-! ## not, and, or, if .. else -/
@[simp] def tNt (A : TF) : TF := fun η M => (A η M).bind fun b M' => .ok (!b) M'
@[simp] def tAn (A B : TF) : TF := fun η M => (A η M).bind fun b M' => if b then B η M' else .ok false M'
@[simp] def tOo (A B : TF) : TF := fun η M => (A η M).bind fun b M' => if b then .ok true M' else B η M'
@[simp] def eIf (A : TF) (F G : EF) : EF := fun η M => (A η M).bind fun b M' => if b then F η M' else G η M'
theorem dt_not (h : DT C own a A) : DT C own (.UnaryOp .Not a pos) (tNt A) := by
  refine PT.imp (pt_not h) fun σ H Q ⟨η, M, S, q⟩ => ?_
  exact RunT.step (P := fun r => RunT C.X.K C.T C.W σ H M r Q) S q (fun c ns fs M' q => q) (fun q => q) fun d M1 H1 q1 s1 S1 => q1 H1 s1
/-- a test whatever the whole is -/
def DW (C : Cn) (own : List Ow) (e : Expr) (F : TF) : Prop := PW C.X e (tDT C own F)
theorem PW.imp {X : Cx} {e : Expr} {t t' : TT} (h : PW X e t) (i : ∀ σ H Q, t' σ H Q → t σ H Q) : PW X e t' := ⟨fun whole pins s σ H Q I q => h.run whole pins s σ H Q I (i σ H Q q)⟩
theorem dw_and1 (h : DT C own a A) : DW C own (.BoolOp .And [a] pos) A := pw_and1 h
theorem dw_or1 (h : DT C own a A) : DW C own (.BoolOp .Or [a] pos) A := pw_or1 h
theorem dw_and {rest : List Expr} (h : DT C own a A) (hr : DW C own (.BoolOp .And (b :: rest) pos) B) : DW C own (.BoolOp .And (a :: b :: rest) pos) (tAn A B) := by
  refine PW.imp (pw_and h hr) fun σ H Q ⟨η, M, S, q⟩ => ?_
  refine RunT.step (P := fun r => RunT C.X.K C.T C.W σ H M r Q) S q (fun c ns fs M' q => q) (fun q => q) fun d M1 H1 q1 s1 S1 => ?_
  cases d with
  | true =>
    simp only [if_true] at q1 ⊢
    exact RunT.step (k := fun b M => .ok b M) (P := fun r => RunT C.X.K C.T C.W σ H M r Q) S1 (by cases e : B η M1 <;> (rw [e] at q1; exact q1)) (fun c ns fs M' q oe H' s x => q oe H' (s1.trans s) x) (fun q => q) fun d M2 H2 q2 s2 S2 => q2 H2 (s1.trans s2)
  | false =>
    rw [if_neg (by simp)] at q1 ⊢
    exact q1 H1 s1
theorem dw_or {rest : List Expr} (h : DT C own a A) (hr : DW C own (.BoolOp .Or (b :: rest) pos) B) : DW C own (.BoolOp .Or (a :: b :: rest) pos) (tOo A B) := by
  refine PW.imp (pw_or h hr) fun σ H Q ⟨η, M, S, q⟩ => ?_
  refine RunT.step (P := fun r => RunT C.X.K C.T C.W σ H M r Q) S q (fun c ns fs M' q => q) (fun q => q) fun d M1 H1 q1 s1 S1 => ?_
  cases d with
  | false =>
    simp only [Bool.false_eq_true, if_false] at q1 ⊢
    exact RunT.step (k := fun b M => .ok b M) (P := fun r => RunT C.X.K C.T C.W σ H M r Q) S1 (by cases e : B η M1 <;> (rw [e] at q1; exact q1)) (fun c ns fs M' q oe H' s x => q oe H' (s1.trans s) x) (fun q => q) fun d M2 H2 q2 s2 S2 => q2 H2 (s1.trans s2)
  | true =>
    simp only [if_true] at q1 ⊢
    exact q1 H1 s1
theorem DW.pt (h : DW C own e A) : DT C own e A := PW.pt h
theorem de_if {g : Gr} (h : DT C own c A) (ha : DE C g own a F) (hb : DE C g own b G) : DE C g own (.IfExp c a b pos) (eIf A F G) := by
  refine PE.imp (pe_ifExp h ha hb) fun σ H Q ⟨η, M, S, q⟩ => ?_
  refine RunT.step (P := fun r => RunE C.X.K C.T C.W g σ H M r Q) S q (fun c ns fs M' q => q) (fun q => q) fun d M1 H1 q1 s1 S1 => ?_
  have key : ∀ {F : EF}, RunE C.X.K C.T C.W g σ H M (F η M1) Q → tD C g own F σ H1 Q := fun {F} q => by
    refine RunE.step (k := fun b M => .ok b M) (P := fun r => RunE C.X.K C.T C.W g σ H M r Q) S1 (by cases e : F η M1 <;> (rw [e] at q; exact q)) (fun c ns fs M' q oe H' s x => q oe H' (s1.trans s) x) (fun q => q) fun d M2 z H2 q2 s2 S2 rg => ?_
    exact q2 z H2 (s1.trans s2) (rg.back s1.th)
  cases d with
  | true => simp only [if_true] at q1 ⊢; exact key q1
  | false => simp only [Bool.false_eq_true, if_false] at q1 ⊢; exact key q1
/-- and, or, not as values: of truth values -/
@[simp] def eAn (F G : EF) : EF := fun η M => (F η M).bind fun d M' => onBl d (G η M') (.ok (.bl false) M')
@[simp] def eOo (F G : EF) : EF := fun η M => (F η M).bind fun d M' => onBl d (.ok (.bl true) M') (G η M')
@[simp] def eNt (F : EF) : EF := fun η M => (F η M).bind fun d M' => match d with
  | .bl b => .ok (.bl (!b)) M'
  | _ => .bad
theorem de_one {g : Gr} {op} (h : DE C g own a F) : DE C g own (.BoolOp op [a] pos) F := pe_one h
theorem tD_go {g : Gr} {σ : L2.St} {H H1 : Hp} {η : Env} {M M1 : Mem} {Q : VK} {F : EF} (s1 : Stp C.X.K C.T M H M1 H1) (S1 : StE C.X.K C.T own σ H1 η M1) (q : RunE C.X.K C.T C.W g σ H M (F η M1) Q) : tD C g own F σ H1 Q := by
  refine RunE.step (k := fun b M => .ok b M) (P := fun r => RunE C.X.K C.T C.W g σ H M r Q) S1 (by cases e : F η M1 <;> (rw [e] at q; exact q)) (fun c ns fs M' q oe H' s x => q oe H' (s1.trans s) x) (fun q => q) fun d M2 z H2 q2 s2 S2 rg => ?_
  exact q2 z H2 (s1.trans s2) (rg.back s1.th)
theorem de_and {g g1 : Gr} {rest : List Expr} (ha : DE C g1 own a F) (hb : DE C g own (.BoolOp .And (b :: rest) pos) G) : DE C g own (.BoolOp .And (a :: b :: rest) pos) (eAn F G) := by
  refine PE.imp (pe_and ha hb) fun σ H Q ⟨η, M, S, q⟩ => ?_
  refine RunE.step (P := fun r => RunE C.X.K C.T C.W g σ H M r Q) S q (fun c ns fs M' q => q) (fun q => q) fun d M1 x H1 q1 s1 S1 r1 => ?_
  unfold onBl at q1
  split at q1
  · exact ⟨true, vw_bl r1.vw.vx, by rw [if_pos rfl]; exact tD_go s1 S1 q1⟩
  · exact ⟨false, vw_bl r1.vw.vx, by rw [if_neg (by simp)]; exact q1 _ H1 s1 rg_bl⟩
  · exact q1.elim
theorem de_or {g g1 : Gr} {rest : List Expr} (ha : DE C g1 own a F) (hb : DE C g own (.BoolOp .Or (b :: rest) pos) G) : DE C g own (.BoolOp .Or (a :: b :: rest) pos) (eOo F G) := by
  refine PE.imp (pe_or ha hb) fun σ H Q ⟨η, M, S, q⟩ => ?_
  refine RunE.step (P := fun r => RunE C.X.K C.T C.W g σ H M r Q) S q (fun c ns fs M' q => q) (fun q => q) fun d M1 x H1 q1 s1 S1 r1 => ?_
  unfold onBl at q1
  split at q1
  · exact ⟨true, vw_bl r1.vw.vx, by rw [if_pos rfl]; exact q1 _ H1 s1 rg_bl⟩
  · exact ⟨false, vw_bl r1.vw.vx, by rw [if_neg (by simp)]; exact tD_go s1 S1 q1⟩
  · exact q1.elim
theorem de_not {g g1 : Gr} (ha : DE C g1 own a F) : DE C g own (.UnaryOp .Not a pos) (eNt F) := by
  refine PE.imp (pe_not ha) fun σ H Q ⟨η, M, S, q⟩ => ?_
  refine RunE.step (P := fun r => RunE C.X.K C.T C.W g σ H M r Q) S q (fun c ns fs M' q => q) (fun q => q) fun d M1 x H1 q1 s1 S1 r1 => ?_
  split at q1
  · exact ⟨_, vw_bl r1.vw.vx, q1 _ H1 s1 rg_bl⟩
  · exact q1.elim
/-- less a number -/
@[simp] def eNeg (F : EF) : EF := fun η M => (F η M).bind fun d M' => match d with
  | .int b => .ok (.int (-b)) M'
  | _ => .bad
theorem de_neg {g g1 : Gr} (ha : DE C g1 own a F) : DE C g own (.UnaryOp .USub a pos) (eNeg F) := by
  refine PE.imp (pe_un un_neg ha) fun σ H Q ⟨η, M, S, q⟩ => ?_
  refine RunE.step (P := fun r => RunE C.X.K C.T C.W g σ H M r Q) S q (fun c ns fs M' q => q) (fun q => q) fun d M1 x H1 q1 s1 S1 r1 => ?_
  split at q1
  · exact ⟨_, vw_int r1.vw.vx, q1 _ H1 s1 rg_int⟩
  · exact q1.elim
end
end Tn

set_option Elab.async false
set_option linter.all false
set_option maxRecDepth 100000
set_option maxHeartbeats 4000000
namespace Tn
open PySem PySem.Spec PyProof.Rows L2

/-! ## displays -/
@[simp] def eTup (Fs : List EF) : EF := fun η M => (eArgs Fs η M).bind fun ds M' => .ok (.tup ds) M'
@[simp] def eLst (Fs : List EF) : EF := fun η M => (eArgs Fs η M).bind fun ds M' => .ok (.lst ds) M'
/-- arguments, then what is asked behind them -/
theorem RunA.step {C : Cn} {own : List Ow} {Fs : List EF} {σ : L2.St} {H : Hp} {η : Env} {M : Mem} {β : Type} {k : List D → Mem → Res β} {Q : List V → Hp → Prop} {P : Res β → Prop}
    (S : StE C.X.K C.T own σ H η M) (h : P ((eArgs Fs η M).bind k))
    (he : ∀ c ns fs M', P (.err c ns fs M') → ∀ oe H', Stp C.X.K C.T M H M' H' → XF C.X.K H' oe ns fs → C.W (.ref c) oe σ H') (hb : ¬ P .bad)
    (hq : ∀ ds M' vs H', P (k ds M') → ds.length = Fs.length → Stp C.X.K C.T M H M' H' → StE C.X.K C.T own σ H' η M' → RVs C.X.K H' ds vs → Q vs H') : tDA C own Fs σ H Q := by
  refine ⟨η, M, S, ?_⟩
  cases e : eArgs Fs η M with
  | ok ds M' =>
    rw [e] at h
    exact fun vs H' st rg => hq ds M' vs H' h (eArgs_len e) st (S.stp st) rg
  | err c ns fs M' =>
    rw [e] at h
    exact he c ns fs M' h
  | bad =>
    rw [e] at h
    exact absurd h hb
section
variable {C : Cn} {own : List Ow} {e : Expr} {es : List Expr} {F G : EF} {Fs : List EF} {pos : Pos}
theorem de_tup {g : Gr} {x1} (h : DA C own es Fs) (hz : Fs.length ≤ 1000 := by exact Nat.le_of_ble_eq_true rfl) : DE C g own (.Tuple es x1 pos) (eTup Fs) := by
  refine PE.imp (pe_tup h) fun σ H Q ⟨η, M, S, q⟩ => ?_
  refine RunA.step (P := fun r => RunE C.X.K C.T C.W g σ H M r Q) S q (fun c ns fs M' q => q) (fun q => q) fun ds M1 xs H1 q1 hl s1 S1 r1 => ?_
  have l1 := r1.length
  refine ⟨Nat.le_trans (show xs.length ≤ 1000 by omega) (by decide), fun p hp => ?_⟩
  have st : Stp C.X.K C.T M1 H1 M1 (upd H1 p (.tup xs)) := Stp.laid s1.mo hp
  refine q1 _ _ (s1.trans st) (RG.scal (fun _ z => by cases z) (fun _ _ z => by cases z) ?_)
  unfold RV
  exact ⟨p, xs, rfl, SqT.of upd_same, RVs.fx st.fx _ r1⟩
theorem de_lst (h : DA C own es Fs) (hz : Fs.length ≤ 1000 := by exact Nat.le_of_ble_eq_true rfl) : DE C .fresh own (.List es pos) (eLst Fs) := by
  refine PE.imp (pe_lst h) fun σ H Q ⟨η, M, S, q⟩ => ?_
  refine RunA.step (P := fun r => RunE C.X.K C.T C.W .fresh σ H M r Q) S q (fun c ns fs M' q => q) (fun q => q) fun ds M1 xs H1 q1 hl s1 S1 r1 => ?_
  have l1 := r1.length
  refine ⟨Nat.le_trans (show xs.length ≤ 1000 by omega) (by decide), fun p hp => ?_⟩
  have st : Stp C.X.K C.T M1 H1 M1 (upd H1 p (.lst xs)) := Stp.laid s1.mo hp
  have fr : FR C.X.K H1 M1 (upd H1 p (.lst xs)) (.lst ds) (.ref p) := ⟨p, xs, rfl, nw_of hp, upd_same, s1.mo.none_of hp, RVs.fx st.fx _ r1⟩
  exact q1 _ _ (s1.trans st) (RG.back (g := .fresh) s1.th fr)
end

/-! ## calls of built-ins: their arguments are looked at -/
def VWs (K : PySem.W.Frag) (M : Mem) (H : Hp) : List D → List V → Prop
  | [], vs => vs = []
  | d :: ds, vs => ∃ v r, vs = v :: r ∧ VW K M H d v ∧ VWs K M H ds r
def VXs (K : PySem.W.Frag) (H : Hp) : List D → List V → Prop
  | [], vs => vs = []
  | d :: ds, vs => ∃ v r, vs = v :: r ∧ VX K H d v ∧ VXs K H ds r
theorem VWs.stp {K : PySem.W.Frag} {T : List (Addr × Str)} {M M1 : Mem} {H H1 : Hp} (s : Stp K T M H M1 H1) : ∀ {ds : List D} {vs : List V}, VWs K M H ds vs → VWs K M1 H1 ds vs
  | [], _, h => h
  | _ :: _, _, ⟨v, r, e, h1, h2⟩ => ⟨v, r, e, h1.stp s, VWs.stp s h2⟩
theorem VWs.vx {K : PySem.W.Frag} {M : Mem} {H : Hp} : ∀ {ds : List D} {vs : List V}, VWs K M H ds vs → VXs K H ds vs
  | [], _, h => h
  | _ :: _, _, ⟨v, r, e, h1, h2⟩ => ⟨v, r, e, h1.vx, VWs.vx h2⟩
def RunV (K : PySem.W.Frag) (T : List (Addr × Str)) (W : WX) (σ : L2.St) (H : Hp) (M : Mem) (r : Res (List D)) (Q : List V → Hp → Prop) : Prop := match r with
  | .ok ds M' => ∀ vs H', Stp K T M H M' H' → VWs K M' H' ds vs → Q vs H'
  | .err c ns fs M' => ∀ oe H', Stp K T M H M' H' → XF K H' oe ns fs → W (.ref c) oe σ H'
  | .bad => False
def tDV (C : Cn) (own : List Ow) (Fs : List EF) : TA := fun σ H Q => ∃ η M, StE C.X.K C.T own σ H η M ∧ RunV C.X.K C.T C.W σ H M (eArgs Fs η M) Q
def DV (C : Cn) (own : List Ow) (es : List Expr) (Fs : List EF) : Prop := PA C.X es (tDV C own Fs)
/-- what a built-in makes of trees -/
def CallD (C : Cn) (g : Gr) (f : Value) (bf : List D → Option D) : Prop :=
  ∀ (pins : List (Addr × Obj)) (s : Shared) (σ : L2.St) (H : Hp) (M : Mem) (vs : List V) (us : List Value) (Q : VK) (ds : List D) (d : D), Inv C.X pins σ H s → MOk C.X.K M H → Vals vs us → VXs C.X.K H ds vs → bf ds = some d →
    (∀ z H', Stp C.X.K C.T M H M H' → RG C.X.K g H M H' d z → Q z H') → wpAny (model C.X.prog C.X.w) C.X.A (call f us) (EP C.X pins σ Q) C.X.xe s
@[simp] def eB (bf : List D → Option D) (Fs : List EF) : EF := fun η M => (eArgs Fs η M).bind fun ds M' => Res.opt (bf ds) M'
section
variable {C : Cn} {own : List Ow} {e a : Expr} {es : List Expr} {F G : EF} {Fs : List EF} {pos p : Pos} {bf : List D → Option D}
theorem dv_nil : DV C own [] [] := PA.imp pa_nil fun σ H Q ⟨η, M, S, q⟩ => q [] H (Stp.refl S.mo) rfl
theorem dv_cons {g : Gr} (h : DE C g own e F) (hs : DV C own es Fs) (hst : starEach (e :: es) C.X.env = (false, eval e C.X.env) :: starEach es C.X.env := by rfl) : DV C own (e :: es) (F :: Fs) := by
  refine PA.imp (pa_cons h hs hst) fun σ H Q ⟨η, M, S, q⟩ => ⟨η, M, S, ?_⟩
  unfold eArgs at q
  cases e : F η M with
  | ok d M1 =>
    rw [e, Res.bind_ok] at q
    intro v H1 s1 r1
    refine ⟨η, M1, S.stp s1, ?_⟩
    cases e2 : eArgs Fs η M1 with
    | ok ds M2 =>
      rw [e2, Res.bind_ok] at q
      exact fun vs H2 s2 r2 => q (v :: vs) H2 (s1.trans s2) ⟨v, vs, rfl, r1.vw.stp s2, r2⟩
    | err c ns fs M2 =>
      rw [e2] at q
      exact fun oe H2 s2 x => q oe H2 (s1.trans s2) x
    | bad =>
      rw [e2] at q
      exact q
  | err c ns fs M1 =>
    rw [e] at q
    exact q
  | bad =>
    rw [e] at q
    exact q
def rCD (C : Cn) (g : Gr) (bf : List D → Option D) : List V → Hp → VK → Prop := fun vs H Q => ∃ M ds d, MOk C.X.K M H ∧ VXs C.X.K H ds vs ∧ bf ds = some d ∧ ∀ z H', Stp C.X.K C.T M H M H' → RG C.X.K g H M H' d z → Q z H'
theorem CallD.r {g : Gr} {f : Value} (o : CallD C g f bf) : CallR C.X f (rCD C g bf) := fun pins s σ H vs us Q I r ⟨M, ds, d, m, h, e, q⟩ => o pins s σ H M vs us Q ds d I m r h e q
theorem tCB_of {g : Gr} {σ : L2.St} {H : Hp} {Q : VK} (h : tD C g own (eB bf Fs) σ H Q) : tCB (rCD C g bf) (tDV C own Fs) σ H Q := by
  obtain ⟨η, M, S, q⟩ := h
  refine ⟨η, M, S, ?_⟩
  unfold eB at q
  cases e : eArgs Fs η M with
  | ok ds M1 =>
    rw [e, Res.bind_ok] at q
    intro vs H1 s1 r1
    cases e2 : bf ds with
    | none => rw [e2] at q; exact q.elim
    | some d =>
      rw [e2] at q
      exact ⟨M1, ds, d, s1.mo, r1.vx, e2, fun z H' st rg => q z H' (s1.trans st) (rg.back s1.th)⟩
  | err c ns fs M1 =>
    rw [e] at q
    exact q
  | bad =>
    rw [e] at q
    exact q
theorem de_b {g : Gr} {x : Str} {id : String} (o : CallD C g (.builtin id) bf) (hg : Gl C.X x) (hm : C.X.mg x = none) (hv : bootBuiltins x = some (.builtin id)) (ha : DV C own (e :: es) Fs) (hn : x ≠ "__name__" := by decide) (hdb : (x == ("__debug__" : Str)) = false := by decide)
    (he : starEach (e :: es) C.X.env = (false, eval e C.X.env) :: starEach es C.X.env := by rfl) (hpl : (backTo pos (starEach es C.X.env)).any (·.1) = false := by rfl) : DE C g own (.Call (.Name x p) (e :: es) [] pos) (eB bf Fs) :=
  PE.imp (pe_callB o.r hg hm hv ha hn hdb he hpl) fun _ _ _ h => tCB_of h
theorem de_ty {g : Gr} {x : Str} {T : String} (o : CallD C g (.type T) bf) (hg : Gl C.X x) (hm : C.X.mg x = none) (hv : bootBuiltins x = some (.type T)) (ha : DV C own (e :: es) Fs) (hn : x ≠ "__name__" := by decide) (hdb : (x == ("__debug__" : Str)) = false := by decide)
    (he : starEach (e :: es) C.X.env = (false, eval e C.X.env) :: starEach es C.X.env := by rfl) (hpl : (backTo pos (starEach es C.X.env)).any (·.1) = false := by rfl) : DE C g own (.Call (.Name x p) (e :: es) [] pos) (eB bf Fs) :=
  PE.imp (pe_callTy o.r hg hm hv ha hn hdb he hpl) fun _ _ _ h => tCB_of h
end
end Tn

set_option Elab.async false
set_option linter.all false
set_option maxRecDepth 100000
set_option maxHeartbeats 4000000
namespace Tn
open PySem PySem.Spec PyProof.Rows L2

/-! ## built-ins -/
section
variable {C : Cn} {g : Gr}
theorem vxs1 {K : PySem.W.Frag} {H : Hp} {d : D} {vs : List V} (h : VXs K H [d] vs) : ∃ v, vs = [v] ∧ VX K H d v := by
  obtain ⟨v, r, e, h1, h2⟩ := h
  exact ⟨v, by rw [e, show r = [] from h2], h1⟩
theorem vxs2 {K : PySem.W.Frag} {H : Hp} {d d2 : D} {vs : List V} (h : VXs K H [d, d2] vs) : ∃ v w, vs = [v, w] ∧ VX K H d v ∧ VX K H d2 w := by
  obtain ⟨v, r, e, h1, h2⟩ := h
  obtain ⟨w, e2, h3⟩ := vxs1 h2
  exact ⟨v, w, by rw [e, e2], h1, h3⟩
theorem VX.scr {K : PySem.W.Frag} {H : Hp} {ds : List D} {v : V} (h : VX K H (.scr ds) v) : ∃ a xs, v = .ref a ∧ SqL K H a xs ∧ RVs K H ds xs := by
  have h' : RV K H (.scr ds) v := h
  unfold RV at h'
  obtain ⟨a, xs, e, q, r⟩ := h'
  exact ⟨a, xs, e, q.sq, r⟩
def bLen : List D → Option D
  | [.lst ds] => some (.int ds.length)
  | [.tup ds] => some (.int ds.length)
  | [.scr ds] => some (.int ds.length)
  | [.str s] => if s.length ≤ sizeLine then some (.int s.length) else none
  | [.dct ks vs] => some (.int vs.length)
  | _ => none
theorem cd_len : CallD C g (.builtin "len") bLen := fun pins s σ H M vs us Q ds d I m rv h e q => by
  unfold bLen at e
  split at e
  · cases e
    obtain ⟨v, rfl, k⟩ := vxs1 h
    obtain ⟨a, xs, rfl, h1, h2⟩ := k.sq
    rw [h2.length] at q
    exact call_len_seq pins s σ H _ us Q I rv ⟨a, xs, rfl, .inl h1, q _ H (Stp.refl m) rg_int⟩
  · cases e
    obtain ⟨v, rfl, k⟩ := vxs1 h
    obtain ⟨a, xs, rfl, h1, h2⟩ := k.tup
    rw [h2.length] at q
    exact call_len_seq pins s σ H _ us Q I rv ⟨a, xs, rfl, .inr h1, q _ H (Stp.refl m) rg_int⟩
  · cases e
    obtain ⟨v, rfl, k⟩ := vxs1 h
    obtain ⟨a, xs, rfl, h1, h2⟩ := k.scr
    rw [h2.length] at q
    exact call_len_seq pins s σ H _ us Q I rv ⟨a, xs, rfl, .inl h1, q _ H (Stp.refl m) rg_int⟩
  · split at e
    · rename_i hz
      cases e
      obtain ⟨v, rfl, k⟩ := vxs1 h
      rw [vw_str k] at rv
      exact call_len_str pins s σ H _ us Q I rv ⟨_, rfl, hz, q _ H (Stp.refl m) rg_int⟩
    · cases e
  · cases e
    obtain ⟨v, rfl, k⟩ := vxs1 h
    obtain ⟨a, xs, u, rfl, h1, h2, h3⟩ := k
    rw [h3.length] at q
    obtain ⟨kvs, rfl, k1, k2⟩ := h2
    have l2 : kvs.length = xs.length := by rw [← k2, List.length_map]
    rw [← l2] at q
    obtain ⟨u1, rfl, ru⟩ := vals1 rv
    cases ru
    exact d_len I h1 fun t s' I' => ⟨.int kvs.length, H, I', ⟨t, rfl⟩, q _ H (Stp.refl m) rg_int⟩
  · cases e
def bInt : List D → Option D
  | [.int i] => some (.int i)
  | [.bl b] => some (.int (if b then 1 else 0))
  | _ => none
theorem cd_int : CallD C g (.type "int") bInt := fun pins s σ H M vs us Q ds d I m rv h e q => by
  unfold bInt at e
  split at e
  · cases e
    obtain ⟨v, rfl, k⟩ := vxs1 h
    rw [vw_int k] at rv
    exact call_int1 pins s σ H _ us Q I rv (.inl ⟨_, rfl, q _ H (Stp.refl m) rg_int⟩)
  · cases e
    obtain ⟨v, rfl, k⟩ := vxs1 h
    rw [vw_bl k] at rv
    exact call_int1 pins s σ H _ us Q I rv (.inr ⟨_, rfl, q _ H (Stp.refl m) rg_int⟩)
  · cases e
def bAbs : List D → Option D
  | [.int i] => some (.int (if i < 0 then -i else i))
  | _ => none
theorem cd_abs : CallD C g (.builtin "abs") bAbs := fun pins s σ H M vs us Q ds d I m rv h e q => by
  unfold bAbs at e
  split at e
  · cases e
    obtain ⟨v, rfl, k⟩ := vxs1 h
    rw [vw_int k] at rv
    exact call_abs pins s σ H _ us Q I rv ⟨_, rfl, q _ H (Stp.refl m) rg_int⟩
  · cases e
/-- ints of a list of trees -/
def asInts : List D → Option (List Int)
  | [] => some []
  | .int i :: r => (asInts r).map (i :: ·)
  | _ :: _ => none
def asBls : List D → Option (List Bool)
  | [] => some []
  | .bl i :: r => (asBls r).map (i :: ·)
  | _ :: _ => none
theorem asInts_vals {K : PySem.W.Frag} {H : Hp} : ∀ {ds : List D} {ns : List Int} {xs : List V}, asInts ds = some ns → RVs K H ds xs → xs = ns.map V.int
  | [], ns, xs, e, h => by
    simp only [asInts] at e
    cases e
    rw [RVs.nil_iff.mp h]; rfl
  | d :: ds, ns, xs, e, h => by
    obtain ⟨v, r, e2, h1, h2⟩ := RVs.cons_iff.mp h
    cases d with
    | int i =>
      simp only [asInts] at e
      obtain ⟨ms, e3, rfl⟩ := Option.map_eq_some_iff.mp e
      rw [e2, asInts_vals e3 h2, show v = .int i from h1]; rfl
    | _ => simp [asInts] at e
theorem asBls_vals {K : PySem.W.Frag} {H : Hp} : ∀ {ds : List D} {ns : List Bool} {xs : List V}, asBls ds = some ns → RVs K H ds xs → xs = ns.map V.bl
  | [], ns, xs, e, h => by
    simp only [asBls] at e
    cases e
    rw [RVs.nil_iff.mp h]; rfl
  | d :: ds, ns, xs, e, h => by
    obtain ⟨v, r, e2, h1, h2⟩ := RVs.cons_iff.mp h
    cases d with
    | bl i =>
      simp only [asBls] at e
      obtain ⟨ms, e3, rfl⟩ := Option.map_eq_some_iff.mp e
      rw [e2, asBls_vals e3 h2, show v = .bl i from h1]; rfl
    | _ => simp [asBls] at e
theorem asInts_map (ns : List Int) : asInts (ns.map D.int) = some ns := by
  induction ns with
  | nil => rfl
  | cons n ns ih => simp [asInts, ih]
theorem asBls_map (ns : List Bool) : asBls (ns.map D.bl) = some ns := by
  induction ns with
  | nil => rfl
  | cons n ns ih => simp [asBls, ih]
def bSum : List D → Option D
  | [.lst ds] => (asInts ds).map fun ns => .int ns.sum
  | _ => none
theorem cd_sum (hc : C.X.calm = true) : CallD C g (.builtin "sum") bSum := fun pins s σ H M vs us Q ds d I m rv h e q => by
  unfold bSum at e
  split at e
  · obtain ⟨ns, e1, rfl⟩ := Option.map_eq_some_iff.mp e
    obtain ⟨v, rfl, k⟩ := vxs1 h
    obtain ⟨a, xs, rfl, h1, h2⟩ := k.sq
    rw [asInts_vals e1 h2] at h1
    exact cr_sum hc pins s σ H _ us Q I rv ⟨a, ns, rfl, h1, q _ H (Stp.refl m) rg_int⟩
  · cases e
def bAny : List D → Option D
  | [.lst ds] => (asBls ds).map fun ns => .bl (ns.any id)
  | _ => none
def bAll : List D → Option D
  | [.lst ds] => (asBls ds).map fun ns => .bl (ns.all id)
  | _ => none
theorem cd_any (hc : C.X.calm = true) : CallD C g (.builtin "any") bAny := fun pins s σ H M vs us Q ds d I m rv h e q => by
  unfold bAny at e
  split at e
  · obtain ⟨ns, e1, rfl⟩ := Option.map_eq_some_iff.mp e
    obtain ⟨v, rfl, k⟩ := vxs1 h
    obtain ⟨a, xs, rfl, h1, h2⟩ := k.sq
    rw [asBls_vals e1 h2] at h1
    exact cr_any hc pins s σ H _ us Q I rv ⟨a, ns, rfl, h1, q _ H (Stp.refl m) rg_bl⟩
  · cases e
theorem cd_all (hc : C.X.calm = true) : CallD C g (.builtin "all") bAll := fun pins s σ H M vs us Q ds d I m rv h e q => by
  unfold bAll at e
  split at e
  · obtain ⟨ns, e1, rfl⟩ := Option.map_eq_some_iff.mp e
    obtain ⟨v, rfl, k⟩ := vxs1 h
    obtain ⟨a, xs, rfl, h1, h2⟩ := k.sq
    rw [asBls_vals e1 h2] at h1
    exact cr_all hc pins s σ H _ us Q I rv ⟨a, ns, rfl, h1, q _ H (Stp.refl m) rg_bl⟩
  · cases e
/-- the greatest, the least of ints -/
def mxI : List Int → Int
  | [] => 0
  | [a] => a
  | a :: r => max a (mxI r)
def mnI : List Int → Int
  | [] => 0
  | [a] => a
  | a :: r => min a (mnI r)
theorem mxI_spec : ∀ {ns : List Int}, 0 < ns.length → mxI ns ∈ ns ∧ ∀ y ∈ ns, y ≤ mxI ns
  | [a], _ => by simp [mxI]
  | a :: b :: r, _ => by
    obtain ⟨h1, h2⟩ := mxI_spec (ns := b :: r) (by simp)
    simp only [mxI]
    refine ⟨?_, fun y hy => ?_⟩
    · rcases Int.le_total a (mxI (b :: r)) with h | h
      · rw [Int.max_eq_right h]; exact List.mem_cons_of_mem _ h1
      · rw [Int.max_eq_left h]; exact List.mem_cons_self
    · rcases List.mem_cons.mp hy with rfl | hy
      · exact Int.le_max_left _ _
      · exact Int.le_trans (h2 y hy) (Int.le_max_right _ _)
theorem mnI_spec : ∀ {ns : List Int}, 0 < ns.length → mnI ns ∈ ns ∧ ∀ y ∈ ns, mnI ns ≤ y
  | [a], _ => by simp [mnI]
  | a :: b :: r, _ => by
    obtain ⟨h1, h2⟩ := mnI_spec (ns := b :: r) (by simp)
    simp only [mnI]
    refine ⟨?_, fun y hy => ?_⟩
    · rcases Int.le_total a (mnI (b :: r)) with h | h
      · rw [Int.min_eq_left h]; exact List.mem_cons_self
      · rw [Int.min_eq_right h]; exact List.mem_cons_of_mem _ h1
    · rcases List.mem_cons.mp hy with rfl | hy
      · exact Int.min_le_left _ _
      · exact Int.le_trans (Int.min_le_right _ _) (h2 y hy)
def bMax : List D → Option D
  | [.int i, .int j] => some (.int (max i j))
  | [.lst ds] => (asInts ds).bind fun ns => if 0 < ns.length then some (.int (mxI ns)) else none
  | _ => none
def bMin : List D → Option D
  | [.int i, .int j] => some (.int (min i j))
  | [.lst ds] => (asInts ds).bind fun ns => if 0 < ns.length then some (.int (mnI ns)) else none
  | _ => none
theorem cd_max (hc : C.X.calm = true) : CallD C g (.builtin "max") bMax := fun pins s σ H M vs us Q ds d I m rv h e q => by
  unfold bMax at e
  split at e
  · rename_i i j
    cases e
    obtain ⟨v, w, rfl, k1, k2⟩ := vxs2 h
    rw [vw_int k1, vw_int k2] at rv
    have e2 : (if j > i then j else i) = max i j := by
      split
      · rw [Int.max_eq_right (by omega)]
      · rw [Int.max_eq_left (by omega)]
    exact call_max2 hc pins s σ H _ us Q I rv ⟨i, j, rfl, by rw [e2]; exact q _ H (Stp.refl m) rg_int⟩
  · obtain ⟨ns, e1, e2⟩ := Option.bind_eq_some_iff.mp e
    split at e2
    · rename_i hp
      cases e2
      obtain ⟨v, rfl, k⟩ := vxs1 h
      obtain ⟨a, xs, rfl, h1, h2⟩ := k.sq
      rw [asInts_vals e1 h2] at h1
      obtain ⟨p1, p2⟩ := mxI_spec hp
      refine cr_max hc pins s σ H _ us Q I rv ⟨a, ns, rfl, h1, hp, fun z hz1 hz2 => ?_⟩
      rw [Int.le_antisymm (p2 z hz1) (hz2 _ p1)]
      exact q _ H (Stp.refl m) rg_int
    · cases e2
  · cases e
theorem cd_min (hc : C.X.calm = true) : CallD C g (.builtin "min") bMin := fun pins s σ H M vs us Q ds d I m rv h e q => by
  unfold bMin at e
  split at e
  · rename_i i j
    cases e
    obtain ⟨v, w, rfl, k1, k2⟩ := vxs2 h
    rw [vw_int k1, vw_int k2] at rv
    have e2 : (if j < i then j else i) = min i j := by
      split
      · rw [Int.min_eq_right (by omega)]
      · rw [Int.min_eq_left (by omega)]
    exact call_min2 hc pins s σ H _ us Q I rv ⟨i, j, rfl, by rw [e2]; exact q _ H (Stp.refl m) rg_int⟩
  · obtain ⟨ns, e1, e2⟩ := Option.bind_eq_some_iff.mp e
    split at e2
    · rename_i hp
      cases e2
      obtain ⟨v, rfl, k⟩ := vxs1 h
      obtain ⟨a, xs, rfl, h1, h2⟩ := k.sq
      rw [asInts_vals e1 h2] at h1
      obtain ⟨p1, p2⟩ := mnI_spec hp
      refine cr_min hc pins s σ H _ us Q I rv ⟨a, ns, rfl, h1, hp, fun z hz1 hz2 => ?_⟩
      rw [Int.le_antisymm (hz2 _ p1) (p2 z hz1)]
      exact q _ H (Stp.refl m) rg_int
    · cases e2
  · cases e
def bList : List D → Option D
  | [.lst ds] => some (.lst ds)
  | [.tup ds] => some (.lst ds)
  | [.scr ds] => some (.lst ds)
  | _ => none
theorem newL {M : Mem} {H : Hp} {ds : List D} {xs : List V} {Q : VK} (m : MOk C.X.K M H) (r : RVs C.X.K H ds xs) (q : ∀ z H', Stp C.X.K C.T M H M H' → RG C.X.K .fresh H M H' (.lst ds) z → Q z H') :
    ∀ l, H l = none → Q (.ref l) (upd H l (.lst xs)) := fun l hl => by
  have st : Stp C.X.K C.T M H M (upd H l (.lst xs)) := Stp.laid m hl
  have fr : FR C.X.K H M (upd H l (.lst xs)) (.lst ds) (.ref l) := ⟨l, xs, rfl, nw_of hl, upd_same, m.none_of hl, RVs.fx st.fx _ r⟩
  exact q _ _ st fr
theorem newT {M : Mem} {H : Hp} {ds : List D} {xs : List V} {Q : VK} (m : MOk C.X.K M H) (r : RVs C.X.K H ds xs) (q : ∀ z H', Stp C.X.K C.T M H M H' → RG C.X.K g H M H' (.tup ds) z → Q z H') :
    ∀ l, H l = none → Q (.ref l) (upd H l (.tup xs)) := fun l hl => by
  have st : Stp C.X.K C.T M H M (upd H l (.tup xs)) := Stp.laid m hl
  refine q _ _ st (RG.scal (fun _ z => by cases z) (fun _ _ z => by cases z) ?_)
  unfold RV
  exact ⟨l, xs, rfl, SqT.of upd_same, RVs.fx st.fx _ r⟩
theorem cd_list : CallD C .fresh (.type "list") bList := fun pins s σ H M vs us Q ds d I m rv h e q => by
  unfold bList at e
  split at e
  · cases e
    obtain ⟨v, rfl, k⟩ := vxs1 h
    obtain ⟨a, xs, rfl, h1, h2⟩ := k.sq
    exact call_list_of pins s σ H _ us Q I rv ⟨a, xs, rfl, .inl h1, newL m h2 q⟩
  · cases e
    obtain ⟨v, rfl, k⟩ := vxs1 h
    obtain ⟨a, xs, rfl, h1, h2⟩ := k.tup
    exact call_list_of pins s σ H _ us Q I rv ⟨a, xs, rfl, .inr h1, newL m h2 q⟩
  · cases e
    obtain ⟨v, rfl, k⟩ := vxs1 h
    obtain ⟨a, xs, rfl, h1, h2⟩ := k.scr
    exact call_list_of pins s σ H _ us Q I rv ⟨a, xs, rfl, .inl h1, newL m h2 q⟩
  · cases e
def bTuple : List D → Option D
  | [.lst ds] => some (.tup ds)
  | [.tup ds] => some (.tup ds)
  | _ => none
theorem cd_tuple : CallD C g (.type "tuple") bTuple := fun pins s σ H M vs us Q ds d I m rv h e q => by
  unfold bTuple at e
  split at e
  · cases e
    obtain ⟨v, rfl, k⟩ := vxs1 h
    obtain ⟨a, xs, rfl, h1, h2⟩ := k.sq
    exact call_tuple_of pins s σ H _ us Q I rv ⟨a, xs, rfl, .inl ⟨h1, newT m h2 q⟩⟩
  · cases e
    obtain ⟨v, rfl, k⟩ := vxs1 h
    obtain ⟨a, xs, rfl, h1, h2⟩ := k.tup
    refine call_tuple_of pins s σ H _ us Q I rv ⟨a, xs, rfl, .inr ⟨h1, q _ H (Stp.refl m) (RG.scal (fun _ z => by cases z) (fun _ _ z => by cases z) ?_)⟩⟩
    unfold RV
    exact ⟨a, xs, rfl, h1, h2⟩
  · cases e
end
end Tn

set_option Elab.async false
set_option linter.all false
set_option maxRecDepth 100000
set_option maxHeartbeats 4000000
namespace Tn
open PySem PySem.Spec PyProof.Rows L2

/-! ## sorted -/
theorem toPys_map : ∀ ds : List D, toPys ds = ds.map toPy
  | [] => rfl
  | d :: ds => by simp only [toPys, List.map_cons, toPys_map ds]
def tupD : D → Bool
  | .tup (_ :: _) => true
  | _ => false
def notTN : D → Bool
  | .tup _ => false
  | .bl _ => true
  | .int _ => true
  | .str _ => true
  | .lst _ => true
  | _ => false
def srtOk (ds : List D) : Bool := flats ds && decide (deps ds ≤ 64) && (ds.all fun a => ds.all fun b => PySem.W.alike (toPy a) (toPy b)) && (ds.all tupD || ds.all notTN)
def leD : D → D → Bool := PySem.W.dataLe false toPy
def bSorted : List D → Option D
  | [.lst ds] => if srtOk ds then some (.lst (ds.mergeSort leD)) else none
  | [.tup ds] => if srtOk ds then some (.lst (ds.mergeSort leD)) else none
  | _ => none
theorem Reads.there {h : Heap} {a : Addr} : ∀ (d : PyData) (v : Value) (as : List Addr), Reads h v d as → a ∈ as → ∃ o, h.get? a = some o := by
  intro d v as r
  refine Reads.rec (motive_1 := fun v d as _ => a ∈ as → ∃ o, h.get? a = some o) (motive_2 := fun vs ds as _ => a ∈ as → ∃ o, h.get? a = some o) ?_ ?_ ?_ ?_ ?_ ?_ ?_ ?_ ?_ r
  · intro q; cases q
  · intro b q; cases q
  · intro i t q; cases q
  · intro x t q; cases q
  · intro b o vs n xs as e _ _ _ ih q
    rcases List.mem_cons.mp q with rfl | q
    · exact ⟨o, e⟩
    · exact ih q
  · intro b o vs n xs as e _ _ _ ih q; exact ih q
  · intro b o es n kvs as bs e _ _ _ _ ih1 ih2 q
    rcases List.mem_append.mp q with q | q
    · rcases List.mem_cons.mp q with rfl | q
      · exact ⟨o, e⟩
      · exact ih1 q
    · exact ih2 q
  · intro q; cases q
  · intro v vs d ds as bs _ _ ih1 ih2 q
    rcases List.mem_append.mp q with q | q
    · exact ih1 q
    · exact ih2 q
section
variable {X : Cx} {pins : List (Addr × Obj)} {σ : L2.St} {H : Hp} {s : Shared}
/-- values and the trees that they are -/
def VD (K : PySem.W.Frag) (H : Hp) (v : Value) (d : D) : Prop := ∃ x, L2.RelV x v ∧ RV K H d x
theorem vd_each {K : PySem.W.Frag} : ∀ {ds : List D} {xs : List V} {us : List Value}, RVs K H ds xs → Vals xs us → PySem.W.EachIs (VD K H) us ds
  | [], xs, us, h, r => by
    rw [RVs.nil_iff.mp h] at r
    cases r
    exact .nil
  | d :: ds, xs, us, h, r => by
    obtain ⟨v, q, e, h1, h2⟩ := RVs.cons_iff.mp h
    rw [e] at r
    cases r with
    | cons r1 r2 => exact .cons ⟨v, r1, h1⟩ (vd_each h2 r2)
theorem vd_back {K : PySem.W.Frag} : ∀ {ds : List D} {us : List Value}, PySem.W.EachIs (VD K H) us ds → ∃ xs, Vals xs us ∧ RVs K H ds xs
  | _, _, .nil => ⟨[], .nil, RVs.nil_iff.mpr rfl⟩
  | _, _, .cons ⟨x, h1, h2⟩ t => by
    obtain ⟨xs, h3, h4⟩ := vd_back t
    exact ⟨x :: xs, .cons h1 h3, RVs.mk h2 h4⟩
theorem flats_mem : ∀ {ds : List D} {d : D}, flats ds = true → d ∈ ds → flat d = true
  | e :: ds, d, h, hm => by
    simp only [flats, Bool.and_eq_true] at h
    rcases List.mem_cons.mp hm with rfl | hm
    · exact h.1
    · exact flats_mem h.2 hm
theorem deps_mem : ∀ {ds : List D} {d : D}, d ∈ ds → dep d ≤ deps ds
  | e :: ds, d, hm => by
    simp only [deps]
    rcases List.mem_cons.mp hm with rfl | hm
    · omega
    · have := deps_mem hm; omega
theorem vd_reads {h' : Heap} (I : Inv X pins σ H s) (k : ∀ b o, s.heap.get? b = some o → h'.get? b = some o) {a : Addr} (ha : s.heap.get? a = none) : ∀ {ds : List D} {us : List Value}, flats ds = true → PySem.W.EachIs (VD X.K H) us ds →
    PySem.W.EachIs (fun v b => ∃ as, Reads h' v (toPy b) as ∧ a ∉ as) us ds
  | _, _, _, .nil => .nil
  | d :: ds, u :: us, f, .cons ⟨x, h1, h2⟩ t => by
    simp only [flats, Bool.and_eq_true] at f
    obtain ⟨as, hr⟩ := Dp.reads I (toPy d) x u (RV.dp d f.1 h2) h1
    refine .cons ⟨as, PyProof.Rows.Reads.keeps k hr, fun q => ?_⟩ (vd_reads I k ha f.2 t)
    obtain ⟨o, e⟩ := Reads.there _ _ _ hr q
    rw [ha] at e; cases e
theorem srt_sortable {ds : List D} (h : (ds.all tupD || ds.all notTN) = true) : PySem.W.Sortable (ds.map toPy) := by
  simp only [Bool.or_eq_true, List.all_eq_true] at h
  rcases h with h | h
  · refine .inl fun d hd => ?_
    obtain ⟨b, hb, rfl⟩ := List.mem_map.mp hd
    have := h b hb
    cases b <;> simp [tupD] at this
    rename_i l
    cases l with
    | nil => simp [tupD] at this
    | cons x r => exact ⟨toPy x, toPys r, by simp only [toPy, toPys]⟩
  · refine .inr fun d hd => ?_
    obtain ⟨b, hb, rfl⟩ := List.mem_map.mp hd
    have := h b hb
    cases b <;> simp [notTN] at this <;> simp [toPy]
end
theorem sorted_seq {X : Cx} {pins : List (Addr × Obj)} {σ : L2.St} {H : Hp} {s : Shared} {a : Addr} {its : List Value} {ds : List D} {o : Obj} {n : Nat} {E : Value → Shared → Prop} {Q : Value → Shared → Prop} (I : Inv X pins σ H s) (hu : X.A.units + 70 < cLine)
    (ho : s.heap.get? a = some o) (hc : o.cls = .type "list" ∨ o.cls = .type "tuple") (hd : o.data = .seq its.toArray n) (hz : its.length ≤ sizeLine) (hv : PySem.W.EachIs (VD X.K H) its ds) (hs : srtOk ds = true)
    (q : ∀ (out : List Value) (p : Addr) (h' : Heap) (e : Nat), (∀ b o, s.heap.get? b = some o → h'.get? b = some o) → s.heap.get? p = none → h'.get? p = some { cls := .type "list", data := .seq out.toArray e } → out.length = ds.length →
      PySem.W.EachIs (VD X.K H) out (ds.mergeSort leD) → Q (.ref p) { s with heap := h' }) :
    wpAny (model X.prog X.w) X.A (call (.builtin "sorted") [.ref a]) Q E s := by
  simp only [srtOk, Bool.and_eq_true, decide_eq_true_eq] at hs
  obtain ⟨⟨⟨f1, f2⟩, f3⟩, f4⟩ := hs
  have hal : PySem.W.AllAlike (ds.map toPy) := fun d hd d' hd' => by
    obtain ⟨b, hb, rfl⟩ := List.mem_map.mp hd
    obtain ⟨b', hb', rfl⟩ := List.mem_map.mp hd'
    exact List.all_eq_true.mp (List.all_eq_true.mp f3 b hb) b' hb'
  have hlen := hv.length
  refine call_function_entry_kw kind_sorted plain_sorted entry_sorted (args_sorted1 _) ?_
  unfold Builtin.«sorted»
  refine wpAny_bind (m := checkCount "sorted" 1 1 _) (wpAny_pure ?_)
  have hT : ∃ T, (T = "list" ∨ T = "tuple") ∧ o.cls = .type T := by
    rcases hc with h | h
    · exact ⟨_, .inl rfl, h⟩
    · exact ⟨_, .inr rfl, h⟩
  obtain ⟨T, hT, hc⟩ := hT
  refine wpAny_bind (wpAny_collect_seq a hT ho hc hd (fun h1 k1 => ?_) (by rw [List.size_toArray]; exact hz))
  rw [List.toList_toArray]
  refine wpAny_bind (wpAny_newList ?_ hz)
  have k2 : ∀ b o, s.heap.get? b = some o → (h1.push (seqObj "list" its.toArray 0)).get? b = some o := fun b o e => Heap.get?_push_of_some _ (k1 b o e)
  have hnone : s.heap.get? h1.objs.size = none := by
    cases e : s.heap.get? h1.objs.size with
    | none => rfl
    | some o' => exact absurd (Heap.lt_size (k1 _ _ e)) (Nat.lt_irrefl _)
  have hat : (h1.push (seqObj "list" its.toArray 0)).get? h1.objs.size = some (seqObj "list" its.toArray 0) := Heap.get?_push_size _ rfl
  have er := vd_reads I k2 hnone f1 hv
  show wpAny _ _ _ _ _ { s with heap := h1.push (seqObj "list" its.toArray 0) }
  refine wpAny_bind (wpAny_holding (PySem.W.list_sort_data (s := { s with heap := h1.push (seqObj "list" its.toArray 0) }) (R := VD X.K H) (enc := toPy) hat hv er hal (srt_sortable f4) (by rw [← hlen]; exact hz) (fun b hb => ?_) fun out hl hout => ?_))
  · have := deps_mem hb
    rw [toPy_dep]
    show X.A.in1.units + 1 + dep b < cLine
    have : X.A.in1.units = X.A.units + 1 := rfl
    omega
  · obtain ⟨e, he⟩ := PyProof.Rows.sortedHeap_at (out := out.toArray) hat
    refine wpAny_pure ⟨_, rfl, q out h1.objs.size _ e (fun b o eb => ?_) hnone he hl hout⟩
    have hb : b ≠ h1.objs.size := fun z => by rw [z, hnone] at eb; cases eb
    have hk := k2 b o eb
    rw [PyProof.Rows.sortedHeap_old hb (Heap.lt_size hk)]
    exact hk
section
variable {C : Cn}
theorem cd_sorted (hu : C.X.A.units + 70 < cLine) : CallD C .fresh (.builtin "sorted") bSorted := fun pins s σ H M vs us Q ds d I m rv h e q => by
  have go : ∀ {l : List D} {a : Addr} {xs : List V} {its : List Value} {o : Obj} {n : Nat}, srtOk l = true → RVs C.X.K H l xs → Vals xs its → xs.length ≤ sizeLine → s.heap.get? a = some o → (o.cls = .type "list" ∨ o.cls = .type "tuple") → o.data = .seq its.toArray n →
      (∀ z H', Stp C.X.K C.T M H M H' → RG C.X.K .fresh H M H' (.lst (l.mergeSort leD)) z → Q z H') → wpAny (model C.X.prog C.X.w) C.X.A (call (.builtin "sorted") [.ref a]) (EP C.X pins σ Q) C.X.xe s := by
    intro l a xs its o n hs hr hv hz ho hc hd q
    refine sorted_seq (X := C.X) I hu ho hc hd (by rw [← hv.length]; exact hz) (vd_each hr hv) hs fun out p h' e k hn he hl hout => ?_
    have np : H p = none := I.hok.gone hn
    obtain ⟨ys, y1, y2⟩ := vd_back hout
    have st : Stp C.X.K C.T M H M (upd H p (.lst ys)) := Stp.laid m np
    have hz2 : ys.length ≤ sizeLine := by
      rw [y1.length, hl, hr.length]; exact hz
    have I2 : Inv C.X pins σ (upd H p (.lst ys)) { s with heap := h' } := Inv.laidN (t' := s.toks) I k hn np (show ObjOk C.X.prog C.X.w _ h' p (.lst ys) from ⟨hz2, out, e, y1, he⟩)
    have fr : FR C.X.K H M (upd H p (.lst ys)) (.lst (l.mergeSort leD)) (.ref p) := ⟨p, ys, rfl, nw_of np, upd_same, m.none_of np, RVs.fx st.fx _ y2⟩
    exact ⟨.ref p, _, I2, rfl, q _ _ st fr⟩
  unfold bSorted at e
  split at e
  · split at e
    · rename_i hs
      cases e
      obtain ⟨v, rfl, k⟩ := vxs1 h
      obtain ⟨a, xs, rfl, h1, h2⟩ := k.sq
      obtain ⟨its, r, ⟨o, n, ho, hc, _, hd⟩, hz⟩ := I.list h1
      obtain ⟨u1, rfl, ru⟩ := vals1 rv
      cases ru
      exact go hs h2 r hz ho (.inl hc) hd q
    · cases e
  · split at e
    · rename_i hs
      cases e
      obtain ⟨v, rfl, k⟩ := vxs1 h
      obtain ⟨a, xs, rfl, h1, h2⟩ := k.tup
      obtain ⟨its, r, ⟨o, ho, hc, n, hd⟩, hz⟩ := I.tuple h1
      obtain ⟨u1, rfl, ru⟩ := vals1 rv
      cases ru
      exact go hs h2 r hz ho (.inr hc) hd q
    · cases e
  · cases e
end
end Tn

set_option Elab.async false
set_option linter.all false
set_option maxRecDepth 100000
set_option maxHeartbeats 4000000
namespace Tn
open PySem PySem.Spec PyProof.Rows L2

/-! ## isinstance of the built-in types -/
def tyN : D → Option String
  | .non => some "NoneType"
  | .bl _ => some "bool"
  | .int _ => some "int"
  | .str _ => some "str"
  | .tup _ => some "tuple"
  | .lst _ => some "list"
  | .scr _ => some "list"
  | .dct _ _ => some "dict"
  | _ => none
def isTy (T : String) (d : D) : Option D := match tyN d with
  | some n => some (.bl (n == T || (T == "int" && n == "bool")))
  | none => none
def okTy (T : String) : Bool := ["bool", "int", "str", "tuple", "list", "dict"].contains T
theorem kit_all {K : PySem.W.Frag} {T n : String} (h : okTy T = true) (hn : (["NoneType", "bool", "int", "str", "tuple", "list", "dict"] : List String).contains n = true) : PySem.W.kitOne K (.type n) (.type T) = some (n == T || (T == "int" && n == "bool")) := by
  simp only [okTy, List.contains_eq_mem, List.mem_cons, List.not_mem_nil, or_false, decide_eq_true_eq] at h hn
  rcases h with rfl | rfl | rfl | rfl | rfl | rfl <;> rcases hn with rfl | rfl | rfl | rfl | rfl | rfl | rfl <;> exact kit_ty (by decide +kernel)
theorem tyN_mem {d : D} {n : String} (h : tyN d = some n) : (["NoneType", "bool", "int", "str", "tuple", "list", "dict"] : List String).contains n = true := by
  cases d <;> simp [tyN] at h <;> subst h <;> decide
theorem kit_vx {X : Cx} {pins : List (Addr × Obj)} {σ : L2.St} {H : Hp} {s : Shared} {d : D} {v : V} {u : Value} {n : String} (I : Inv X pins σ H s) (h : VX X.K H d v) (r : L2.RelV v u) (e : tyN d = some n) :
    ∃ P : Heap → Prop, PySem.W.KitX X.K u (.type n) P ∧ P s.heap ∧ u ≠ .builtin "__main__.__loader__#opaque" := by
  have sq : ∀ {a : Addr} {xs : List V}, SqL X.K H a xs → v = .ref a → ∃ P : Heap → Prop, PySem.W.KitX X.K u (.type "list") P ∧ P s.heap ∧ u ≠ .builtin "__main__.__loader__#opaque" := fun {a xs} q ev => by
    subst ev
    rcases q with (q | ⟨o, q⟩) | ⟨o, its, k, q, c, _⟩
    · exact kit_of I r (.base (.lst q))
    · exact kit_of I r (.base (.frz q))
    · exact kit_of I r (.kList q c)
  cases d with
  | non => cases e; rw [show v = .non from h] at r; exact kit_of I r (.base .non)
  | bl b => cases e; rw [show v = .bl b from h] at r; exact kit_of I r (.base (.bl b))
  | int b => cases e; rw [show v = .int b from h] at r; exact kit_of I r (.base (.int b))
  | str b => cases e; rw [show v = .str b from h] at r; exact kit_of I r (.base (.str b))
  | tup ds =>
    cases e
    obtain ⟨a, xs, ev, q, _⟩ := h.tup
    subst ev
    rcases q with (q | ⟨o, q⟩) | ⟨o, its, k, q, c, _⟩
    · exact kit_of I r (.base (.tup q))
    · exact kit_of I r (.fTuple q)
    · exact kit_of I r (.kTuple q c)
  | lst ds =>
    cases e
    obtain ⟨a, xs, ev, q, _⟩ := h.sq
    exact sq q ev
  | scr ds =>
    cases e
    obtain ⟨a, xs, ev, q, _⟩ := h.scr
    exact sq q ev
  | dct ks vs =>
    cases e
    obtain ⟨a, xs, w, ev, q, q2, _⟩ := h
    subst ev
    obtain rfl : u = Value.ref a := r
    obtain ⟨kvs, rfl, _⟩ := q2
    obtain ⟨_, _, vs, _, o, es, ep, h1, h2, _⟩ := dk_rd I.hok q
    exact ⟨_, PySem.W.kitx_dict, ⟨o, h1, h2.1⟩, fun z => nomatch z⟩
  | _ => cases e
@[simp] def eIsi (T : String) (F : EF) : EF := fun η M => (F η M).bind fun d M' => Res.opt (isTy T d) M'
section
variable {C : Cn} {own : List Ow} {e a b : Expr} {F G : EF} {pos p p2 : Pos}
def rIsT (C : Cn) (g : Gr) (T : String) : List V → Hp → VK → Prop := fun vs H Q => ∃ M d d' v, vs = [v, .ty T] ∧ MOk C.X.K M H ∧ VX C.X.K H d v ∧ isTy T d = some d' ∧ ∀ z H', Stp C.X.K C.T M H M H' → RG C.X.K g H M H' d' z → Q z H'
theorem cr_isT {g : Gr} {T : String} (hT : okTy T = true) : CallR C.X (.builtin "isinstance") (rIsT C g T) := fun pins s σ H vs us Q I r ⟨M, d, d', v, e1, m, h, e2, q⟩ => by
  subst e1
  obtain ⟨u1, u2, rfl, r1, r2⟩ := vals2 r
  have r2' : u2 = Value.type T := r2
  subst r2'
  unfold isTy at e2
  cases en : tyN d with
  | none => rw [en] at e2; cases e2
  | some n =>
    rw [en] at e2
    cases e2
    obtain ⟨P, Z, p, hx⟩ := kit_vx I h r1 en
    exact PySem.W.kia_one Z I.kIn p (kit_all hT (tyN_mem en)) hx fun tk => ⟨.bl _, H, I.tok tk, rfl, q _ H (Stp.refl m) rg_bl⟩
theorem de_isi {g g1 : Gr} {x : Str} {T : String} (h : DE C g1 own e F) (hT : okTy T = true) (hx : bootBuiltins x = some (.type T)) (hg : Gl C.X "isinstance") (hm : C.X.mg "isinstance" = none) (hv : bootBuiltins "isinstance" = some (.builtin "isinstance")) (hg2 : Gl C.X x) (hm2 : C.X.mg x = none)
    (hn2 : x ≠ "__name__" := by decide) (hd2 : (x == ("__debug__" : Str)) = false := by decide) (hs : starEach [e, .Name x p2] C.X.env = (false, eval e C.X.env) :: starEach [.Name x p2] C.X.env := by rfl)
    (hpl : (backTo pos (starEach [.Name x p2] C.X.env)).any (·.1) = false := by rfl) : DE C g own (.Call (.Name "isinstance" p) [e, .Name x p2] [] pos) (eIsi T F) := by
  refine PE.imp (pe_callB (cr_isT (g := g) hT) hg hm hv (pa_cons h (pa_cons (pe_bltn (v := .ty T) hg2 hm2 hx rfl hn2 hd2) pa_nil) hs) (by decide) (by decide) hs hpl) fun σ H Q ⟨η, M, S, q⟩ => ?_
  refine RunE.step (P := fun r => RunE C.X.K C.T C.W g σ H M r Q) S q (fun c ns fs M' q => q) (fun q => q) fun d M1 x H1 q1 s1 S1 r1 => ?_
  cases e2 : isTy T d with
  | none => rw [e2] at q1; exact q1.elim
  | some d' =>
    rw [e2] at q1
    exact ⟨M1, d, d', x, rfl, s1.mo, r1.vw.vx, e2, fun z H' st rg => q1 z H' (s1.trans st) (rg.back s1.th)⟩

/-! ## lists and tuples of a range -/
def rgD (a b : Int) : List D := (List.range (b - a).toNat).map fun i => D.int (a + (i : Nat))
def rgOk (a b : Int) : Bool := decide (-(2 ^ 62) ≤ a) && decide (a < 2 ^ 62) && decide (-(2 ^ 62) ≤ b) && decide (b < 2 ^ 62) && decide ((b - a).toNat ≤ 2 ^ 24)
theorem rgOk_of {a b : Int} (h : rgOk a b = true) : RgOk a b := by
  simp only [rgOk, Bool.and_eq_true, decide_eq_true_eq] at h
  exact ⟨h.1.1.1.1, h.1.1.1.2, h.1.1.2, h.1.2, h.2⟩
theorem rvs_ints {K : PySem.W.Frag} {H : Hp} {α : Type} (f : α → Int) : ∀ l : List α, RVs K H (l.map fun i => D.int (f i)) (l.map fun i => V.int (f i))
  | [] => RVs.nil_iff.mpr rfl
  | a :: l => RVs.mk rfl (rvs_ints f l)
def eRg1 (mk : List D → D) (F : EF) : EF := fun η M => (F η M).bind fun d M1 => match d with
  | .int n => if rgOk 0 n then .ok (mk (rgD 0 n)) M1 else .bad
  | _ => .bad
def eRg2 (mk : List D → D) (F G : EF) : EF := fun η M => (F η M).bind fun d M1 => (G η M1).bind fun d2 M2 => match d, d2 with
  | .int m, .int n => if rgOk m n then .ok (mk (rgD m n)) M2 else .bad
  | _, _ => .bad
theorem de_listR1 {g1 : Gr} {p3 p4 : Pos} (ha : DE C g1 own a F) (hg : Gl C.X "list") (hm : C.X.mg "list" = none) (hg2 : Gl C.X "range") (hm2 : C.X.mg "range" = none) (hc : C.X.calm = true) (na : starEach [a] C.X.env = (false, eval a C.X.env) :: starEach [] C.X.env := by rfl)
    (nb : starEach [.Call (.Name "range" p3) [a] [] p4] C.X.env = (false, eval (.Call (.Name "range" p3) [a] [] p4) C.X.env) :: starEach [] C.X.env := by rfl) :
    DE C .fresh own (.Call (.Name "list" p) [.Call (.Name "range" p3) [a] [] p4] [] pos) (eRg1 .lst F) := by
  refine PE.imp (pe_listRg hc hg hm (prg_1 hg2 hm2 ha na) nb) fun σ H Q ⟨η, M, S, q⟩ => ?_
  refine RunE.step (P := fun r => RunE C.X.K C.T C.W .fresh σ H M r Q) S q (fun c ns fs M' q => q) (fun q => q) fun d M1 x H1 q1 s1 S1 r1 => ?_
  split at q1
  · rename_i n
    split at q1
    · rename_i hr
      refine ⟨n, vw_int r1.vw.vx, rgOk_of hr, newL (C := C) s1.mo (rvs_ints _ _) fun z H' st rg => q1 z H' (s1.trans st) (rg.back s1.th)⟩
    · exact q1.elim
  · exact q1.elim
theorem de_tupR1 {g g1 : Gr} {p3 p4 : Pos} (ha : DE C g1 own a F) (hg : Gl C.X "tuple") (hm : C.X.mg "tuple" = none) (hg2 : Gl C.X "range") (hm2 : C.X.mg "range" = none) (hc : C.X.calm = true) (na : starEach [a] C.X.env = (false, eval a C.X.env) :: starEach [] C.X.env := by rfl)
    (nb : starEach [.Call (.Name "range" p3) [a] [] p4] C.X.env = (false, eval (.Call (.Name "range" p3) [a] [] p4) C.X.env) :: starEach [] C.X.env := by rfl) :
    DE C g own (.Call (.Name "tuple" p) [.Call (.Name "range" p3) [a] [] p4] [] pos) (eRg1 .tup F) := by
  refine PE.imp (pe_tupRg hc hg hm (prg_1 hg2 hm2 ha na) nb) fun σ H Q ⟨η, M, S, q⟩ => ?_
  refine RunE.step (P := fun r => RunE C.X.K C.T C.W g σ H M r Q) S q (fun c ns fs M' q => q) (fun q => q) fun d M1 x H1 q1 s1 S1 r1 => ?_
  split at q1
  · rename_i n
    split at q1
    · rename_i hr
      refine ⟨n, vw_int r1.vw.vx, rgOk_of hr, newT (C := C) (g := g) s1.mo (rvs_ints _ _) fun z H' st rg => q1 z H' (s1.trans st) (rg.back s1.th)⟩
    · exact q1.elim
  · exact q1.elim

/-! ## subscripts -/
/-- keys that are one -/
def keyB : D → D → Bool
  | .int i, .int j => i == j
  | .str i, .str j => i == j
  | _, _ => false
def dLook : List D → List D → D → Option D
  | k :: ks, v :: vs, d => if keyB k d then some v else dLook ks vs d
  | _, _, _ => none
/-- what may be a key -/
def asKey : D → Option Key
  | .int i => some (.inl i)
  | .str i => some (.inr i)
  | _ => none
theorem keyB_kD (a b : Key) : keyB (kD a) (kD b) = decide (a = b) := by
  cases a with
  | inl i => cases b with
    | inl j => by_cases h : i = j <;> simp [kD, keyB, h]
    | inr j => simp [kD, keyB]
  | inr i => cases b with
    | inl j => simp [kD, keyB]
    | inr j => by_cases h : i = j <;> simp [kD, keyB, h]
theorem dLook_val {K : PySem.W.Frag} {H : Hp} : ∀ {kvs : List (Key × V)} {vs : List D} {k : Key}, RVs K H vs (kvs.map (·.2)) →
    match dLook (kvs.map fun p => kD p.1) vs (kD k) with
    | some d => ∃ v, valV kvs k = some v ∧ RV K H d v
    | none => valV kvs k = none
  | [], vs, k, h => by
    have e := RVs.length h
    cases vs with
    | nil => rfl
    | cons _ _ => simp at e
  | (a, v) :: kvs, vs, k, h => by
    have e := RVs.length h
    cases vs with
    | nil => simp at e
    | cons d vs =>
      obtain ⟨w, r, e2, h1, h2⟩ := RVs.cons_iff.mp h
      simp only [List.map_cons, List.cons.injEq] at e2
      obtain ⟨rfl, rfl⟩ := e2
      simp only [List.map_cons, dLook, keyB_kD]
      by_cases hk : a = k
      · simp only [hk, decide_true, if_true]
        exact ⟨v, by simp [valV], h1⟩
      · simp only [hk, decide_false, Bool.false_eq_true, if_false]
        have ih := dLook_val (kvs := kvs) (vs := vs) (k := k) h2
        have ev : valV ((a, v) :: kvs) k = valV kvs k := by simp [valV, hk]
        rw [ev]
        exact ih
theorem asKey_kD {d : D} {k : Key} (h : asKey d = some k) : d = kD k := by
  cases d <;> simp [asKey] at h <;> subst h <;> rfl
theorem rv_key {K : PySem.W.Frag} {H : Hp} {k : Key} {v : V} (h : VX K H (kD k) v) : v = kV k := by
  cases k with
  | inl i => exact h
  | inr i => exact h
/-- a[b] -/
def dIx : D → D → Option D
  | .tup ds, .int i => atI ds i
  | .lst ds, .int i => atI ds i
  | .scr ds, .int i => atI ds i
  | .str z, .int i => if z.length ≤ sizeLine then (atI z.cps.toList i).map fun c => .str ⟨#[c]⟩ else none
  | .dct ks vs, k => (asKey k).bind fun _ => dLook ks vs k
  | _, _ => none
def rDg : R2 := fun x y H Q => ∃ a v, x = .ref a ∧ DGet H a y (some v) ∧ Q v H
theorem ix_dict {X : Cx} (hu : X.A.units + 1 < cLine) : IxR X rDg := by
  intro value slice pins s σ H x y v u Q I rx ry h hs
  obtain ⟨a, z, rfl, g, q⟩ := h
  obtain rfl : v = Value.ref a := rx
  exact tail_any (dict_typeIs I g) PySem.F.slot_dict_getitem.lookup (d_getItem hu I g ry fun w' s3 I3 rw' => ⟨z, H, I3, rw', q⟩) hs
def rIxA (K : PySem.W.Frag) : R2 := fun x y H Q => rIx K x y H Q ∨ rDg x y H Q
theorem atI_rvs {K : PySem.W.Frag} {H : Hp} {ds : List D} {xs : List V} {i : Int} {d : D} (h : RVs K H ds xs) (e : atI ds i = some d) : ∃ v, atI xs i = some v ∧ RV K H d v := by
  unfold atI at e ⊢
  rw [← h.length]
  cases e2 : ixN ds.length i with
  | none => rw [e2] at e; cases e
  | some j =>
    rw [e2] at e
    exact h.get e
theorem RG.of_rv {K : PySem.W.Frag} {H0 H : Hp} {M : Mem} {d : D} {v : V} (h : RV K H d v) : RG K .stable H0 M H d v := h
/-- of a value in hand -/
def IxD (C : Cn) (g : Gr) (f : D → D → Option D) : Prop := ∃ r, IxR C.X r ∧ ∀ M H d1 d2 d x y (Q : VK), MOk C.X.K M H → VX C.X.K H d1 x → VX C.X.K H d2 y → f d1 d2 = some d → (∀ z H', Stp C.X.K C.T M H M H' → RG C.X.K g H M H' d z → Q z H') → r x y H Q
theorem ixd_all (hu : C.X.A.units + 1 < cLine) : IxD C .stable dIx := by
  refine ⟨rIxA C.X.K, ix_seq.or (ix_dict hu), fun M H d1 d2 d x y Q m h1 h2 e q => ?_⟩
  unfold dIx at e
  split at e
  · obtain ⟨a, xs, rfl, g1, r1⟩ := h1.tup
    obtain ⟨v, e1, e2⟩ := atI_rvs r1 e
    exact .inl (.inr (.inl ⟨a, xs, _, v, rfl, vw_int h2, g1, e1, q v H (Stp.refl m) e2⟩))
  · obtain ⟨a, xs, rfl, g1, r1⟩ := h1.sq
    obtain ⟨v, e1, e2⟩ := atI_rvs r1 e
    exact .inl (.inl ⟨a, xs, _, v, rfl, vw_int h2, g1, e1, q v H (Stp.refl m) e2⟩)
  · obtain ⟨a, xs, rfl, g1, r1⟩ := h1.scr
    obtain ⟨v, e1, e2⟩ := atI_rvs r1 e
    exact .inl (.inl ⟨a, xs, _, v, rfl, vw_int h2, g1, e1, q v H (Stp.refl m) e2⟩)
  · split at e
    · rename_i hz
      obtain ⟨c, e1, rfl⟩ := Option.map_eq_some_iff.mp e
      exact .inl (.inr (.inr ⟨_, _, c, vw_str h1, vw_int h2, hz, e1, q _ H (Stp.refl m) rg_str⟩))
    · cases e
  · rename_i ks vs
    obtain ⟨k, e1, e2⟩ := Option.bind_eq_some_iff.mp e
    obtain ⟨a, xs, u, rfl, g1, ⟨kvs, rfl, rfl, rfl⟩, r1⟩ := h1
    rw [asKey_kD e1] at h2 e2
    have l := dLook_val (k := k) r1
    rw [e2] at l
    obtain ⟨v, l1, l2⟩ := l
    rw [rv_key h2]
    exact .inr ⟨a, v, rfl, .inl ⟨kvs, k, g1, rfl, l1.symm⟩, q v H (Stp.refl m) l2⟩
  · cases e
@[simp] def eIx (F G : EF) : EF := fun η M => (F η M).bind fun d1 M1 => (G η M1).bind fun d2 M2 => Res.opt (dIx (deref M2 d1) d2) M2
theorem de_ix {g1 g2 : Gr} (hu : C.X.A.units + 1 < cLine) (ha : DE C g1 own a F) (hb : DE C g2 own b G) (hs : PlainIx b := by exact fun _ _ => rfl) : DE C .stable own (.Subscript a b pos) (eIx F G) := by
  obtain ⟨r, hr, hq⟩ := ixd_all hu
  refine PE.imp (pe_ix hr ha hb hs) fun σ H Q ⟨η, M, S, q⟩ => ?_
  refine RunE.step (P := fun r => RunE C.X.K C.T C.W .stable σ H M r Q) S q (fun c ns fs M' q => q) (fun q => q) fun d1 M1 x H1 q1 s1 S1 r1 => ?_
  refine RunE.step (P := fun r => RunE C.X.K C.T C.W .stable σ H M r Q) S1 q1 (fun c ns fs M' q oe H' s x => q oe H' (s1.trans s) x) (fun q => q) fun d2 M2 y H2 q2 s2 S2 r2 => ?_
  cases e : dIx (deref M2 d1) d2 with
  | none => rw [e] at q2; exact q2.elim
  | some d =>
    rw [e] at q2
    exact hq M2 H2 _ _ d x y Q s2.mo ((r1.vw.stp s2).vx.deref s2.mo) r2.vw.vx e fun z H' st rg => q2 z H' ((s1.trans s2).trans st) (rg.back (s1.trans s2).th)
end
end Tn

set_option Elab.async false
set_option linter.all false
set_option maxRecDepth 100000
set_option maxHeartbeats 4000000
namespace Tn
open PySem PySem.Spec PyProof.Rows L2

/-! ## lists and tuples that are gone through by enumerate and zip -/
/-- a list (true) or a tuple (false) -/
def SqA (K : PySem.W.Frag) (H : Hp) (k : Bool) (a : Addr) (xs : List V) : Prop := if k then SqL K H a xs else SqT K H a xs
def SeqH (k : Bool) (h : Heap) (a : Addr) (its : Array Value) : Prop := if k then h.IsList a its else h.IsTuple a its
def ItH (k : Bool) (h : Heap) (it a : Addr) (i : Nat) : Prop := if k then h.IsListIter it a i else h.IsTupleIter it a i
def itO (k : Bool) (a : Addr) : Obj := if k then { cls := .type "list_iterator", data := .fields #[.ref a, .int 0 0] } else { cls := .type "tuple_iterator", data := .fields #[.ref a, .int 0 0] }
theorem seq_begins (k : Bool) (a : Addr) (its : Array Value) : Begins (.ref a) (itO k a) (fun h => SeqH k h a its) := by
  cases k
  · exact begins_tuple a its
  · exact begins_list a its
theorem itH_begins {k : Bool} {h : Heap} {it a : Addr} (e : h.get? it = some (itO k a)) : ItH k h it a 0 := by
  cases k
  · exact ⟨_, e, rfl, rfl⟩
  · exact ⟨_, e, rfl, rfl⟩
theorem ItH.there {k : Bool} {h : Heap} {it a : Addr} {i : Nat} (x : ItH k h it a i) : ∃ o, h.get? it = some o ∧ ∀ v, o.data ≠ .cell v := by
  cases k
  · obtain ⟨o, ho, hc, hd⟩ := (show h.IsTupleIter it a i from x)
    exact ⟨o, ho, fun v q => by rw [hd] at q; cases q⟩
  · obtain ⟨o, ho, hc, hd⟩ := (show h.IsListIter it a i from x)
    exact ⟨o, ho, fun v q => by rw [hd] at q; cases q⟩
theorem ItH.to {k : Bool} {h h' : Heap} {it a : Addr} {i : Nat} (x : ItH k h it a i) (f : ∀ o, h.get? it = some o → h'.get? it = some o) : ItH k h' it a i := by
  cases k
  · exact (show h.IsTupleIter it a i from x).at f
  · exact (show h.IsListIter it a i from x).at f
theorem seq_draws {prog : Program} {w : World} {A : Around} (hh : A.handled = none) (k : Bool) (it a : Addr) (hne : a ≠ it) (its : Array Value) :
    Draws prog w A it [it, a] its.size (fun i v => its[i]? = some v) (fun i h => ItH k h it a i ∧ SeqH k h a its) := by
  cases k
  · exact Draws.tuple hh it a hne its
  · exact Draws.list hh it a hne its
theorem ItH.ne {k : Bool} {h : Heap} {it a : Addr} {i : Nat} {its : Array Value} (x : ItH k h it a i) (y : SeqH k h a its) : a ≠ it := fun z => by
  cases k
  · obtain ⟨o, ho, hc, _⟩ := (show h.IsTupleIter it a i from x)
    obtain ⟨o', ho', hc', _⟩ := (show h.IsTuple a its from y)
    rw [z, ho] at ho'
    cases ho'
    rw [hc] at hc'
    simp at hc'
  · obtain ⟨o, ho, hc, _⟩ := (show h.IsListIter it a i from x)
    obtain ⟨o', ho', hc', _⟩ := (show h.IsList a its from y)
    rw [z, ho] at ho'
    cases ho'
    rw [hc] at hc'
    simp at hc'
section
variable {X : Cx} {pins : List (Addr × Obj)} {σ : L2.St} {H : Hp} {s : Shared} {a : Addr} {k : Bool} {xs ys : List V}
theorem Inv.sqA (I : Inv X pins σ H s) (h : SqA X.K H k a xs) : ∃ its : List Value, Vals xs its ∧ SeqH k s.heap a its.toArray ∧ xs.length ≤ sizeLine := by
  cases k
  · obtain ⟨its, r, p, z⟩ := I.tuple (show SqT X.K H a xs from h)
    exact ⟨its, r, p, z⟩
  · obtain ⟨its, r, p, z⟩ := I.list (show SqL X.K H a xs from h)
    exact ⟨its, r, p.isList, z⟩
/-- enumerate(a, c) of the items xs at a -/
def ItEn (K : PySem.W.Frag) (c : Int) (k : Bool) (a : Addr) (xs : List V) : It :=
  ⟨fun i H => SqA K H k a xs ∧ i < xs.length, fun i H v H' => ∃ T x, v = .ref T ∧ H T = none ∧ H' = upd H T (.tup [.int (c + (i : Nat)), x]) ∧ xs[i]? = some x, fun i H => SqA K H k a xs ∧ xs.length = i⟩
theorem turn_en {P : Program} {w : World} {K : PySem.W.Frag} {elts : List Expr} {kk : Nat} {tpos : Pos} (c : Int) (k : Bool) (xs : List V) (a e it : Addr) :
    Turn P w K (.Tuple elts kk tpos) (ItEn K c k a xs) [e, it] e (fun i h => (∃ old, IsEnum h e it (c + ((i : Nat) : Int)) old) ∧ ItH k h it a i ∧ e ≠ it ∧ e ≠ a) where
  mem := by simp
  obj := fun i h st b hb => by
    obtain ⟨⟨old, he⟩, hi, _⟩ := st
    rcases (by simpa using hb : b = e ∨ b = it) with z | z
    · rw [z]; exact ⟨_, he, fun v q => nomatch q⟩
    · rw [z]; exact hi.there
  keep := fun i h h' st kp => ⟨st.1.imp fun old he => kp e (by simp) _ he, st.2.1.to fun o q => kp it (by simp) o q, st.2.2⟩
  item := by
    intro X hP hw hK hc i pins s σ H E I hf st hg
    subst hP hw hK
    obtain ⟨⟨old, he⟩, hit, hne, hna⟩ := st
    obtain ⟨hq, hlt⟩ := hg
    obtain ⟨its, rv, sq, hz⟩ := Inv.sqA I hq
    have hl := rv.length
    have hel : e < s.heap.objs.size := Heap.lt_size he
    have hil : it < s.heap.objs.size := by obtain ⟨o, q, _⟩ := hit.there; exact Heap.lt_size q
    have D := seq_draws (prog := X.prog) (w := X.w) (A := X.A.in1) (I.ok.hd hc) k it a (hit.ne sq) its.toArray
    have hT : s.TypeIs (.ref e) "enumerate" := ⟨_, he, rfl⟩
    unfold pyNext
    refine wpAny_bind (wpAny_attempt (wpAny_callSpecial?_slot (name := Str.ofString "__next__") hT F.slot_enumerate_next (wpAny_call_entry F.slot_enumerate_next hT F.entry_enumerate_next
      (enumerate_next_itemC D he ⟨hit, sq⟩ (by rw [List.size_toArray]; omega) hne (by simp [hne, hna]) fun u h' tk hu ho hst' hTT hsz hk => wpAny_pure ?_) (F.args_enumerate_next_1 _))))
    have hu' : its[i]? = some u := by simpa using hu
    obtain ⟨x, hx, ru⟩ : ∃ x, xs[i]? = some x ∧ RelV x u := by
      obtain ⟨u2, e2, r2⟩ := rv.get (i := i) (x := xs[i]) (List.getElem?_eq_getElem hlt)
      rw [hu'] at e2
      cases e2
      exact ⟨_, List.getElem?_eq_getElem hlt, r2⟩
    refine ⟨_, rfl, wpAny_letOwnedTupleGo_enum (s := { s with heap := h', toks := tk + 1 }) ho fun h2 he2 sb => ?_⟩
    have hT2 : h2.get? s.heap.objs.size = some { cls := .type "tuple", data := .seq #[.int (c + (i : Nat)) tk, u] } := (sb.2 _ (Nat.ne_of_gt hel)).trans hTT
    have new : ObjOk X.prog X.w (upd H s.heap.objs.size (.tup [.int (c + (i : Nat)), x])) h2 s.heap.objs.size (.tup [.int (c + (i : Nat)), x]) :=
      ⟨by show 2 ≤ sizeLine; decide, [.int (c + (i : Nat)) tk, u], .cons ⟨_, rfl⟩ (.cons ru .nil), ⟨_, hT2, rfl, _, rfl⟩⟩
    have I1 : Inv X pins σ (upd H s.heap.objs.size (.tup [.int (c + (i : Nat)), x])) { s with heap := h2, toks := tk + 1 } :=
      I.turnedNew (ch := [e, it]) (fun b ob hb q => (sb.2 b (fun z => hb (by simp [z]))).trans (hk b ob (fun z => hb (by simp [z])) (fun z => hb (by simp [z])) q)) hf (Nat.le_refl _) new
    refine ⟨.ref s.heap.objs.size, _, I1, rfl, ⟨_, x, rfl, I.hok.fresh (Nat.le_refl _), rfl, hx⟩, ⟨⟨u, ?_⟩, hst'.1.to fun o q => (sb.2 it (Ne.symm hne)).trans q, hne, hna⟩, fun b hb => ?_⟩
    · have e1 : c + ((i + 1 : Nat) : Int) = c + (i : Int) + 1 := by omega
      rw [e1]; exact he2
    · have hb' : b < s.heap.objs.size := by
        rcases (by simpa using hb : b = e ∨ b = it) with z | z
        · rw [z]; exact hel
        · rw [z]; exact hil
      rw [upd_ne (Nat.ne_of_lt hb')]
      exact (hf b hb).1
  done := by
    intro X hP hw hK hc i pins s σ H E I hf st hg
    subst hP hw hK
    obtain ⟨⟨old, he⟩, hit, hne, hna⟩ := st
    obtain ⟨hq, hx⟩ := hg
    obtain ⟨its, rv, sq, hz⟩ := Inv.sqA I hq
    have hl := rv.length
    obtain ⟨f0, f1, f2, f3, f4, f5⟩ := hf it (by simp)
    have D := seq_draws (prog := X.prog) (w := X.w) (A := X.A.in1) (I.ok.hd hc) k it a (hit.ne sq) its.toArray
    have hst : ItH k s.heap it a its.toArray.size ∧ SeqH k s.heap a its.toArray := by
      rw [List.size_toArray, ← hl, hx]; exact ⟨hit, sq⟩
    exact wpAny_pyNext_enum_endD D he hst fun h' eb => ⟨rfl, I.turned (t' := s.toks) (fun b o hb q => eb b o hb q) f0 f1 f3 f4 f5⟩
  self := fun A i s Q E st h => let ⟨⟨_, he⟩, _⟩ := st; wpAny_pyIter_enum he h
theorem walk_en {K : PySem.W.Frag} {c : Int} : Walk (ItEn K c k a xs) xs.length (fun H => SqA K H k a xs) (YPair (fun i => some (.int (c + (i : Nat)))) (fun i => xs[i]?)) :=
  ⟨fun i H hi h => ⟨h, hi⟩, fun H h => ⟨h, rfl⟩, fun i H v H' hi h ⟨T, x, e, n, e2, hx⟩ => ⟨T, _, x, e, n, e2, rfl, hx⟩⟩
end
end Tn

set_option Elab.async false
set_option linter.all false
set_option maxRecDepth 100000
set_option maxHeartbeats 4000000
namespace Tn
open PySem PySem.Spec PyProof.Rows L2

/-! ## what is gone through -/
abbrev IF := Env → Mem → Res (List D)
/-- J gives the trees ds, one by one, from H1 on -/
def WkOk (C : Cn) (J : It) (H1 : Hp) (ds : List D) : Prop :=
  ∃ Y, Walk J ds.length (fun H => Fx H1 H) Y ∧ ∀ (i : Nat) (H : Hp) (M : Mem) (x : V) (H' : Hp), i < ds.length → Fx H1 H → MOk C.X.K M H → Y i H x H' → Stp C.X.K C.T M H M H' ∧ ∃ d, ds[i]? = some d ∧ RV C.X.K H' d x
def tDI (C : Cn) (own : List Ow) (F : IF) : TI := fun σ H R => ∃ η M, StE C.X.K C.T own σ H η M ∧ match F η M with
  | .ok ds M' => ∀ J H', Stp C.X.K C.T M H M' H' → WkOk C J H' ds → R J H'
  | .err c ns fs M' => ∀ oe H', Stp C.X.K C.T M H M' H' → XF C.X.K H' oe ns fs → C.W (.ref c) oe σ H'
  | .bad => False
def DI (C : Cn) (own : List Ow) (tg it : Expr) (F : IF) : Prop := PI C.X tg it (tDI C own F)
theorem PI.imp {X : Cx} {tg e : Expr} {t t' : TI} (h : PI X tg e t) (i : ∀ σ H Q, t' σ H Q → t σ H Q) : PI X tg e t' := ⟨fun pins s σ H Q I q => h.run pins s σ H Q I (i σ H Q q)⟩
/-- an expression, then the walk -/
@[simp] def iOf (f : D → Option (List D)) (F : EF) : IF := fun η M => (F η M).bind fun d M1 => Res.opt (f d) M1
theorem tDI_of {C : Cn} {own : List Ow} {g : Gr} {F : EF} {k : D → Mem → Res (List D)} {σ : L2.St} {H : Hp} {R : It → Hp → Prop} {Q : VK} (h : tDI C own (fun η M => (F η M).bind k) σ H R)
    (hq : ∀ d M' v H' M (η : Env), Stp C.X.K C.T M H M' H' → StE C.X.K C.T own σ H' η M' → RG C.X.K g H M' H' d v →
      (match k d M' with
        | .ok ds M2 => ∀ J H2, Stp C.X.K C.T M H M2 H2 → WkOk C J H2 ds → R J H2
        | .err c ns fs M2 => ∀ oe H2, Stp C.X.K C.T M H M2 H2 → XF C.X.K H2 oe ns fs → C.W (.ref c) oe σ H2
        | .bad => False) → Q v H') : tD C g own F σ H Q := by
  obtain ⟨η, M, S, q⟩ := h
  exact RunE.step (P := fun r => match r with
        | .ok ds M2 => ∀ J H2, Stp C.X.K C.T M H M2 H2 → WkOk C J H2 ds → R J H2
        | .err c ns fs M2 => ∀ oe H2, Stp C.X.K C.T M H M2 H2 → XF C.X.K H2 oe ns fs → C.W (.ref c) oe σ H2
        | .bad => False) S q (fun c ns fs M' q => q) (fun q => q) fun d M' v H' q s1 S1 rg => hq d M' v H' M η s1 S1 rg q
section
variable {C : Cn} {own : List Ow} {tg e e2 a b : Expr} {F G : EF} {pos p : Pos}
def dLst : D → Option (List D)
  | .lst ds => some ds
  | .scr ds => some ds
  | _ => none
def dTup : D → Option (List D)
  | .tup ds => some ds
  | _ => none
def dSeq : D → Option (Bool × List D)
  | .lst ds => some (true, ds)
  | .scr ds => some (true, ds)
  | .tup ds => some (false, ds)
  | _ => none
theorem scr_fx {K : PySem.W.Frag} {H H' : Hp} {a : Addr} {xs : List V} {ds : List D} (h : RV K H (.scr ds) (.ref a)) : True := trivial
/-- a stable list or tuple, whatever comes -/
theorem seq_stable {K : PySem.W.Frag} {H : Hp} {d : D} {v : V} {k : Bool} {ds : List D} (h : RV K H d v) (e : dSeq d = some (k, ds)) : ∃ a xs, v = .ref a ∧ (∀ H', Fx H H' → SqA K H' k a xs) ∧ RVs K H ds xs := by
  cases d with
  | lst l =>
    simp only [dSeq, Option.some.injEq, Prod.mk.injEq] at e
    obtain ⟨rfl, rfl⟩ := e
    unfold RV at h
    obtain ⟨a, xs, ev, q, r⟩ := h
    exact ⟨a, xs, ev, fun H' f => (q.fx f).sq, r⟩
  | scr l =>
    simp only [dSeq, Option.some.injEq, Prod.mk.injEq] at e
    obtain ⟨rfl, rfl⟩ := e
    unfold RV at h
    obtain ⟨a, xs, ev, q, r⟩ := h
    exact ⟨a, xs, ev, fun H' f => (q.fx f).sq, r⟩
  | tup l =>
    simp only [dSeq, Option.some.injEq, Prod.mk.injEq] at e
    obtain ⟨rfl, rfl⟩ := e
    unfold RV at h
    obtain ⟨a, xs, ev, q, r⟩ := h
    exact ⟨a, xs, ev, fun H' f => SqT.fx f q, r⟩
  | _ => simp [dSeq] at e
/-- items as they stand -/
theorem wk_at {J : It} {H1 : Hp} {xs : List V} {ds : List D} {G : Hp → Prop} (w : Walk J xs.length G (YAt xs)) (hg : ∀ H, Fx H1 H → G H) (r : RVs C.X.K H1 ds xs) : WkOk C J H1 ds := by
  refine ⟨YAt xs, by rw [r.length]; exact w.mono (fun H f => hg H f) fun i H x H' hi f y => y, fun i H M x H' hi f m y => ?_⟩
  obtain ⟨e, hx⟩ := y
  subst e
  obtain ⟨d, e1, e2⟩ := r.get' hx
  exact ⟨Stp.refl m, d, e1, RV.fx f _ e2⟩
theorem di_list (h : DE C .stable own e F) : DI C own tg e (iOf dLst F) := by
  refine PI.imp (pi_list h) fun σ H R q => tDI_of (g := .stable) q fun d M' v H' M η s1 S1 rg q => ?_
  cases e : dLst d with
  | none => rw [e] at q; exact q.elim
  | some ds =>
    rw [e] at q
    have e' : dSeq d = some (true, ds) := by cases d <;> simp [dLst] at e <;> simp [dSeq, e]
    obtain ⟨a, xs, ev, hs, r⟩ := seq_stable rg e'
    exact ⟨a, ev, ⟨xs, hs H' (Fx.refl H')⟩, q _ H' s1 (wk_at walk_list (fun H f => hs H f) r)⟩
theorem di_tup (h : DE C .stable own e F) : DI C own tg e (iOf dTup F) := by
  refine PI.imp (pi_tup h) fun σ H R q => tDI_of (g := .stable) q fun d M' v H' M η s1 S1 rg q => ?_
  cases e : dTup d with
  | none => rw [e] at q; exact q.elim
  | some ds =>
    rw [e] at q
    have e' : dSeq d = some (false, ds) := by cases d <;> simp [dTup] at e <;> simp [dSeq, e]
    obtain ⟨a, xs, ev, hs, r⟩ := seq_stable rg e'
    exact ⟨a, ev, ⟨xs, hs H' (Fx.refl H')⟩, q _ H' s1 (wk_at walk_tup (fun H f => hs H f) r)⟩

/-! ### by arguments -/
@[simp] def iA (f : List D → Option (List D)) (Fs : List EF) : IF := fun η M => (eArgs Fs η M).bind fun ds M' => Res.opt (f ds) M'
variable {es : List Expr} {Fs : List EF}
theorem tDI_v {f : List D → Option (List D)} {σ : L2.St} {H : Hp} {R : It → Hp → Prop} {Q : List V → Hp → Prop} (h : tDI C own (iA f Fs) σ H R)
    (hq : ∀ ds vs H' its, VXs C.X.K H' ds vs → f ds = some its → (∀ J, WkOk C J H' its → R J H') → Q vs H') : tDV C own Fs σ H Q := by
  obtain ⟨η, M, S, q⟩ := h
  refine ⟨η, M, S, ?_⟩
  unfold iA at q
  cases e : eArgs Fs η M with
  | ok ds M1 =>
    rw [e, Res.bind_ok] at q
    cases e2 : f ds with
    | none => rw [e2] at q; exact q.elim
    | some its =>
      rw [e2] at q
      exact fun vs H1 s1 r1 => hq ds vs H1 its r1.vx e2 fun J w => q J H1 s1 w
  | err c ns fs M1 =>
    rw [e] at q
    exact q
  | bad =>
    rw [e] at q
    exact q
theorem tDI_s {f : List D → Option (List D)} {σ : L2.St} {H : Hp} {R : It → Hp → Prop} {Q : List V → Hp → Prop} (h : tDI C own (iA f Fs) σ H R)
    (hq : ∀ ds vs H' its, RVs C.X.K H' ds vs → f ds = some its → (∀ J, WkOk C J H' its → R J H') → Q vs H') : tDA C own Fs σ H Q := by
  obtain ⟨η, M, S, q⟩ := h
  refine ⟨η, M, S, ?_⟩
  unfold iA at q
  cases e : eArgs Fs η M with
  | ok ds M1 =>
    rw [e, Res.bind_ok] at q
    cases e2 : f ds with
    | none => rw [e2] at q; exact q.elim
    | some its =>
      rw [e2] at q
      exact fun vs H1 s1 r1 => hq ds vs H1 its r1 e2 fun J w => q J H1 s1 w
  | err c ns fs M1 =>
    rw [e] at q
    exact q
  | bad =>
    rw [e] at q
    exact q

/-! ### ranges -/
def r62 (a b : Int) : Bool := decide (-(2 ^ 62) ≤ a) && decide (a < 2 ^ 62) && decide (-(2 ^ 62) ≤ b) && decide (b < 2 ^ 62)
theorem r62_of {a b : Int} (h : r62 a b = true) : -(2 ^ 62) ≤ a ∧ a < 2 ^ 62 ∧ -(2 ^ 62) ≤ b ∧ b < 2 ^ 62 := by
  simp only [r62, Bool.and_eq_true, decide_eq_true_eq] at h
  exact ⟨h.1.1.1, h.1.1.2, h.1.2, h.2⟩
/-- a, and c more each time, n times -/
def stD (a c : Int) (n : Nat) : List D := (List.range n).map fun i => D.int (a + (i : Nat) * c)
def rR1 : List D → Option (List D)
  | [.int n] => if r62 0 n then some (rgD 0 n) else none
  | _ => none
def rR2 : List D → Option (List D)
  | [.int m, .int n] => if r62 m n then some (rgD m n) else none
  | _ => none
def rR3 : List D → Option (List D)
  | [.int m, .int n, .int c] => if r62 m n && decide (c = -1) then some (stD m (-1) (m - n).toNat) else none
  | _ => none
theorem wk_fn {J : It} {H1 : Hp} {n : Nat} {f : Nat → Int} {ds : List D} (w : Walk J n (fun _ => True) (YFn fun i => .int (f i))) (e : ds = (List.range n).map fun i => D.int (f i)) : WkOk C J H1 ds := by
  have hl : ds.length = n := by rw [e, List.length_map, List.length_range]
  refine ⟨YFn fun i => .int (f i), by rw [hl]; exact w.mono (fun H f => trivial) fun i H x H' hi f y => y, fun i H M x H' hi fx m y => ?_⟩
  obtain ⟨e1, hx⟩ := y
  subst e1 hx
  refine ⟨Stp.refl m, .int (f i), ?_, rfl⟩
  rw [e, List.getElem?_map, List.getElem?_range (by omega)]
  rfl
theorem di_r1 (h : DV C own [a] Fs) (hg : Gl C.X "range") (hm : C.X.mg "range" = none) (hs : starEach [a] C.X.env = [(false, eval a C.X.env)] := by rfl) : DI C own tg (.Call (.Name "range" p) [a] [] pos) (iA rR1 Fs) := by
  refine PI.imp (pi_range1 hg hm h hs) fun σ H R q => tDI_v q fun ds vs H' its r e q => ?_
  unfold rR1 at e
  split at e
  · rename_i n
    split at e
    · rename_i hr
      cases e
      obtain ⟨h1, h2, h3, h4⟩ := r62_of hr
      obtain ⟨v, rfl, k⟩ := vxs1 r
      refine ⟨n, by rw [vw_int k], h3, h4, q _ (wk_fn (f := fun i => 0 + (i : Nat)) walk_range ?_)⟩
      unfold rgD
      rw [Int.sub_zero]
    · cases e
  · cases e
theorem di_r2 (h : DV C own [a, b] Fs) (hg : Gl C.X "range") (hm : C.X.mg "range" = none) (hs : starEach [a, b] C.X.env = [(false, eval a C.X.env), (false, eval b C.X.env)] := by rfl) (hs2 : starEach [b] C.X.env = [(false, eval b C.X.env)] := by rfl) :
    DI C own tg (.Call (.Name "range" p) [a, b] [] pos) (iA rR2 Fs) := by
  refine PI.imp (pi_range2 hg hm h hs hs2) fun σ H R q => tDI_v q fun ds vs H' its r e q => ?_
  unfold rR2 at e
  split at e
  · rename_i m n
    split at e
    · rename_i hr
      cases e
      obtain ⟨h1, h2, h3, h4⟩ := r62_of hr
      obtain ⟨v, w, rfl, k, k2⟩ := vxs2 r
      exact ⟨m, n, by rw [vw_int k, vw_int k2], ⟨h1, h2, h3, h4⟩, q _ (wk_fn (f := fun i => m + (i : Nat)) walk_range rfl)⟩
    · cases e
  · cases e
theorem vxs3 {K : PySem.W.Frag} {H : Hp} {d d2 d3 : D} {vs : List V} (h : VXs K H [d, d2, d3] vs) : ∃ v w x, vs = [v, w, x] ∧ VX K H d v ∧ VX K H d2 w ∧ VX K H d3 x := by
  obtain ⟨v, r, e, h1, h2⟩ := h
  obtain ⟨w, x, e2, h3, h4⟩ := vxs2 h2
  exact ⟨v, w, x, by rw [e, e2], h1, h3, h4⟩
theorem di_r3 {c : Expr} (h : DV C own [a, b, c] Fs) (hg : Gl C.X "range") (hm : C.X.mg "range" = none) (hs : starEach [a, b, c] C.X.env = (false, eval a C.X.env) :: starEach [b, c] C.X.env := by rfl) (hpl : (backTo pos (starEach [b, c] C.X.env)).any (·.1) = false := by rfl) :
    DI C own tg (.Call (.Name "range" p) [a, b, c] [] pos) (iA rR3 Fs) := by
  refine PI.imp (pi_range3 hg hm h hs hpl) fun σ H R q => tDI_v q fun ds vs H' its r e q => ?_
  unfold rR3 at e
  split at e
  · rename_i m n c
    split at e
    · rename_i hr
      rw [Bool.and_eq_true] at hr
      have hc : c = -1 := of_decide_eq_true hr.2
      subst hc
      cases e
      obtain ⟨h1, h2, h3, h4⟩ := r62_of hr.1
      obtain ⟨v, w, x, rfl, k, k2, k3⟩ := vxs3 r
      exact ⟨m, n, -1, (m - n).toNat, by rw [vw_int k, vw_int k2, vw_int k3], RgC.neg h1 h2 h3 h4, q _ (wk_fn (f := fun i => m + (i : Nat) * (-1)) walk_rangeC rfl)⟩
    · cases e
  · cases e

/-! ### enumerate -/
theorem rvs1 {K : PySem.W.Frag} {H : Hp} {d : D} {vs : List V} (h : RVs K H [d] vs) : ∃ v, vs = [v] ∧ RV K H d v := by
  obtain ⟨v, r, e, h1, h2⟩ := RVs.cons_iff.mp h
  exact ⟨v, by rw [e, RVs.nil_iff.mp h2], h1⟩
theorem rvs2 {K : PySem.W.Frag} {H : Hp} {d d2 : D} {vs : List V} (h : RVs K H [d, d2] vs) : ∃ v w, vs = [v, w] ∧ RV K H d v ∧ RV K H d2 w := by
  obtain ⟨v, r, e, h1, h2⟩ := RVs.cons_iff.mp h
  obtain ⟨w, e2, h3⟩ := rvs1 h2
  exact ⟨v, w, by rw [e, e2], h1, h3⟩
/-- pairs of number and item -/
def enD (c : Int) : List D → List D
  | [] => []
  | d :: ds => .tup [.int c, d] :: enD (c + 1) ds
theorem enD_len : ∀ (ds : List D) (c : Int), (enD c ds).length = ds.length
  | [], _ => rfl
  | _ :: ds, c => by simp only [enD, List.length_cons, enD_len ds]
theorem enD_get : ∀ (ds : List D) (c : Int) (i : Nat), (enD c ds)[i]? = ds[i]?.map fun d => .tup [.int (c + (i : Nat)), d]
  | [], _, _ => by simp [enD]
  | d :: ds, c, 0 => by simp [enD]
  | d :: ds, c, i + 1 => by
    simp only [enD, List.getElem?_cons_succ, enD_get ds]
    have e : c + 1 + (i : Nat) = c + ((i + 1 : Nat) : Int) := by omega
    rw [e]
theorem wk_pair {J : It} {H1 : Hp} {n : Nat} {f g : Nat → Option V} {ds : List D} {G : Hp → Prop} (w : Walk J n G (YPair f g)) (hg : ∀ H, Fx H1 H → G H) (hn : ds.length = n)
    (hd : ∀ i x y, f i = some x → g i = some y → i < n → ∃ d e, ds[i]? = some (.tup [d, e]) ∧ RV C.X.K H1 d x ∧ RV C.X.K H1 e y) : WkOk C J H1 ds := by
  refine ⟨YPair f g, by rw [hn]; exact w.mono (fun H q => hg H q) fun i H x H' hi q y => y, fun i H M v H' hi fx m y => ?_⟩
  obtain ⟨T, x, z, rfl, nT, rfl, e1, e2⟩ := y
  obtain ⟨d, e, hde, r1, r2⟩ := hd i x z e1 e2 (by omega)
  have st : Stp C.X.K C.T M H M (upd H T (.tup [x, z])) := Stp.laid m nT
  refine ⟨st, _, hde, ?_⟩
  unfold RV
  exact ⟨T, [x, z], rfl, SqT.of upd_same, RVs.mk (RV.fx (fx.trans st.fx) _ r1) (RVs.mk (RV.fx (fx.trans st.fx) _ r2) (RVs.nil_iff.mpr rfl))⟩
set_option maxHeartbeats 1000000 in
theorem made_enum {v : Value} {o : Obj} {Hh : Heap → Prop} (B : Begins v o Hh) : Meets (Builtin.«enumerate.__new__» ⟨[.type "enumerate", v], []⟩) (fun _ R s => Hh s.heap ∧
      R (.ok (.ret (.ref (s.heap.push o).objs.size))) { s with heap := (s.heap.push o).push { cls := .type "enumerate", data := .fields #[.none, .bool false, .ref s.heap.objs.size, rawInt 0, .none, .none] } }) :=
  .of_wp fun prog w A R s hh => by
    obtain ⟨hp, gs, dr, tk, ww⟩ := s
    obtain ⟨hb, hR⟩ := hh
    have hsub := sub_enumerate
    have go : ∀ {A' : Around} {E' : Value → Shared → Prop} {Q' : Value → Shared → Prop}, Q' (.ref hp.objs.size) ⟨hp.push o, gs, dr, tk, ww⟩ → wpAny (model prog w) A' (pyIter v) Q' E' ⟨hp, gs, dr, tk, ww⟩ := fun q' =>
      B.iter prog w _ _ ⟨hp, gs, dr, tk, ww⟩ _ hb q'
    wp_walk using go
    refine wpAny_stack_any fun sk => wpAny_pure ?_
    split
    · rename_i cc _ _ _ _ _
      cases (cc == Value.type "enumerate")
      · wp_walk using go
        exact ⟨_, rfl, hR⟩
      · wp_walk using go
        exact ⟨_, rfl, hR⟩
    · wp_walk using go
      exact ⟨_, rfl, hR⟩
theorem enum_one {prog : Program} {w : World} {A : Around} {E : Value → Shared → Prop} {s : Shared} {v : Value} {o : Obj} {Hh : Heap → Prop} {Q : Value → Shared → Prop} (B : Begins v o Hh) (h1 : Hh s.heap)
    (h : ∀ h', IsEnum h' (s.heap.objs.size + 1) s.heap.objs.size 0 .none → h'.get? s.heap.objs.size = some o → (∀ b x, s.heap.get? b = some x → h'.get? b = some x) → Q (.ref (s.heap.objs.size + 1)) { s with heap := h' }) :
    wpAny (model prog w) A (call (.type "enumerate") [v]) Q E s := by
  refine callType_new F.called_enumerate (by decide) (F.typeCall_enumerate_1 _) (F.newCall_enumerate_1 _) (fun obj => F.args_object_init_2 obj _) F.entry_enumerate_new (made_enum B) ⟨h1, ?_⟩
  have zz : (s.heap.push o).objs.size = s.heap.objs.size + 1 := Heap.size_push ..
  have he : IsEnum ((s.heap.push o).push { cls := .type "enumerate", data := .fields #[.none, .bool false, .ref s.heap.objs.size, rawInt 0, .none, .none] }) (s.heap.objs.size + 1) s.heap.objs.size 0 .none := by
    have q := Heap.get?_push_size (s.heap.push o) (o := { cls := .type "enumerate", data := .fields #[.none, .bool false, .ref s.heap.objs.size, rawInt 0, .none, .none] }) rfl
    rw [zz] at q; exact q
  show _ ∧ _
  rw [zz]
  exact ⟨⟨_, he, rfl⟩, h _ he (Heap.get?_push_of_some _ (Heap.get?_push_size _ B.free)) fun b x q => Heap.get?_push_of_some _ (Heap.get?_push_of_some _ q)⟩
def rEn1 : List D → Option (List D)
  | [d] => (dSeq d).map fun p => enD 0 p.2
  | _ => none
def rEn2 : List D → Option (List D)
  | [d, .int c] => if r62 c c then (dSeq d).map fun p => enD c p.2 else none
  | _ => none
variable {elts : List Expr} {kk : Nat} {tpos : Pos}
theorem en_pie {pins : List (Addr × Obj)} {σ : L2.St} {H : Hp} {s : Shared} {R : It → Hp → Prop} {c : Int} {k : Bool} {at_ : Addr} {xs : List V} {h' : Heap} (I : Inv C.X pins σ H s) (sq : SqA C.X.K H k at_ xs)
    (he : IsEnum h' (s.heap.objs.size + 1) s.heap.objs.size c .none) (ho : h'.get? s.heap.objs.size = some (itO k at_)) (kp : ∀ b x, s.heap.get? b = some x → h'.get? b = some x) (q : R (ItEn C.X.K c k at_ xs) H) :
    wpAny (model C.X.prog C.X.w) C.X.A (pyIter (.ref (s.heap.objs.size + 1))) (PIE C.X pins σ (.Tuple elts kk tpos) R) C.X.xe { s with heap := h' } := by
  refine wpAny_pyIter_enum he ?_
  obtain ⟨its, rv, sh, _⟩ := Inv.sqA I sq
  have la : at_ < s.heap.objs.size := by
    cases k
    · obtain ⟨o, q, _⟩ := (show s.heap.IsTuple at_ _ from sh); exact Heap.lt_size q
    · obtain ⟨o, q, _⟩ := (show s.heap.IsList at_ _ from sh); exact Heap.lt_size q
  have I2 : Inv C.X pins σ H { s with heap := h' } := I.kept (t' := s.toks) kp
  refine ⟨s.heap.objs.size + 1, [s.heap.objs.size + 1, s.heap.objs.size], _, _, H, rfl, I2, turn_en c k xs at_ (s.heap.objs.size + 1) s.heap.objs.size, ⟨⟨.none, by simpa using he⟩, itH_begins ho, Nat.succ_ne_self _, Nat.ne_of_gt (Nat.lt_succ_of_lt la)⟩, fun b hb => ?_, q⟩
  have hle : s.heap.objs.size ≤ b := by
    rcases (by simpa using hb : b = s.heap.objs.size + 1 ∨ b = s.heap.objs.size) with z | z
    · rw [z]; exact Nat.le_succ _
    · rw [z]; exact Nat.le_refl _
  exact I.fpOk hle (I.hok.fresh hle)
theorem wk_en {K : Bool} {H1 : Hp} {c : Int} {at_ : Addr} {xs : List V} {ds : List D} (hs : ∀ H', Fx H1 H' → SqA C.X.K H' K at_ xs) (r : RVs C.X.K H1 ds xs) : WkOk C (ItEn C.X.K c K at_ xs) H1 (enD c ds) := by
  refine wk_pair walk_en (fun H f => hs H f) (by rw [enD_len, r.length]) fun i x y e1 e2 hi => ?_
  obtain ⟨d, h1, h2⟩ := r.get' e2
  cases e1
  exact ⟨.int (c + (i : Nat)), d, by rw [enD_get, h1]; rfl, rfl, h2⟩
theorem di_en1 (h : DA C own [e] Fs) (hg : Gl C.X "enumerate") (hm : C.X.mg "enumerate" = none) (hs : starEach [e] C.X.env = [(false, eval e C.X.env)] := by rfl) : DI C own (.Tuple elts kk tpos) (.Call (.Name "enumerate" p) [e] [] pos) (iA rEn1 Fs) := by
  refine ⟨fun pins s σ H R I q => ?_⟩
  refine Call_ (ld_blt I hg hm boot_enumerate (PyProof.Rows.callWith_type1 (thn (h.run pos pins s σ H _ I (tDI_s (Q := fun vs H' => ∃ v k at_ xs c, vs = [v] ∧ v = V.ref at_ ∧ SqA C.X.K H' k at_ xs ∧ c = (0 : Int) ∧ R (ItEn C.X.K c k at_ xs) H') q fun ds vs H' its r e q => ?_)) fun us s1 ⟨vs, H1, I1, r1, q1⟩ => ?_) hs rfl))
  · unfold rEn1 at e
    split at e
    · obtain ⟨⟨k, l⟩, e1, rfl⟩ := Option.map_eq_some_iff.mp e
      obtain ⟨v, rfl, rv⟩ := rvs1 r
      obtain ⟨a, xs, rfl, hs, r⟩ := seq_stable rv e1
      exact ⟨_, k, a, xs, 0, rfl, rfl, hs _ (Fx.refl _), rfl, q _ (wk_en hs r)⟩
    · cases e
  · obtain ⟨v, k, at_, xs, c, rfl, rfl, sq, rfl, q⟩ := q1
    obtain ⟨u, rfl, ru⟩ := vals1 r1
    cases ru
    obtain ⟨its, rv, sh, _⟩ := Inv.sqA I1 sq
    exact enum_one (seq_begins k at_ its.toArray) sh fun h' he ho kp => en_pie I1 sq he ho kp q
theorem di_en2 (h : DA C own [e, e2] Fs) (hg : Gl C.X "enumerate") (hm : C.X.mg "enumerate" = none) (hs : starEach [e, e2] C.X.env = (false, eval e C.X.env) :: starEach [e2] C.X.env := by rfl) (hpl : (backTo pos (starEach [e2] C.X.env)).any (·.1) = false := by rfl) :
    DI C own (.Tuple elts kk tpos) (.Call (.Name "enumerate" p) [e, e2] [] pos) (iA rEn2 Fs) := by
  refine ⟨fun pins s σ H R I q => ?_⟩
  refine Call_ (ld_blt I hg hm boot_enumerate (PyProof.Rows.callWith_type1 (thn (h.run pos pins s σ H _ I (tDI_s (Q := fun vs H' => ∃ v k at_ xs c, vs = [v, .int c] ∧ v = V.ref at_ ∧ SqA C.X.K H' k at_ xs ∧ r62 c c = true ∧ R (ItEn C.X.K c k at_ xs) H') q fun ds vs H' its r e q => ?_)) fun us s1 ⟨vs, H1, I1, r1, q1⟩ => ?_) hs hpl))
  · unfold rEn2 at e
    split at e
    · split at e
      · rename_i hc
        obtain ⟨⟨k, l⟩, e1, rfl⟩ := Option.map_eq_some_iff.mp e
        obtain ⟨v, w, rfl, rv, rw'⟩ := rvs2 r
        obtain ⟨a, xs, rfl, hs, r⟩ := seq_stable rv e1
        rw [show w = .int _ from rw']
        exact ⟨_, k, a, xs, _, rfl, rfl, hs _ (Fx.refl _), hc, q _ (wk_en hs r)⟩
      · cases e
    · cases e
  · obtain ⟨v, k, at_, xs, c, rfl, rfl, sq, hc, q⟩ := q1
    obtain ⟨u, w, rfl, ru, rw'⟩ := vals2 r1
    cases ru
    obtain ⟨t, rfl⟩ := rw'
    obtain ⟨h1, h2, _, _⟩ := r62_of hc
    obtain ⟨its, rv, sh, _⟩ := Inv.sqA I1 sq
    exact enum_begins (seq_begins k at_ its.toArray) sh (by omega) (by omega) fun h' he ho _ kp => en_pie I1 sq he ho kp q
end
end Tn

set_option Elab.async false
set_option linter.all false
set_option maxRecDepth 100000
set_option maxHeartbeats 4000000
namespace Tn
open PySem PySem.Spec PyProof.Rows L2

/-! ### zip of two, each a list or a tuple -/
def ItZ2 (K : PySem.W.Frag) (k k2 : Bool) (a b : Addr) (xs ys : List V) : It :=
  ⟨fun i H => SqA K H k a xs ∧ SqA K H k2 b ys ∧ i < xs.length ∧ i < ys.length, fun i H v H' => ∃ T x y, v = .ref T ∧ H T = none ∧ H' = upd H T (.tup [x, y]) ∧ xs[i]? = some x ∧ ys[i]? = some y,
    fun i H => SqA K H k a xs ∧ SqA K H k2 b ys ∧ i ≤ xs.length ∧ i ≤ ys.length ∧ (i = xs.length ∨ i = ys.length)⟩
theorem five {c z TI TO i1 i2 : Addr} (h : c ∈ [z, TI, TO, i1, i2]) : c = z ∨ c = TI ∨ c = TO ∨ c = i1 ∨ c = i2 := by simpa using h
theorem seq_item {X : Cx} {pins : List (Addr × Obj)} {σ : L2.St} {H : Hp} {s : Shared} {a : Addr} {k : Bool} {xs : List V} {its : List Value} {i : Nat} {u : Value} (rv : Vals xs its) (hlt : i < xs.length) (hu : its.toArray[i]? = some u) : ∃ x, xs[i]? = some x ∧ RelV x u := by
  obtain ⟨u2, e2, r2⟩ := rv.get (i := i) (x := xs[i]) (List.getElem?_eq_getElem hlt)
  have hu' : its[i]? = some u := by simpa using hu
  rw [hu'] at e2
  cases e2
  exact ⟨_, List.getElem?_eq_getElem hlt, r2⟩
theorem turn_z2 {P : Program} {w : World} {K : PySem.W.Frag} {elts : List Expr} {kk : Nat} {tpos : Pos} (k k2 : Bool) (xs ys : List V) (a b z TI TO i1 i2 : Addr) (S : ZipSep2 z TI TO i1 i2 [i1, a] [i2, b]) :
    Turn P w K (.Tuple elts kk tpos) (ItZ2 K k k2 a b xs ys) [z, TI, TO, i1, i2] z (fun i h => IsZip h z TI TO .none ∧ IsTupOf2 h TI (.ref i1) (.ref i2) ∧ (∃ u v, IsTupOf2 h TO u v) ∧ ItH k h i1 a i ∧ ItH k2 h i2 b i) where
  mem := by simp
  obj := fun i h st c hc => by
    obtain ⟨hz, hTI, ⟨x, y, hTO⟩, h1, h2⟩ := st
    rcases five hc with q | q | q | q | q
    · rw [q]; exact ⟨_, hz, fun v q => nomatch q⟩
    · rw [q]; exact ⟨_, hTI, fun v q => nomatch q⟩
    · rw [q]; exact ⟨_, hTO, fun v q => nomatch q⟩
    · rw [q]; exact h1.there
    · rw [q]; exact h2.there
  keep := fun i h h' st kp => by
    obtain ⟨hz, hTI, ⟨x, y, hTO⟩, h1, h2⟩ := st
    exact ⟨kp z (by simp) _ hz, kp TI (by simp) _ hTI, ⟨x, y, kp TO (by simp) _ hTO⟩, h1.to fun o q => kp i1 (by simp) o q, h2.to fun o q => kp i2 (by simp) o q⟩
  item := by
    intro X hP hw hK hc i pins s σ H E I hf st hg
    subst hP hw hK
    obtain ⟨hz, hTI, ⟨x0, y0, hTO⟩, h1, h2⟩ := st
    obtain ⟨q1, q2, l1, l2⟩ := hg
    obtain ⟨its, rv, sq, _⟩ := Inv.sqA I q1
    obtain ⟨its2, rv2, sq2, _⟩ := Inv.sqA I q2
    have e1 := rv.length
    have e2 := rv2.length
    have D1 := seq_draws (prog := X.prog) (w := X.w) (A := X.A.in1) (I.ok.hd hc) k i1 a (h1.ne sq) its.toArray
    have D2 := seq_draws (prog := X.prog) (w := X.w) (A := X.A.in1) (I.ok.hd hc) k2 i2 b (h2.ne sq2) its2.toArray
    have hzl : z < s.heap.objs.size := Heap.lt_size hz
    refine wpAny_pyNext_zipD2_item S D1 D2 hz hTI hTO ⟨h1, sq⟩ ⟨h2, sq2⟩ (by rw [List.size_toArray]; omega) (by rw [List.size_toArray]; omega) fun u u2 h' tk hu hu2 z' TO' st1 st2 hT hsz hk => ?_
    obtain ⟨x, hx, ru⟩ := seq_item (X := X) (pins := pins) (σ := σ) (H := H) (s := s) (a := a) (k := k) rv l1 hu
    obtain ⟨y, hy, ru2⟩ := seq_item (X := X) (pins := pins) (σ := σ) (H := H) (s := s) (a := a) (k := k) rv2 l2 hu2
    refine ⟨_, rfl, wpAny_letOwnedTupleGo_zip (s := { s with heap := h', toks := tk }) z' fun h3 z3 sb => ?_⟩
    have hT2 : h3.get? s.heap.objs.size = some { cls := .type "tuple", data := .seq #[u, u2] } := (sb.2 _ (Nat.ne_of_gt hzl)).trans hT
    have new : ObjOk X.prog X.w (upd H s.heap.objs.size (.tup [x, y])) h3 s.heap.objs.size (.tup [x, y]) :=
      ⟨by show 2 ≤ sizeLine; decide, [u, u2], .cons ru (.cons ru2 .nil), ⟨_, hT2, rfl, _, rfl⟩⟩
    have kb : ∀ c o, c ∉ [z, TI, TO, i1, i2] → s.heap.get? c = some o → h3.get? c = some o := fun c o hb q =>
      (sb.2 c (fun q' => hb (by simp [q']))).trans (hk c o (fun q' => hb (by simp [q'])) (fun q' => hb (by simp [q'])) (fun q' => hb (by simp [q'])) (fun q' => hb (by simp [q'])) q)
    have I1 : Inv X pins σ (upd H s.heap.objs.size (.tup [x, y])) { s with heap := h3, toks := tk } := I.turnedNew (ch := [z, TI, TO, i1, i2]) kb hf (Nat.le_refl _) new
    refine ⟨.ref s.heap.objs.size, _, I1, rfl, ⟨_, x, y, rfl, I.hok.fresh (Nat.le_refl _), rfl, hx, hy⟩, ⟨z3, ?_, ⟨u, u2, ?_⟩, ?_, ?_⟩, fun c hcm => ?_⟩
    · exact (sb.2 _ S.TIz).trans (hk _ _ S.TIz S.TITO S.TIi1 S.TIi2 hTI)
    · exact (sb.2 _ S.TOz).trans TO'
    · exact st1.1.to fun o q => (sb.2 _ fun e => S.zf1 (by simp [e])).trans q
    · exact st2.1.to fun o q => (sb.2 _ fun e => S.zf2 (by simp [e])).trans q
    · have hlt : c < s.heap.objs.size := by
        rcases five hcm with q | q | q | q | q
        · rw [q]; exact hzl
        · rw [q]; exact Heap.lt_size hTI
        · rw [q]; exact Heap.lt_size hTO
        · rw [q]; obtain ⟨_, e1, _⟩ := h1.there; exact Heap.lt_size e1
        · rw [q]; obtain ⟨_, e2, _⟩ := h2.there; exact Heap.lt_size e2
      rw [upd_ne (Nat.ne_of_lt hlt)]
      exact (hf c hcm).1
  done := by
    intro X hP hw hK hc i pins s σ H E I hf st hg
    subst hP hw hK
    obtain ⟨hz, hTI, ⟨x0, y0, hTO⟩, h1, h2⟩ := st
    obtain ⟨q1, q2, l1, l2, hend⟩ := hg
    obtain ⟨its, rv, sq, _⟩ := Inv.sqA I q1
    obtain ⟨its2, rv2, sq2, _⟩ := Inv.sqA I q2
    have e1 := rv.length
    have e2 := rv2.length
    have D1 := seq_draws (prog := X.prog) (w := X.w) (A := X.A.in1) (I.ok.hd hc) k i1 a (h1.ne sq) its.toArray
    have D2 := seq_draws (prog := X.prog) (w := X.w) (A := X.A.in1) (I.ok.hd hc) k2 i2 b (h2.ne sq2) its2.toArray
    refine wpAny_pyNext_zipD2_end S D1 D2 hz hTI hTO ⟨h1, sq⟩ ⟨h2, sq2⟩ (by rw [List.size_toArray]; omega) (by rw [List.size_toArray]; omega) (by rw [List.size_toArray, List.size_toArray]; omega) fun h' tk hk => ⟨rfl, ?_⟩
    exact I.turnedL (t' := tk) (ch := [z, TI, TO, i1, i2]) (fun c o hb q => hk c o (fun q' => hb (by simp [q'])) (fun q' => hb (by simp [q'])) (fun q' => hb (by simp [q'])) (fun q' => hb (by simp [q'])) q) hf
  self := fun A i s Q E st h => wpAny_pyIter_zip st.1 h
theorem walk_z2 {K : PySem.W.Frag} {k k2 : Bool} {a b : Addr} {xs ys : List V} : Walk (ItZ2 K k k2 a b xs ys) (min xs.length ys.length) (fun H => SqA K H k a xs ∧ SqA K H k2 b ys) (YPair (fun i => xs[i]?) (fun i => ys[i]?)) :=
  ⟨fun i H hi h => ⟨h.1, h.2, by omega, by omega⟩, fun H h => ⟨h.1, h.2, by omega, by omega, by omega⟩, fun i H v H' hi h ⟨T, x, y, e, n, e2, hx, hy⟩ => ⟨T, x, y, e, n, e2, hx, hy⟩⟩
def zipD : List D → List D → List D
  | a :: as, b :: bs => .tup [a, b] :: zipD as bs
  | _, _ => []
theorem zipD_len : ∀ (as bs : List D), (zipD as bs).length = min as.length bs.length
  | [], _ => by simp [zipD]
  | _ :: _, [] => by simp [zipD]
  | _ :: as, _ :: bs => by simp only [zipD, List.length_cons, zipD_len as bs]; omega
theorem zipD_get : ∀ (as bs : List D) (i : Nat) {a b : D}, as[i]? = some a → bs[i]? = some b → (zipD as bs)[i]? = some (.tup [a, b])
  | [], _, _, _, _, h, _ => by simp at h
  | _ :: _, [], _, _, _, _, h => by simp at h
  | _ :: _, _ :: _, 0, _, _, h, h2 => by simp at h h2; simp [zipD, h, h2]
  | _ :: as, _ :: bs, i + 1, _, _, h, h2 => by
    simp only [List.getElem?_cons_succ] at h h2
    simp only [zipD, List.getElem?_cons_succ]
    exact zipD_get as bs i h h2
def rZip : List D → Option (List D)
  | [d, e] => (dSeq d).bind fun p => (dSeq e).map fun q => zipD p.2 q.2
  | _ => none
section
variable {C : Cn} {own : List Ow} {e e2 : Expr} {Fs : List EF} {pos p : Pos} {elts : List Expr} {kk : Nat} {tpos : Pos}
theorem seqH_lt {k : Bool} {h : Heap} {a : Addr} {its : Array Value} (s : SeqH k h a its) : a < h.objs.size := by
  cases k
  · obtain ⟨o, q, _⟩ := (show h.IsTuple a its from s); exact Heap.lt_size q
  · obtain ⟨o, q, _⟩ := (show h.IsList a its from s); exact Heap.lt_size q
theorem sep5 (n a b : Nat) (la : a < n) (lb : b < n) : ZipSep2 (n + 4) (n + 2) (n + 3) n (n + 1) [n, a] [n + 1, b] := by
  have m2 : ∀ (x y z : Nat), x ∈ [y, z] ↔ x = y ∨ x = z := fun x y z => by simp
  constructor
  · show n + 2 ≠ n + 4; omega
  · show n + 3 ≠ n + 4; omega
  · show n + 2 ≠ n + 3; omega
  · show n + 2 ≠ n; omega
  · exact (m2 n n a).mpr (.inl rfl)
  · exact fun q => by rcases (m2 (n + 4) n a).mp q with q | q <;> omega
  · exact fun q => by rcases (m2 (n + 3) n a).mp q with q | q <;> omega
  · show n + 2 ≠ n + 1; omega
  · exact (m2 (n + 1) (n + 1) b).mpr (.inl rfl)
  · exact fun q => by rcases (m2 (n + 4) (n + 1) b).mp q with q | q <;> omega
  · exact fun q => by rcases (m2 (n + 3) (n + 1) b).mp q with q | q <;> omega
  · exact fun q => by rcases (m2 n (n + 1) b).mp q with q | q <;> omega
  · exact fun q => by rcases (m2 (n + 1) n a).mp q with q | q <;> omega
theorem di_zip (h : DA C own [e, e2] Fs) (hg : Gl C.X "zip") (hm : C.X.mg "zip" = none) (hs : starEach [e, e2] C.X.env = (false, eval e C.X.env) :: starEach [e2] C.X.env := by rfl) (hpl : (backTo pos (starEach [e2] C.X.env)).any (·.1) = false := by rfl) :
    DI C own (.Tuple elts kk tpos) (.Call (.Name "zip" p) [e, e2] [] pos) (iA rZip Fs) := by
  refine ⟨fun pins s σ H R I q => ?_⟩
  refine Call_ (ld_blt I hg hm PyProof.Rows.boot_zip (PyProof.Rows.callWith_type1 (thn (h.run pos pins s σ H _ I (tDI_s (Q := fun vs H' => ∃ k k2 a b xs ys, vs = [.ref a, .ref b] ∧ SqA C.X.K H' k a xs ∧ SqA C.X.K H' k2 b ys ∧ R (ItZ2 C.X.K k k2 a b xs ys) H') q fun ds vs H' its r e q => ?_)) fun us s1 ⟨vs, H1, I1, r1, q1⟩ => ?_) hs hpl))
  · unfold rZip at e
    split at e
    · obtain ⟨⟨k, l⟩, e1, e⟩ := Option.bind_eq_some_iff.mp e
      obtain ⟨⟨k2, l2⟩, e2, rfl⟩ := Option.map_eq_some_iff.mp e
      obtain ⟨v, w, rfl, rv, rw'⟩ := rvs2 r
      obtain ⟨a, xs, rfl, hs, t1⟩ := seq_stable rv e1
      obtain ⟨b, ys, rfl, hs2, t2⟩ := seq_stable rw' e2
      refine ⟨k, k2, a, b, xs, ys, rfl, hs _ (Fx.refl _), hs2 _ (Fx.refl _), q _ ?_⟩
      refine wk_pair walk_z2 (fun H f => ⟨hs H f, hs2 H f⟩) (by rw [zipD_len, t1.length, t2.length]) fun i x y e1 e2 hi => ?_
      obtain ⟨d, h1, h2⟩ := t1.get' e1
      obtain ⟨d2, h3, h4⟩ := t2.get' e2
      exact ⟨d, d2, zipD_get _ _ i h1 h3, h2, h4⟩
    · cases e
  · obtain ⟨k, k2, a, b, xs, ys, rfl, sq, sq2, q⟩ := q1
    obtain ⟨u, w, rfl, ru, rw'⟩ := vals2 r1
    cases ru
    cases rw'
    obtain ⟨its, rv, sh, _⟩ := Inv.sqA I1 sq
    obtain ⟨its2, rv2, sh2, _⟩ := Inv.sqA I1 sq2
    have la := seqH_lt sh
    have lb := seqH_lt sh2
    refine zip_begins2 (seq_begins k a its.toArray) (seq_begins k2 b its2.toArray) sh sh2 fun h' hz hTI hTO h1 h2 hsz hk => wpAny_pyIter_zip hz ?_
    have I2 : Inv C.X pins σ H1 { s1 with heap := h' } := I1.kept (t' := s1.toks) hk
    generalize hn : s1.heap.objs.size = n at *
    have S : ZipSep2 (n + 4) (n + 2) (n + 3) n (n + 1) [n, a] [n + 1, b] := sep5 n a b la lb
    refine ⟨n + 4, [n + 4, n + 2, n + 3, n, n + 1], _, _, H1, rfl, I2, turn_z2 k k2 xs ys a b _ _ _ _ _ S, ⟨hz, hTI, ⟨_, _, hTO⟩, itH_begins h1, itH_begins h2⟩, fun c hcm => ?_, q⟩
    have hle : s1.heap.objs.size ≤ c := by
      rw [hn]
      rcases five hcm with z | z | z | z | z
      · rw [z]; exact Nat.le_add_right _ _
      · rw [z]; exact Nat.le_add_right _ _
      · rw [z]; exact Nat.le_add_right _ _
      · rw [z]; exact Nat.le_refl _
      · rw [z]; exact Nat.le_add_right _ _
    exact I1.fpOk hle (I1.hok.fresh hle)

/-! ### dicts, texts -/
def dKeys : D → Option (List D)
  | .dct ks vs => some ks
  | _ => none
def dVals : D → Option (List D)
  | .dct ks vs => some vs
  | _ => none
def dItems : D → Option (List D)
  | .dct ks vs => some (zipD ks vs)
  | _ => none
variable {tg : Expr} {F : EF} {apos cpos : Pos}
theorem rv_kD {K : PySem.W.Frag} {H : Hp} (k : Key) : RV K H (kD k) (kV k) := by cases k <;> rfl
theorem di_keys (h : DE C .stable own e F) : DI C own tg e (iOf dKeys F) := by
  refine PI.imp (pi_keys h) fun σ H R q => tDI_of (g := .stable) q fun d M' v H' M η s1 S1 rg q => ?_
  cases d with
  | dct ks vs =>
    change RV C.X.K H' (.dct ks vs) v at rg
    unfold RV at rg
    obtain ⟨a, xs, u, rfl, ⟨o, ho⟩, ⟨kvs, rfl, rfl, rfl⟩, r⟩ := rg
    refine ⟨a, o, rfl, .inl ⟨kvs, ho, q _ H' s1 ⟨fun i H x H' => H' = H ∧ ∃ k v, kvs[i]? = some (k, v) ∧ x = kV k, ?_, fun i H M x H' hi f m y => ?_⟩⟩⟩
    · rw [List.length_map]; exact walk_keys.mono (fun H f => f _ _ ho (.inr ⟨_, _, rfl⟩)) fun i H x H' hi f y => y
    · obtain ⟨e1, k, v, hk, e2⟩ := y
      subst e1 e2
      exact ⟨Stp.refl m, kD k, by rw [List.getElem?_map, hk]; rfl, rv_kD k⟩
  | _ => exact q.elim
theorem di_values (h : DE C .stable own e F) (hb : attributeBase e "values" C.X.env (eval e C.X.env) = eval e C.X.env := by rfl) (hl : (apos.endLine == cpos.line) = true := by rfl) : DI C own tg (.Call (.Attribute e "values" apos) [] [] cpos) (iOf dVals F) := by
  refine PI.imp (pi_values h hb hl) fun σ H R q => tDI_of (g := .stable) q fun d M' v H' M η s1 S1 rg q => ?_
  cases d with
  | dct ks vs =>
    change RV C.X.K H' (.dct ks vs) v at rg
    unfold RV at rg
    obtain ⟨a, xs, u, rfl, ⟨o, ho⟩, ⟨kvs, rfl, rfl, rfl⟩, r⟩ := rg
    have hl : vs.length = kvs.length := by rw [r.length, List.length_map]
    refine ⟨a, o, kvs, rfl, ho, q _ H' s1 ⟨fun i H x H' => H' = H ∧ ∃ k, kvs[i]? = some (k, x), ?_, fun i H M x H' hi f m y => ?_⟩⟩
    · rw [hl]; exact walk_values.mono (fun H f => f _ _ ho (.inr ⟨_, _, rfl⟩)) fun i H x H' hi f y => y
    · obtain ⟨e1, k, hk⟩ := y
      subst e1
      obtain ⟨d, h1, h2⟩ := r.get' (i := i) (v := x) (by rw [List.getElem?_map, hk]; rfl)
      exact ⟨Stp.refl m, d, h1, RV.fx f _ h2⟩
  | _ => exact q.elim
theorem di_items (h : DE C .stable own e F) (hb : attributeBase e "items" C.X.env (eval e C.X.env) = eval e C.X.env := by rfl) (hl : (apos.endLine == cpos.line) = true := by rfl) : DI C own (.Tuple elts kk tpos) (.Call (.Attribute e "items" apos) [] [] cpos) (iOf dItems F) := by
  refine PI.imp (pi_items h hb hl) fun σ H R q => tDI_of (g := .stable) q fun d M' v H' M η s1 S1 rg q => ?_
  cases d with
  | dct ks vs =>
    change RV C.X.K H' (.dct ks vs) v at rg
    unfold RV at rg
    obtain ⟨a, xs, u, rfl, ⟨o, ho⟩, ⟨kvs, rfl, rfl, rfl⟩, r⟩ := rg
    have hl : vs.length = kvs.length := by rw [r.length, List.length_map]
    refine ⟨a, o, kvs, rfl, ho, q _ H' s1 (wk_pair walk_items (fun H f => f _ _ ho (.inr ⟨_, _, rfl⟩)) (by rw [zipD_len, List.length_map, hl, Nat.min_self]) fun i x y e1 e2 hi => ?_)⟩
    cases hk : kvs[i]? with
    | none => rw [hk] at e1; cases e1
    | some kv =>
      rw [hk] at e1 e2
      cases e1
      cases e2
      obtain ⟨d, h1, h2⟩ := r.get' (i := i) (v := kv.2) (by rw [List.getElem?_map, hk]; rfl)
      exact ⟨kD kv.1, d, zipD_get _ _ i (by rw [List.getElem?_map, hk]; rfl) h1, rv_kD _, h2⟩
  | _ => exact q.elim
def dSigns : D → Option (List D)
  | .str z => some (z.cps.toList.map fun c => .str ⟨#[c]⟩)
  | _ => none
theorem di_str {g : Gr} (h : DE C g own e F) : DI C own tg e (iOf dSigns F) := by
  refine PI.imp (pi_str h) fun σ H R q => tDI_of (g := g) q fun d M' v H' M η s1 S1 rg q => ?_
  cases d with
  | str z =>
    refine ⟨z, vw_str rg.vw.vx, q _ H' s1 ⟨fun i H v H' => H' = H ∧ ∃ c, z.cps[i]? = some c ∧ v = .str ⟨#[c]⟩, ?_, fun i H M x H' hi f m y => ?_⟩⟩
    · rw [List.length_map, Array.length_toList]; exact walk_str.mono (fun H f => trivial) fun i H x H' hi f y => y
    · obtain ⟨e1, c, hc, e2⟩ := y
      subst e1 e2
      refine ⟨Stp.refl m, .str ⟨#[c]⟩, ?_, rfl⟩
      rw [List.getElem?_map, Array.getElem?_toList, hc]
      rfl
  | _ => exact q.elim
end
end Tn

set_option Elab.async false
set_option linter.all false
set_option maxRecDepth 100000
set_option maxHeartbeats 4000000
namespace Tn
open PySem PySem.Spec PyProof.Rows L2

/-! ## targets -/
inductive Pat where
  | nm (i : Nat) | tup (ps : List Pat)
def Pat.slots : Pat → List Nat
  | .nm i => [i]
  | .tup ps => slotss ps
where slotss : List Pat → List Nat
  | [] => []
  | p :: ps => p.slots ++ slotss ps
@[simp] def bindP : Pat → D → Env → Option Env
  | .nm i, d, η => some (η.set i d)
  | .tup ps, .tup ds, η => bindPs ps ds η
  | .tup _, _, _ => none
where @[simp] bindPs : List Pat → List D → Env → Option Env
  | [], [], η => some η
  | p :: ps, d :: ds, η => (bindP p d η).bind fun η' => bindPs ps ds η'
  | _, _, _ => none
def gP (K : PySem.W.Frag) : Pat → TG
  | .nm i => gName i
  | .tup ps => gTup K ps.length (gPs ps)
where gPs : List Pat → TGs
  | [] => gNil
  | p :: ps => gCons (gP K p) (gPs ps)
/-- the slots of P are set -/
structure SetBy (K : PySem.W.Frag) (H : Hp) (sl : List Nat) (σ : L2.St) (η : Env) (σ' : L2.St) (η' : Env) : Prop where
  l1 : σ'.length = σ.length
  l2 : η'.length = η.length
  out : ∀ i, i ∉ sl → σ'[i]? = σ[i]? ∧ (η'[i]? : Option D) = η[i]?
  at_ : ∀ i, i ∈ sl → ∀ d, (η'[i]? : Option D) = some d → ∃ v, σ'[i]? = some (some v) ∧ RV K H d v
theorem SetBy.trans {K : PySem.W.Frag} {H : Hp} {a b : List Nat} {σ σ1 σ2 : L2.St} {η η1 η2 : Env} (h : SetBy K H a σ η σ1 η1) (k : SetBy K H b σ1 η1 σ2 η2) : SetBy K H (a ++ b) σ η σ2 η2 where
  l1 := k.l1.trans h.l1
  l2 := k.l2.trans h.l2
  out := fun i hi => by
    rw [List.mem_append, not_or] at hi
    exact ⟨(k.out i hi.2).1.trans (h.out i hi.1).1, (k.out i hi.2).2.trans (h.out i hi.1).2⟩
  at_ := fun i hi d e => by
    by_cases hb : i ∈ b
    · exact k.at_ i hb d e
    · obtain ⟨e1, e2⟩ := k.out i hb
      rw [e2] at e
      rw [e1]
      exact h.at_ i ((List.mem_append.mp hi).resolve_right hb) d e
section
variable {K : PySem.W.Frag} {H : Hp}
mutual
theorem gP_of : ∀ (P : Pat) {d : D} {v : V} {σ : L2.St} {η η' : Env}, η.length = σ.length → RV K H d v → bindP P d η = some η' → ∃ σ', SetBy K H P.slots σ η σ' η' ∧ ∀ Q : L2.St → Hp → Prop, Q σ' H → gP K P v σ H Q
  | .nm i, d, v, σ, η, η', hl, r, e => by
    simp only [bindP, Option.some.injEq] at e
    subst e
    refine ⟨σ.set i (some v), ⟨by simp, by simp, fun j hj => ?_, fun j hj d' e => ?_⟩, fun Q q => q⟩
    · simp only [Pat.slots, List.mem_singleton] at hj
      exact ⟨List.getElem?_set_ne (Ne.symm hj), List.getElem?_set_ne (Ne.symm hj)⟩
    · simp only [Pat.slots, List.mem_singleton] at hj
      subst hj
      rw [List.getElem?_set] at e ⊢
      simp only [if_true] at e ⊢
      split at e
      · rename_i hi
        rw [if_pos (by rw [← hl]; exact hi)]
        cases e
        exact ⟨v, rfl, r⟩
      · cases e
  | .tup ps, d, v, σ, η, η', hl, r, e => by
    cases d with
    | tup ds =>
      simp only [bindP] at e
      unfold RV at r
      obtain ⟨a, xs, rfl, hs, r⟩ := r
      obtain ⟨σ', h1, h2, h3⟩ := gPs_of ps hl r e
      refine ⟨σ', by simpa [Pat.slots] using h1, fun Q q => ?_⟩
      simp only [gP]
      exact ⟨a, xs, rfl, hs, h3, h2 Q q⟩
    | _ => simp [bindP] at e
theorem gPs_of : ∀ (ps : List Pat) {ds : List D} {vs : List V} {σ : L2.St} {η η' : Env}, η.length = σ.length → RVs K H ds vs → bindP.bindPs ps ds η = some η' → ∃ σ', SetBy K H (Pat.slots.slotss ps) σ η σ' η' ∧ (∀ Q : L2.St → Hp → Prop, Q σ' H → gP.gPs K ps vs σ H Q) ∧ vs.length = ps.length
  | [], ds, vs, σ, η, η', hl, r, e => by
    cases ds with
    | nil =>
      simp only [bindP.bindPs, Option.some.injEq] at e
      subst e
      rw [RVs.nil_iff.mp r]
      exact ⟨σ, ⟨rfl, rfl, fun i _ => ⟨rfl, rfl⟩, fun i hi => by simp [Pat.slots.slotss] at hi⟩, fun Q q => ⟨rfl, q⟩, rfl⟩
    | cons _ _ => simp [bindP.bindPs] at e
  | p :: ps, ds, vs, σ, η, η', hl, r, e => by
    cases ds with
    | nil => simp [bindP.bindPs] at e
    | cons d ds =>
      simp only [bindP.bindPs] at e
      obtain ⟨η1, e1, e2⟩ := Option.bind_eq_some_iff.mp e
      obtain ⟨v, w, rfl, r1, r2⟩ := RVs.cons_iff.mp r
      obtain ⟨σ1, s1, q1⟩ := gP_of p hl r1 e1
      obtain ⟨σ2, s2, q2, q3⟩ := gPs_of ps (by rw [s1.l1, s1.l2]; exact hl) r2 e2
      refine ⟨σ2, by simpa [Pat.slots.slotss] using s1.trans s2, fun Q q => ?_, by simp [q3]⟩
      simp only [gP.gPs]
      exact ⟨v, w, rfl, q1 _ (q2 Q q)⟩
end
end
theorem dg_nm {X : Cx} (i : Nat) {x : Str} {pos : Pos} (hN : X.N.Nodup) (hi : X.N[i]? = some x) (hx : Loc X.env.scope x) (hf : X.fn x = true ∨ X.env.scope.names.lookup x = some .local := by first | exact .inl rfl | exact .inr rfl | assumption) : PG X (.Name x pos) (gP X.K (.nm i)) := pg_name hN hi hx hf
theorem dgs_nil {X : Cx} : PGs X [] (gP.gPs X.K []) := pgs_nil
theorem dgs_cons {X : Cx} {e : Expr} {es : List Expr} {P : Pat} {Ps : List Pat} (h1 : PG X e (gP X.K P)) (h2 : PGs X es (gP.gPs X.K Ps)) (hs : (assignEach (e :: es) X.env).map (·.2) = assign e X.env :: (assignEach es X.env).map (·.2) := by rfl) : PGs X (e :: es) (gP.gPs X.K (P :: Ps)) := pgs_cons h1 h2 hs
theorem dg_tup {X : Cx} {es : List Expr} {k : Nat} {Ps : List Pat} {pos : Pos} (hc : X.calm = true) (h : PGs X es (gP.gPs X.K Ps)) (hn : (assignEach es X.env).length = Ps.length := by rfl) (hst : (assignEach es X.env).findIdx? (·.1) = none := by rfl) : PG X (.Tuple es k pos) (gP X.K (.tup Ps)) := pg_tup hc h hn hst
end Tn

set_option Elab.async false
set_option linter.all false
set_option maxRecDepth 100000
set_option maxHeartbeats 4000000
namespace Tn
open PySem PySem.Spec PyProof.Rows L2

/-! ## comprehensions -/
def Res.only {α β : Type} (r : Res α) (k : α → Mem → Res β) : Res β := match r with
  | .ok a m => k a m
  | _ => .bad
@[simp] theorem Res.only_ok {α β : Type} (a : α) (m : Mem) (k : α → Mem → Res β) : (Res.ok a m).only k = k a m := by
  unfold Res.only
  exact Eq.trans rfl rfl
theorem Res.only_iff {α β : Type} {r : Res α} {k : α → Mem → Res β} {b : β} {m' : Mem} (h : r.only k = .ok b m') : ∃ a m, r = .ok a m ∧ k a m = .ok b m' := by
  cases r with
  | ok a m => exact ⟨a, m, rfl, h⟩
  | err c ns fs m => cases h
  | bad => cases h
/-- turn by turn; what the turns add -/
def lcF (t : D → Mem → Res (List D)) : List D → Mem → Res (List D)
  | [], M => .ok [] M
  | d :: ds, M => (t d M).only fun xs M1 => (lcF t ds M1).only fun rs M2 => .ok (xs ++ rs) M2
def wipeE (η : Env) : List Nat → Env
  | [] => η
  | v :: vs => (wipeE η vs).set v .und
@[simp] def onB {α : Type} (P : Pat) (d : D) (η : Env) (k : Env → Res α) : Res α := match bindP P d η with
  | some η' => k η'
  | none => .bad
theorem onB_iff {α : Type} {P : Pat} {d : D} {η : Env} {k : Env → Res α} {a : α} {M : Mem} (h : onB P d η k = .ok a M) : ∃ η', bindP P d η = some η' ∧ k η' = .ok a M := by
  unfold onB at h
  cases e : bindP P d η with
  | some η' => rw [e] at h; exact ⟨η', rfl, h⟩
  | none => rw [e] at h; cases h
/-- a turn's own: the test, the item -/
def elF (Ft : TF) (Fe : EF) (η : Env) (M : Mem) : Res (List D) := (Ft η M).only fun b M1 => if b = true then (Fe η M1).only fun d M2 => .ok [d] M2 else .ok [] M1
def t1F (P : Pat) (Ft : TF) (Fe : EF) (η0 : Env) : D → Mem → Res (List D) := fun d M => onB P d η0 fun η => elF Ft Fe η M
/-- [e for P in I if t] -/
def eLC (vs : List Nat) (P : Pat) (I : IF) (Ft : TF) (Fe : EF) : EF := fun η M => (I η M).bind fun ds M1 => (lcF (t1F P Ft Fe (wipeE η vs)) ds M1).only fun rs M2 => if rs.length ≤ sizeLine then .ok (.lst rs) M2 else .bad
def t2F (P : Pat) (Ft : TF) (vs1 : List Nat) (I1 : IF) (P1 : Pat) (Ft1 : TF) (Fe : EF) (η0 : Env) : D → Mem → Res (List D) := fun d M => onB P d η0 fun η => (Ft η M).only fun b M1 =>
  if b = true then (I1 η M1).only fun es M2 => lcF (t1F P1 Ft1 Fe (wipeE η vs1)) es M2 else .ok [] M1
/-- [e for P in I if t for P1 in I1 if t1] -/
def eLC2 (vs : List Nat) (P : Pat) (I : IF) (Ft : TF) (vs1 : List Nat) (P1 : Pat) (I1 : IF) (Ft1 : TF) (Fe : EF) : EF := fun η M => (I η M).bind fun ds M1 => (lcF (t2F P Ft vs1 I1 P1 Ft1 Fe (wipeE η vs)) ds M1).only fun rs M2 => if rs.length ≤ sizeLine then .ok (.lst rs) M2 else .bad

section
variable {K : PySem.W.Frag} {T : List (Addr × Str)} {M0 M M1 : Mem} {H0 H H1 : Hp} {E : Addr} {rs : List D}
/-- the new list at E, so far rs -/
structure LcI (K : PySem.W.Frag) (T : List (Addr × Str)) (M0 : Mem) (H0 : Hp) (E : Addr) (M : Mem) (rs : List D) (H : Hp) : Prop where
  stp : Stp K T M0 H0 M H
  lst : ∃ acc, H E = some (.lst acc) ∧ RVs K H rs acc
  mn : M E = none
  n0 : Nw H0 E
theorem LcI.step (h : LcI K T M0 H0 E M rs H) (s : Stp K T M H M1 H1) : LcI K T M0 H0 E M1 rs H1 := by
  obtain ⟨acc, e, r⟩ := h.lst
  exact ⟨h.stp.trans s, ⟨acc, s.kp E _ e (.inl h.mn) (.inr fun ps z => by cases z), RVs.fx s.fx _ r⟩, s.mnone e h.mn (fun ps z => by cases z), h.n0⟩
theorem LcI.app {d : D} {y : V} {acc : List V} (h : LcI K T M0 H0 E M rs H) (r : RV K H d y) (e : H E = some (.lst acc)) : LcI K T M0 H0 E M (rs ++ [d]) (upd H E (.lst (acc ++ [y]))) ∧ Fx H (upd H E (.lst (acc ++ [y]))) := by
  obtain ⟨acc', e', r'⟩ := h.lst
  rw [e] at e'
  cases e'
  have f : Fx H (upd H E (.lst (acc ++ [y]))) := Fx.put e (.inl ⟨_, rfl⟩)
  exact ⟨⟨h.stp.put h.n0 e (.inl ⟨_, rfl⟩) h.mn, ⟨_, upd_same, RVs.app (RVs.fx f _ r') (RVs.mk (RV.fx f _ r) (RVs.nil_iff.mpr rfl))⟩, h.mn, h.n0⟩, f⟩
theorem wipeE_some {η : Env} {i : Nat} {d : D} : ∀ {vs : List Nat}, ((wipeE η vs)[i]? : Option D) = some d → d ≠ .und → (η[i]? : Option D) = some d ∧ i ∉ vs
  | [], h, _ => ⟨h, by simp⟩
  | v :: vs, h, n => by
    unfold wipeE at h
    by_cases hi : v = i
    · subst hi
      by_cases hv : v < (wipeE η vs).length
      · rw [List.getElem?_set_self hv] at h; cases h; exact absurd rfl n
      · rw [List.getElem?_eq_none (by simpa using hv)] at h; cases h
    · rw [List.getElem?_set_ne hi] at h
      obtain ⟨h1, h2⟩ := wipeE_some h n
      exact ⟨h1, by simp only [List.mem_cons, not_or]; exact ⟨fun e => hi e.symm, h2⟩⟩
theorem wipeE_len (η : Env) : ∀ vs : List Nat, (wipeE η vs).length = η.length
  | [] => rfl
  | v :: vs => by unfold wipeE; rw [List.length_set, wipeE_len η vs]
theorem wipe_at {σ : L2.St} {i : Nat} : ∀ {vs : List Nat}, i ∈ vs → i < σ.length → (wipe σ vs)[i]? = some none
  | v :: vs, h, hl => by
    unfold wipe
    by_cases hi : v = i
    · subst hi
      exact List.getElem?_set_self (by rw [wipe_length]; exact hl)
    · rw [List.getElem?_set_ne hi]
      exact wipe_at ((List.mem_cons.mp h).resolve_left fun e => hi e.symm) hl
theorem wipe_eq {σ σ2 : L2.St} {vs sl : List Nat} (hl : σ2.length = σ.length) (ho : ∀ i, i ∉ sl → σ2[i]? = (wipe σ vs)[i]?) (hs : ∀ i ∈ sl, i ∈ vs) : wipe σ2 vs = wipe σ vs := by
  apply List.ext_getElem?
  intro i
  by_cases hi : i ∈ vs
  · by_cases hl2 : i < σ.length
    · rw [wipe_at hi (by rw [hl]; exact hl2), wipe_at hi hl2]
    · rw [List.getElem?_eq_none (by rw [wipe_length, hl]; omega), List.getElem?_eq_none (by rw [wipe_length]; omega)]
  · rw [wipe_out hi]
    exact ho i fun q => hi (hs i q)
theorem StE.wipe {own : List Ow} {σ : L2.St} {η : Env} (S : StE K T own σ H η M) (vs : List Nat) : StE K T own (wipe σ vs) H (wipeE η vs) M where
  mo := S.mo
  tabs := S.tabs
  sl := fun i d h1 h2 => by
    obtain ⟨h3, h4⟩ := wipeE_some h1 h2
    rw [wipe_out h4]
    exact S.sl i d h3 h2
  len := by rw [wipe_length, wipeE_len]; exact S.len
theorem StE.set {own : List Ow} {σ σ' : L2.St} {η η' : Env} {sl : List Nat} (S : StE K T own σ H η M) (b : SetBy K H sl σ η σ' η') : StE K T own σ' H η' M where
  mo := S.mo
  tabs := S.tabs
  sl := fun i d h1 h2 => by
    by_cases hi : i ∈ sl
    · obtain ⟨v, e, r⟩ := b.at_ i hi d h1
      exact ⟨v, e, RV.vw r, fun _ => r⟩
    · obtain ⟨e1, e2⟩ := b.out i hi
      rw [e2] at h1
      rw [e1]
      exact S.sl i d h1 h2
  len := by rw [b.l1, b.l2]; exact S.len
end
theorem loop_it {J : It} {n : Nat} {G : Hp → Prop} {Y : Nat → Hp → V → Hp → Prop} (w : Walk J n G Y) {B : V → Hp → (Hp → Prop) → Prop} {H : Hp} {Qd : Hp → Prop} (Pv : Nat → Hp → Prop) (h0 : Pv 0 H) (hG : ∀ i H, i ≤ n → Pv i H → G H)
    (hs : ∀ i x H H', i < n → Pv i H → Y i H x H' → B x H' (Pv (i + 1))) (hd : ∀ H, Pv n H → Qd H) :
    ∃ W : Nat → Nat → Hp → Prop, (∃ m, W 0 m H) ∧ ∀ i m H, W i m H → (J.stop i H ∧ Qd H) ∨ (J.go i H ∧ ∃ Nx : Hp → Prop, (∀ H', Nx H' → ∃ m', m' < m ∧ W (i + 1) m' H') ∧ ∀ x H', J.yld i H x H' → B x H' Nx) := by
  refine ⟨fun i m H => m = n - i ∧ i ≤ n ∧ Pv i H, ⟨n, by simp, Nat.zero_le _, h0⟩, ?_⟩
  rintro i m H ⟨rfl, hi, p⟩
  have q := hG i H hi p
  by_cases hlt : i < n
  · refine .inr ⟨w.goes i H hlt q, Pv (i + 1), fun H' p' => ⟨n - (i + 1), by omega, rfl, hlt, p'⟩, fun x H' y => hs i x H H' hlt p (w.yields i H x H' hlt q y)⟩
  · have e : i = n := by omega
    subst e
    exact .inl ⟨w.stops H q, hd H p⟩
section
variable {C : Cn} {own : List Ow}
theorem lc_loop {J : It} {M0 M M' : Mem} {H0 H1 H : Hp} {E : Addr} {rs xs ds : List D} {t : D → Mem → Res (List D)} {B : V → Hp → (Hp → Prop) → Prop} {Qd : Hp → Prop} (w : WkOk C J H1 ds) (f1 : Fx H1 H) (L : LcI C.X.K C.T M0 H0 E M rs H) (e : lcF t ds M = .ok xs M') (hz : rs.length + xs.length ≤ sizeLine)
    (hs : ∀ d x M rs xs M' H Nx, Fx H1 H → RV C.X.K H d x → LcI C.X.K C.T M0 H0 E M rs H → t d M = .ok xs M' → rs.length + xs.length ≤ sizeLine → (∀ H2, LcI C.X.K C.T M0 H0 E M' (rs ++ xs) H2 → Fx H H2 → Nx H2) → B x H Nx)
    (hd : ∀ H2, LcI C.X.K C.T M0 H0 E M' (rs ++ xs) H2 → Fx H1 H2 → Qd H2) :
    ∃ W : Nat → Nat → Hp → Prop, (∃ m, W 0 m H) ∧ ∀ i m H, W i m H → (J.stop i H ∧ Qd H) ∨ (J.go i H ∧ ∃ Nx : Hp → Prop, (∀ H', Nx H' → ∃ m', m' < m ∧ W (i + 1) m' H') ∧ ∀ x H', J.yld i H x H' → B x H' Nx) := by
  obtain ⟨Y, w, y⟩ := w
  refine loop_it w (fun i H => Fx H1 H ∧ ∃ M rs' xs', LcI C.X.K C.T M0 H0 E M rs' H ∧ lcF t (ds.drop i) M = .ok xs' M' ∧ rs' ++ xs' = rs ++ xs) ⟨f1, M, rs, xs, L, e, rfl⟩ (fun i H _ p => p.1) (fun i x H H' hi ⟨f, M, rs', xs', L, e, ea⟩ hy => ?_) fun H ⟨f, M, rs', xs', L, e, ea⟩ => ?_
  · obtain ⟨s1, d, hd1, r⟩ := y i H M x H' hi f L.stp.mo hy
    have ed : ds.drop i = d :: ds.drop (i + 1) := by
      rw [List.drop_eq_getElem_cons hi]
      congr 1
      rw [List.getElem?_eq_getElem hi] at hd1
      exact Option.some.inj hd1
    rw [ed] at e
    unfold lcF at e
    obtain ⟨ys, M1, e1, e⟩ := Res.only_iff e
    obtain ⟨zs, M2, e2, e⟩ := Res.only_iff e
    cases e
    refine hs d x M rs' ys M1 H' _ (f.trans s1.fx) r (L.step s1) e1 ?_ fun H2 L2 f2 => ⟨(f.trans s1.fx).trans f2, M1, rs' ++ ys, zs, L2, e2, by rw [List.append_assoc]; exact ea⟩
    have := congrArg List.length ea
    simp only [List.length_append] at this
    omega
  · rw [List.drop_eq_nil_of_le (Nat.le_refl _)] at e
    cases e
    rw [List.append_nil] at ea
    subst ea
    exact hd H L f
abbrev Cf (C : Cn) : Cn := { C with W := fun _ _ _ _ => False }
theorem RunE.no {K : PySem.W.Frag} {T : List (Addr × Str)} {g : Gr} {σ : L2.St} {H : Hp} {M : Mem} {d : D} {M' : Mem} {r : Res D} {Q : VK} {W : WX} (e : r = .ok d M') (h : ∀ v H', Stp K T M H M' H' → RG K g H M' H' d v → Q v H') : RunE K T W g σ H M r Q := by
  rw [e]; exact h
/-- the end of a turn -/
theorem turn1 {M0 M M' : Mem} {H0 H : Hp} {E : Addr} {rs xs : List D} {σ : L2.St} {η : Env} {Ft : TF} {Fe : EF} {Nx : Hp → Prop} (S : StE C.X.K C.T own σ H η M) (L : LcI C.X.K C.T M0 H0 E M rs H) (e : elF Ft Fe η M = .ok xs M') (hz : rs.length + xs.length ≤ sizeLine)
    (hx : ∀ H2, LcI C.X.K C.T M0 H0 E M' (rs ++ xs) H2 → Fx H H2 → Nx H2) :
    tDT (Cf C) own Ft σ H fun b H3 => if b = true then tD (Cf C) .stable own Fe σ H3 fun y H4 => ∃ acc, H4 E = some (.lst acc) ∧ acc.length < sizeLine ∧ Nx (upd H4 E (.lst (acc ++ [y]))) else Nx H3 := by
  unfold elF at e
  obtain ⟨b, M1, e1, e⟩ := Res.only_iff e
  refine ⟨η, M, S, ?_⟩
  rw [e1]
  intro H3 s3
  cases b with
  | false =>
    simp only [Bool.false_eq_true, if_false] at e ⊢
    cases e
    rw [List.append_nil] at hx
    exact hx H3 (L.step s3) s3.fx
  | true =>
    simp only [if_true] at e ⊢
    obtain ⟨d, M2, e2, e⟩ := Res.only_iff e
    cases e
    refine ⟨η, M1, S.stp s3, ?_⟩
    rw [e2]
    intro v H4 s4 rg
    have L4 := (L.step s3).step s4
    obtain ⟨acc, ea, ra⟩ := L4.lst
    obtain ⟨L5, f5⟩ := L4.app rg ea
    have hl := ra.length
    simp only [List.length_cons, List.length_nil] at hz
    exact ⟨acc, ea, by omega, hx _ L5 ((s3.fx.trans s4.fx).trans f5)⟩
theorem SetBy.fx {K : PySem.W.Frag} {H H' : Hp} {sl : List Nat} {σ σ' : L2.St} {η η' : Env} (b : SetBy K H sl σ η σ' η') (f : Fx H H') : SetBy K H' sl σ η σ' η' :=
  ⟨b.l1, b.l2, b.out, fun i hi d e => let ⟨v, h1, h2⟩ := b.at_ i hi d e; ⟨v, h1, RV.fx f _ h2⟩⟩
theorem turn_g {M M0 : Mem} {H Hb : Hp} {σ : L2.St} {η η' : Env} {P : Pat} {vs : List Nat} {d : D} {x : V} {B : L2.St → Hp → Prop} (S : StE C.X.K C.T own σ Hb η M0) (L : Stp C.X.K C.T M0 Hb M H) (r : RV C.X.K H d x) (e : bindP P d (wipeE η vs) = some η') (hsl : ∀ i ∈ P.slots, i ∈ vs)
    (h : ∀ σ2, wipe σ2 vs = wipe σ vs → (∀ M' H', Stp C.X.K C.T M0 Hb M' H' → Fx H H' → StE C.X.K C.T own σ2 H' η' M') → B σ2 H) : gP C.X.K P x (wipe σ vs) H fun σ2 H2 => wipe σ2 vs = wipe σ vs ∧ B σ2 H2 := by
  have S1 := (S.wipe vs).stp L
  obtain ⟨σ', sb, q⟩ := gP_of P S1.len r e
  have hw : wipe σ' vs = wipe σ vs := wipe_eq (by rw [sb.l1, wipe_length]) (fun i hi => (sb.out i hi).1) hsl
  exact q _ ⟨hw, h σ' hw fun M' H' st f => ((S.wipe vs).stp st).set (sb.fx f)⟩
theorem lc_t {P : Pat} {Ft : TF} {Fe : EF} {I : IF} {vs : List Nat} {σ : L2.St} {H : Hp} {η : Env} {M : Mem} {Q : VK} (hsl : ∀ i ∈ P.slots, i ∈ vs) (S : StE C.X.K C.T own σ H η M) (q : RunE C.X.K C.T C.W .fresh σ H M (eLC vs P I Ft Fe η M) Q) :
    tLc (tDI C own I) (gP C.X.K P) (tDT (Cf C) own Ft) (tD (Cf C) .stable own Fe) vs σ H Q := by
  refine ⟨η, M, S, ?_⟩
  unfold eLC at q
  cases e : I η M with
  | bad => rw [e] at q; exact q
  | err c ns fs M' => rw [e] at q; exact q
  | ok ds M1 =>
    rw [e, Res.bind_ok] at q
    intro J H1 s1 wk E hE
    cases e2 : lcF (t1F P Ft Fe (wipeE η vs)) ds M1 with
    | bad => rw [e2] at q; exact q.elim
    | err c ns fs M' => rw [e2] at q; exact q.elim
    | ok rs M2 =>
      rw [e2, Res.only_ok] at q
      by_cases hz : rs.length ≤ sizeLine
      · rw [if_pos hz] at q
        have n0 : Nw H E := s1.th E (nw_of hE)
        have m1 : M1 E = none := by
          cases z : M1 E with
          | none => rfl
          | some c =>
            have := s1.mo E c z
            cases c with
            | dct ks vs => obtain ⟨_, _, w, _⟩ := this; rw [hE] at w; cases w
            | lst ks => obtain ⟨_, w, _⟩ := this; rw [hE] at w; cases w
        have s2 : Stp C.X.K C.T M1 H1 M1 (upd H1 E (.lst [])) := Stp.laid s1.mo hE
        have L0 : LcI C.X.K C.T M H E M1 [] (upd H1 E (.lst [])) := ⟨s1.trans s2, ⟨[], upd_same, RVs.nil_iff.mpr rfl⟩, m1, n0⟩
        refine lc_loop wk s2.fx L0 e2 (by simpa using hz) (fun d x M3 rs3 xs3 M4 H3 Nx _ r L e3 hz3 hx => ?_) fun H2 L f => ?_
        · obtain ⟨η', eb, e3⟩ := onB_iff e3
          exact turn_g S L.stp r eb hsl fun σ2 _ S2 => turn1 (C := C) (S2 _ _ L.stp (Fx.refl _)) L e3 hz3 hx
        · obtain ⟨acc, ea, ra⟩ := L.lst
          exact q (.ref E) H2 L.stp ⟨E, acc, rfl, n0, ea, L.mn, ra⟩
      · rw [if_neg hz] at q
        exact q.elim
theorem lc_t2 {P P1 : Pat} {Ft Ft1 : TF} {Fe : EF} {I I1 : IF} {vs vs1 : List Nat} {σ : L2.St} {H : Hp} {η : Env} {M : Mem} {Q : VK} (hsl : ∀ i ∈ P.slots, i ∈ vs) (hsl1 : ∀ i ∈ P1.slots, i ∈ vs1) (S : StE C.X.K C.T own σ H η M) (q : RunE C.X.K C.T C.W .fresh σ H M (eLC2 vs P I Ft vs1 P1 I1 Ft1 Fe η M) Q) :
    tLc2 (tDI C own I) (gP C.X.K P) (tDT (Cf C) own Ft) (tDI (Cf C) own I1) (gP C.X.K P1) (tDT (Cf C) own Ft1) (tD (Cf C) .stable own Fe) vs vs1 σ H Q := by
  refine ⟨η, M, S, ?_⟩
  unfold eLC2 at q
  cases e : I η M with
  | bad => rw [e] at q; exact q
  | err c ns fs M' => rw [e] at q; exact q
  | ok ds M1 =>
    rw [e, Res.bind_ok] at q
    intro J H1 s1 wk E hE
    cases e2 : lcF (t2F P Ft vs1 I1 P1 Ft1 Fe (wipeE η vs)) ds M1 with
    | bad => rw [e2] at q; exact q.elim
    | err c ns fs M' => rw [e2] at q; exact q.elim
    | ok rs M2 =>
      rw [e2, Res.only_ok] at q
      by_cases hz : rs.length ≤ sizeLine
      · rw [if_pos hz] at q
        have n0 : Nw H E := s1.th E (nw_of hE)
        have m1 : M1 E = none := by
          cases z : M1 E with
          | none => rfl
          | some c =>
            have := s1.mo E c z
            cases c with
            | dct ks vs => obtain ⟨_, _, w, _⟩ := this; rw [hE] at w; cases w
            | lst ks => obtain ⟨_, w, _⟩ := this; rw [hE] at w; cases w
        have s2 : Stp C.X.K C.T M1 H1 M1 (upd H1 E (.lst [])) := Stp.laid s1.mo hE
        have L0 : LcI C.X.K C.T M H E M1 [] (upd H1 E (.lst [])) := ⟨s1.trans s2, ⟨[], upd_same, RVs.nil_iff.mpr rfl⟩, m1, n0⟩
        refine lc_loop wk s2.fx L0 e2 (by simpa using hz) (fun d x M3 rs3 xs3 M4 H3 Nx _ r L e3 hz3 hx => ?_) fun H2 L f => ?_
        · obtain ⟨η', eb, e3⟩ := onB_iff e3
          refine turn_g S L.stp r eb hsl fun σ2 _ S2f => ?_
          have S2 := S2f _ _ L.stp (Fx.refl _)
          obtain ⟨b, M5, e4, e3⟩ := Res.only_iff e3
          refine ⟨η', M3, S2, ?_⟩
          rw [e4]
          intro H5 s5
          cases b with
          | false =>
            simp only [Bool.false_eq_true, if_false] at e3 ⊢
            cases e3
            rw [List.append_nil] at hx
            exact hx H5 (L.step s5) s5.fx
          | true =>
            simp only [if_true] at e3 ⊢
            obtain ⟨es, M6, e5, e3⟩ := Res.only_iff e3
            have S5 := S2.stp s5
            refine ⟨η', M5, S5, ?_⟩
            rw [e5]
            intro J1 H6 s6 wk1
            have L6 := (L.step s5).step s6
            have S6 := S5.stp s6
            refine lc_loop (C := C) wk1 (Fx.refl H6) L6 e3 hz3 (fun d x M7 rs7 xs7 M8 H7 Nx1 f7 r L7 e7 hz7 hx7 => ?_) fun H2 L f => hx H2 L ((s5.fx.trans s6.fx).trans f)
            obtain ⟨η8, eb8, e8⟩ := onB_iff e7
            have S7 := S2f _ _ L7.stp ((s5.fx.trans s6.fx).trans f7)
            exact turn_g (M0 := M7) (Hb := H7) S7 (Stp.refl L7.stp.mo) r eb8 hsl1 fun σ9 _ S9 => turn1 (C := C) (S9 _ _ (Stp.refl L7.stp.mo) (Fx.refl _)) L7 e8 hz7 hx7
        · obtain ⟨acc, ea, ra⟩ := L.lst
          exact q (.ref E) H2 L.stp ⟨E, acc, rfl, n0, ea, L.mn, ra⟩
      · rw [if_neg hz] at q
        exact q.elim
/-- the block of a comprehension -/
abbrev Cn.blk (C : Cn) (s : Shared) (H : Hp) (scope : Scope) (cl : List (Str × Addr)) (Cc : Addr) (fp : List Addr) : Cn := { C with X := C.X.blk s H scope (compEnvC scope cl Cc C.X.env) fp, W := fun _ _ _ _ => False }
def DTs (C : Cn) (own : List Ow) (ifs : List Expr) (F : TF) : Prop := PTs C.X ifs (tDT C own F)
def tNo : TF := fun _ M => .ok true M
theorem dts_nil : DTs C own [] tNo := ⟨fun _ _ σ H Q I h => wpAny_tests_nil ⟨H, I, by
  obtain ⟨η, M, S, q⟩ := h
  exact q H (Stp.refl S.mo)⟩⟩
theorem dts_one {c : Expr} {F : TF} (h : DT C own c F) : DTs C own [c] F := pts_one h
section
variable {elt tg iter tg1 iter1 : Expr} {ifs ifs1 : List Expr} {scope : Scope} {ow : List (Str × Nat)} {pos : Pos} {P P1 : Pat} {I I1 : IF} {Ft Ft1 : TF} {Fe : EF} {vs1 : List Nat}
theorem de_lc (hc : C.X.calm = true) (hN : C.X.N.Nodup) (hi : DI C own tg iter I) (ok : BlkOk C.X.N C.X.env.scope scope ow) (hsl : ∀ i ∈ P.slots, i ∈ ow.map (·.2))
    (hb : ∀ (s : Shared) (H : Hp) (Cc : Addr) (cl : List (Str × Addr)) (fp : List Addr), PG (C.blk s H scope cl Cc fp).X tg (gP C.X.K P) ∧ DTs (C.blk s H scope cl Cc fp) own ifs Ft ∧ DE (C.blk s H scope cl Cc fp) .stable own elt Fe)
    (hs : ∀ x, foldedSetIterable iter C.X.env x = pure x := by intro _; rfl) : DE C .fresh own (.ListComp elt [⟨tg, iter, ifs, 0⟩] scope pos) (eLC (ow.map (·.2)) P I Ft Fe) := by
  refine PE.imp (pe_lc (g := gP C.X.K P) (tt := tDT (Cf C) own Ft) (te := tD (Cf C) .stable own Fe) hc hN hi ok (fun s H Cc cl fp => (hb s H Cc cl fp).1) (fun s H Cc cl fp => (hb s H Cc cl fp).2.1) (fun s H Cc cl fp => (hb s H Cc cl fp).2.2) hs) fun σ H Q ⟨η, M, S, q⟩ => ?_
  exact lc_t hsl S q
theorem de_lc2 (hc : C.X.calm = true) (hN : C.X.N.Nodup) (hi : DI C own tg iter I) (ok : BlkOk C.X.N C.X.env.scope scope ow) (hsl : ∀ i ∈ P.slots, i ∈ ow.map (·.2)) (hv : ∀ i ∈ vs1, i ∈ ow.map (·.2)) (hsl1 : ∀ i ∈ P1.slots, i ∈ vs1)
    (hb : ∀ (s : Shared) (H : Hp) (Cc : Addr) (cl : List (Str × Addr)) (fp : List Addr), PG (C.blk s H scope cl Cc fp).X tg (gP C.X.K P) ∧ DTs (C.blk s H scope cl Cc fp) own ifs Ft ∧ DI (C.blk s H scope cl Cc fp) own tg1 iter1 I1 ∧ PG (C.blk s H scope cl Cc fp).X tg1 (gP C.X.K P1) ∧ DTs (C.blk s H scope cl Cc fp) own ifs1 Ft1 ∧ DE (C.blk s H scope cl Cc fp) .stable own elt Fe)
    (hs : ∀ x, foldedSetIterable iter C.X.env x = pure x := by intro _; rfl) (hs1 : ∀ env x, foldedSetIterable iter1 env x = pure x := by intro _ _; rfl) : DE C .fresh own (.ListComp elt [⟨tg, iter, ifs, 0⟩, ⟨tg1, iter1, ifs1, 0⟩] scope pos) (eLC2 (ow.map (·.2)) P I Ft vs1 P1 I1 Ft1 Fe) := by
  refine PE.imp (pe_lc2 (g := gP C.X.K P) (g1 := gP C.X.K P1) (tt := tDT (Cf C) own Ft) (wi1 := tDI (Cf C) own I1) (tt1 := tDT (Cf C) own Ft1) (te := tD (Cf C) .stable own Fe) hc hN hi ok hv (fun s H Cc cl fp => (hb s H Cc cl fp).1) (fun s H Cc cl fp => (hb s H Cc cl fp).2.1) (fun s H Cc cl fp => (hb s H Cc cl fp).2.2.1) (fun s H Cc cl fp => (hb s H Cc cl fp).2.2.2.1) (fun s H Cc cl fp => (hb s H Cc cl fp).2.2.2.2.1) (fun s H Cc cl fp => (hb s H Cc cl fp).2.2.2.2.2) hs hs1) fun σ H Q ⟨η, M, S, q⟩ => ?_
  exact lc_t2 hsl hsl1 S q
end
end
end Tn

set_option Elab.async false
set_option linter.all false
set_option maxRecDepth 100000
set_option maxHeartbeats 4000000
namespace Tn
open PySem PySem.Spec PyProof.Rows L2

/-! ## statements -/
/-- what is asked behind a statement that tells r -/
def RunS (C : Cn) (g : Gr) (o lo : List Ow) (H0 : Hp) (r : Res Ctl) (E : Ends) : Prop := match r with
  | .ok (.nx η) M => ∀ σ H, StR C.X.K C.H0 C.T C.M0 o σ H η M → Fx H0 H → E.nx σ H
  | .ok (.rt d) M => ∀ v H, Stp C.X.K C.T C.M0 C.H0 M H → RG C.X.K g C.H0 M H d v → E.rt v H
  | .ok (.bk η) M => ∀ σ H, StR C.X.K C.H0 C.T C.M0 lo σ H η M → Fx H0 H → E.bk σ H
  | .ok (.ct η) M => ∀ σ H, StR C.X.K C.H0 C.T C.M0 lo σ H η M → Fx H0 H → E.ct σ H
  | .err c ns fs M => ∀ oe σ H, Stp C.X.K C.T C.M0 C.H0 M H → XF C.X.K H oe ns fs → C.W (.ref c) oe σ H
  | .bad => False
def tDS (C : Cn) (g : Gr) (o o' lo : List Ow) (F : SF) : TS := fun E σ H => ∃ η M, StR C.X.K C.H0 C.T C.M0 o σ H η M ∧ RunS C g o' lo H (F η M) E
def DS (C : Cn) (g : Gr) (o o' lo : List Ow) (st : Stmt) (F : SF) : Prop := PS C.X st (tDS C g o o' lo F)
def DSs (C : Cn) (g : Gr) (o o' lo : List Ow) (ss : List Stmt) (F : SF) : Prop := PSs C.X ss (tDS C g o o' lo F)
section
variable {C : Cn} {g : Gr} {o o' o1 lo : List Ow} {H0 H1 H : Hp} {r : Res Ctl} {E : Ends} {σ : L2.St} {η : Env} {M : Mem}
theorem RunS.fx (f : Fx H0 H1) (h : RunS C g o lo H0 r E) : RunS C g o lo H1 r E := by
  cases r with
  | ok c M =>
    cases c with
    | nx η => exact fun σ H S f2 => h σ H S (f.trans f2)
    | rt d => exact h
    | bk η => exact fun σ H S f2 => h σ H S (f.trans f2)
    | ct η => exact fun σ H S f2 => h σ H S (f.trans f2)
  | err c ns fs M => exact h
  | bad => exact h
/-- an expression ahead of a statement's end -/
theorem tD_s {ge : Gr} {F : EF} {k : D → Mem → Res Ctl} {Q : VK} (S : StR C.X.K C.H0 C.T C.M0 o σ H η M) (h : RunS C g o' lo H ((F η M).bind k) E)
    (hq : ∀ d M' v H', RunS C g o' lo H' (k d M') E → Stp C.X.K C.T M H M' H' → StR C.X.K C.H0 C.T C.M0 o σ H' η M' → RG C.X.K ge H M' H' d v → Q v H') : tD C ge o F σ H Q :=
  RunE.step (P := fun r => RunS C g o' lo H r E) S.e h (fun c ns fs M' q oe H' s x => q oe σ H' (S.st.trans s) x) (fun q => q) fun d M' v H' q s _ rg => hq d M' v H' (q.fx s.fx) s (S.stp s) rg
theorem tDT_s {F : TF} {k : Bool → Mem → Res Ctl} {Q : Bool → Hp → Prop} (S : StR C.X.K C.H0 C.T C.M0 o σ H η M) (h : RunS C g o' lo H ((F η M).bind k) E)
    (hq : ∀ d M' H', RunS C g o' lo H' (k d M') E → Stp C.X.K C.T M H M' H' → StR C.X.K C.H0 C.T C.M0 o σ H' η M' → Q d H') : tDT C o F σ H Q :=
  RunT.step (P := fun r => RunS C g o' lo H r E) S.e h (fun c ns fs M' q oe H' s x => q oe σ H' (S.st.trans s) x) (fun q => q) fun d M' H' q s _ => hq d M' H' (q.fx s.fx) s (S.stp s)
theorem tDA_s {Fs : List EF} {k : List D → Mem → Res Ctl} {Q : List V → Hp → Prop} (S : StR C.X.K C.H0 C.T C.M0 o σ H η M) (h : RunS C g o' lo H ((eArgs Fs η M).bind k) E)
    (hq : ∀ ds M' vs H', RunS C g o' lo H' (k ds M') E → Stp C.X.K C.T M H M' H' → StR C.X.K C.H0 C.T C.M0 o σ H' η M' → RVs C.X.K H' ds vs → Q vs H') : tDA C o Fs σ H Q := by
  refine ⟨η, M, S.e, ?_⟩
  cases e : eArgs Fs η M with
  | ok ds M' =>
    rw [e, Res.bind_ok] at h
    exact fun vs H' s r => hq ds M' vs H' (h.fx s.fx) s (S.stp s) r
  | err c ns fs M' =>
    rw [e] at h
    exact fun oe H' s x => h oe σ H' (S.st.trans s) x
  | bad => rw [e] at h; exact h.elim

/-! ### in sequence -/
@[simp] def sNil : SF := fun η M => .ok (.nx η) M
@[simp] def sNx (k : SF) : Ctl → Mem → Res Ctl
  | .nx η, M => k η M
  | c, M => .ok c M
@[simp] def sSeq (F G : SF) : SF := fun η M => (F η M).bind (sNx G)
variable {st : Stmt} {rest ss a b : List Stmt} {F G : SF}
theorem dss_nil : DSs C g o o lo [] sNil := PSs.imp pss_nil fun E σ H ⟨η, M, S, q⟩ => q σ H S (Fx.refl H)
theorem ds_then {t u : TS} (h : ∀ E σ H, tDS C g o o1 lo F E σ H → t E σ H) (h2 : ∀ E σ H, tDS C g o1 o' lo G E σ H → u E σ H) : ∀ E σ H, tDS C g o o' lo (sSeq F G) E σ H → tSeq t u E σ H := fun E σ H ⟨η, M, S, q⟩ => by
  refine h _ _ _ ⟨η, M, S, ?_⟩
  unfold sSeq at q
  cases e : F η M with
  | ok c M' =>
    rw [e, Res.bind_ok] at q
    cases c with
    | nx η' => exact fun σ' H' S' f => h2 _ _ _ ⟨η', M', S', q.fx f⟩
    | rt d => exact q
    | bk η' => exact q
    | ct η' => exact q
  | err c ns fs M' =>
    rw [e] at q
    exact q
  | bad =>
    rw [e] at q
    exact q
theorem dss_cons (h : DS C g o o1 lo st F) (h2 : DSs C g o1 o' lo rest G) : DSs C g o o' lo (st :: rest) (sSeq F G) :=
  PSs.imp (pss_cons h h2) (ds_then (fun _ _ _ q => q) fun _ _ _ q => q)
theorem dss_one (h : DS C g o o' lo st F) : DSs C g o o' lo [st] F := pss_one h
theorem dss_never : DSs C g o o' lo ss (fun _ _ => .bad) := PSs.imp pss_never fun E σ H ⟨η, M, S, q⟩ => q
theorem ds_never : DS C g o o' lo st (fun _ _ => .bad) := PS.imp ps_never fun E σ H ⟨η, M, S, q⟩ => q

/-! ### the owned slot is frozen -/
theorem PSs.frz {X : Cx} {ss : List Stmt} {t : TS} (h : PSs X ss t) : PSs X ss (fun E σ H => t E σ H ∨ ∃ a u, Frable u ∧ H a = some u ∧ ∀ ob, t E σ (upd H a (.frz ob u))) := by
  refine ⟨fun pins s σ H D I q => ?_⟩
  rcases q with q | ⟨a, u, f, e, q⟩
  · exact h.run pins s σ H D I q
  · obtain ⟨ob, _, I2⟩ := Inv.frz I e f
    exact h.run pins s σ _ D I2 (q ob)
theorem getD_set {o : List Ow} {i j : Nat} {x : Ow} : (o.set i x).getD j .st = if i = j ∧ i < o.length then x else o.getD j .st := by
  simp only [List.getD_eq_getElem?_getD, List.getElem?_set]
  by_cases h : i = j
  · subst h
    by_cases h2 : i < o.length
    · simp [h2]
    · simp [h2, List.getElem?_eq_none (Nat.le_of_not_lt h2)]
  · simp [h]
/-- what slot i is becomes frozen -/
theorem StR.frz {i : Nat} (S : StR C.X.K C.H0 C.T C.M0 o σ H η M) (ho : o.getD i .st = .ow) : StR C.X.K C.H0 C.T C.M0 (o.set i .st) σ H η M ∨ ∃ a u, Frable u ∧ H a = some u ∧ ∀ ob, StR C.X.K C.H0 C.T C.M0 (o.set i .st) σ (upd H a (.frz ob u)) η M ∧ Fx H (upd H a (.frz ob u)) := by
  have key : ∀ {a : Addr} {u : HO}, Owns σ η i a → H a = some u → plainO u → M a = none → Nw C.H0 a → (∀ (d : D) (v : V), (η[i]? : Option D) = some d → σ[i]? = some (some v) → SlR C.X.K C.H0 M H .ow d v → ∀ ob, RV C.X.K (upd H a (.frz ob u)) d v) →
      ∀ ob, StR C.X.K C.H0 C.T C.M0 (o.set i .st) σ (upd H a (.frz ob u)) η M ∧ Fx H (upd H a (.frz ob u)) := fun {a u} hown hH hp hM h0 hsl ob => by
    have f : Fx H (upd H a (.frz ob u)) := Fx.put hH hp
    refine ⟨⟨S.st.put h0 hH hp hM, ?_, fun j d e n => ?_, fun j k b h1 h2 h3 h4 => ?_, S.len⟩, f⟩
    · exact Tabs.but S.tabs fun b x e c => (upd_ne fun z => by
        rw [z, hH] at e
        cases e
        rcases hp with ⟨_, rfl⟩ | ⟨_, rfl⟩ | ⟨_, rfl⟩ <;> rcases c with ⟨_, c⟩ | ⟨_, c⟩ <;> cases c).trans e
    · obtain ⟨v, hv, hs⟩ := S.sl j d e n
      refine ⟨v, hv, ?_⟩
      rw [getD_set]
      by_cases hij : i = j
      · subst hij
        rw [ho] at hs
        have hlt : i < o.length := by
          rcases Nat.lt_or_ge i o.length with hlt | hge
          · exact hlt
          · rw [List.getD_eq_getElem?_getD, List.getElem?_eq_none hge] at ho
            cases ho
        rw [if_pos ⟨rfl, hlt⟩]
        exact hsl d v e hv hs ob
      · rw [if_neg fun z => hij z.1]
        cases q : o.getD j .st with
        | st => rw [q] at hs; exact RV.fx f _ hs
        | ow =>
          rw [q] at hs
          cases d with
          | lst ds =>
            obtain ⟨b, xs, eb, n0, hb, mb, r⟩ := hs
            have hne : b ≠ a := fun z => hij (S.ap i j a ho hown ⟨by rw [hv, eb, z], .inl ⟨ds, e⟩⟩ q)
            exact ⟨b, xs, eb, n0, (upd_ne hne).trans hb, mb, RVs.fx f _ r⟩
          | dct ks vs =>
            obtain ⟨b, xs, w, eb, n0, hb, mb, dd, r⟩ := hs
            have hne : b ≠ a := fun z => hij (S.ap i j a ho hown ⟨by rw [hv, eb, z], .inr ⟨ks, vs, e⟩⟩ q)
            exact ⟨b, xs, w, eb, n0, (upd_ne hne).trans hb, mb, dd, RVs.fx f _ r⟩
          | _ => exact RV.fx f _ hs
        | vw =>
          rw [q] at hs
          obtain ⟨hs, h1⟩ := hs
          refine ⟨?_, h1⟩
          cases d with
          | lst ds =>
            obtain ⟨b, xs, eb, hb, r⟩ := hs
            have hne : b ≠ a := fun z => h1 (.inl ⟨ds, rfl⟩) b eb (by rw [z]; exact h0)
            refine ⟨b, xs, eb, ?_, RVs.fx f _ r⟩
            rcases hb with ⟨hb, mb⟩ | hb
            · exact .inl ⟨(upd_ne hne).trans hb, mb⟩
            · exact .inr (hb.fx f)
          | dct ks vs =>
            obtain ⟨b, xs, w, eb, hb, dd, r⟩ := hs
            have hne : b ≠ a := fun z => h1 (.inr ⟨ks, vs, rfl⟩) b eb (by rw [z]; exact h0)
            refine ⟨b, xs, w, eb, ?_, dd, RVs.fx f _ r⟩
            rcases hb with ⟨hb, mb⟩ | hb
            · exact .inl ⟨(upd_ne hne).trans hb, mb⟩
            · exact .inr (hb.fx f)
          | _ => exact RV.fx f _ hs
    · rw [getD_set] at h1 h4
      split at h1
      · cases h1
      · split at h4
        · cases h4
        · exact S.ap j k b h1 h2 h3 h4
  have same : (∀ d v, (η[i]? : Option D) = some d → d ≠ .und → σ[i]? = some (some v) → SlR C.X.K C.H0 M H .ow d v → RV C.X.K H d v) → StR C.X.K C.H0 C.T C.M0 (o.set i .st) σ H η M := fun hk => by
    refine ⟨S.st, S.tabs, fun j d e n => ?_, fun j k b h1 h2 h3 h4 => ?_, S.len⟩
    · obtain ⟨v, hv, hs⟩ := S.sl j d e n
      refine ⟨v, hv, ?_⟩
      rw [getD_set]
      split
      · rename_i hh
        obtain ⟨rfl, _⟩ := hh
        rw [ho] at hs
        exact hk d v e n hv hs
      · exact hs
    · rw [getD_set] at h1 h4
      split at h1
      · cases h1
      · split at h4
        · cases h4
        · exact S.ap j k b h1 h2 h3 h4
  cases e : (η[i]? : Option D) with
  | none => exact .inl (same fun d v e2 _ _ _ => by rw [e] at e2; cases e2)
  | some d =>
    cases d with
    | lst ds =>
      obtain ⟨v, hv, hs⟩ := S.sl i _ e (by simp)
      rw [ho] at hs
      obtain ⟨a, xs, rfl, n0, ha, ma, r⟩ := hs
      refine .inr ⟨a, _, .inl ⟨_, rfl⟩, ha, key ⟨hv, .inl ⟨ds, e⟩⟩ ha (.inl ⟨_, rfl⟩) ma n0 fun d v e2 hv2 _ ob => ?_⟩
      rw [e] at e2
      rw [hv] at hv2
      cases e2
      cases hv2
      show RV _ _ _ _
      unfold RV
      exact ⟨a, xs, rfl, ⟨ob, upd_same⟩, RVs.fx (Fx.put ha (.inl ⟨_, rfl⟩)) _ r⟩
    | dct ks vs =>
      obtain ⟨v, hv, hs⟩ := S.sl i _ e (by simp)
      rw [ho] at hs
      obtain ⟨a, xs, u, rfl, n0, ha, ma, dd, r⟩ := hs
      refine .inr ⟨a, _, dd.frable, ha, key ⟨hv, .inr ⟨ks, vs, e⟩⟩ ha dd.plain ma n0 fun d v e2 hv2 _ ob => ?_⟩
      rw [e] at e2
      rw [hv] at hv2
      cases e2
      cases hv2
      show RV _ _ _ _
      unfold RV
      exact ⟨a, xs, u, rfl, ⟨ob, upd_same⟩, dd, RVs.fx (Fx.put ha dd.plain) _ r⟩
    | _ => exact .inl (same fun d v e2 n _ hs => by
        rw [e] at e2
        cases e2
        first | exact hs | exact absurd rfl n)
theorem dss_fz (i : Nat) (h : DSs C g (o.set i .st) o' lo ss F) (ho : o.getD i .st = .ow := by rfl) : DSs C g o o' lo ss F := by
  refine PSs.imp (PSs.frz h) fun E σ H ⟨η, M, S, q⟩ => ?_
  rcases S.frz ho with S2 | ⟨a, u, f, e, k⟩
  · exact .inl ⟨η, M, S2, q⟩
  · exact .inr ⟨a, u, f, e, fun ob => ⟨η, M, (k ob).1, q.fx (k ob).2⟩⟩

/-! ### ends, tests -/
variable {e c : Expr} {Fe : EF} {A : TF} {pos : Pos} {ge : Gr}
@[simp] def sRet (F : EF) : SF := fun η M => (F η M).bind fun d M' => .ok (.rt d) M'
@[simp] def sExp (F : EF) : SF := fun η M => (F η M).bind fun _ M' => .ok (.nx η) M'
@[simp] def sIf (A : TF) (F G : SF) : SF := fun η M => (A η M).bind fun b M' => if b = true then F η M' else G η M'
theorem ds_ret (h : DE C g o e Fe) : DS C g o o' lo (.Return (some e) pos) (sRet Fe) :=
  PS.imp (ps_ret h) fun E σ H ⟨η, M, S, q⟩ => tD_s S q fun d M' v H' q s S' rg => q v H' S'.st (rg.back S.st.th)
theorem ds_retN : DS C g o o' lo (.Return none pos) (sRet (eC .non)) :=
  PS.imp ps_retN fun E σ H ⟨η, M, S, q⟩ => q .non H S.st (RG.scal (fun _ z => by cases z) (fun _ _ z => by cases z) rfl)
theorem ds_exp (h : DE C ge o e Fe) (hs : swapsWith e none pos.line C.X.env = pure false := by rfl) : DS C g o o lo (.Expr e pos) (sExp Fe) :=
  PS.imp (ps_expr h hs) fun E σ H ⟨η, M, S, q⟩ => tD_s S q fun d M' v H' q s S' rg => q σ H' S' (Fx.refl _)
theorem ds_pass : DS C g o o lo (.Pass pos) sNil := PS.imp ps_pass fun E σ H ⟨η, M, S, q⟩ => q σ H S (Fx.refl H)
theorem ds_brk : DS C g lo o' lo (.Break pos) (fun η M => .ok (.bk η) M) := PS.imp ps_break fun E σ H ⟨η, M, S, q⟩ => q σ H S (Fx.refl H)
theorem ds_cnt : DS C g lo o' lo (.Continue pos) (fun η M => .ok (.ct η) M) := PS.imp ps_continue fun E σ H ⟨η, M, S, q⟩ => q σ H S (Fx.refl H)
theorem ds_doc {x j pos pos'} : DS C g o o lo (.Expr (.Constant (.str x) j pos) pos') sNil := PS.imp ps_doc fun E σ H ⟨η, M, S, q⟩ => q σ H S (Fx.refl H)
theorem ds_if (hc : DT C o c A) (ha : DSs C g o o' lo a F) (hb : DSs C g o o' lo b G) : DS C g o o' lo (.If c a b pos) (sIf A F G) := by
  refine PS.imp (ps_if hc ha hb) fun E σ H ⟨η, M, S, q⟩ => tDT_s S q fun d M' H' q s S' => ?_
  cases d with
  | true => exact ⟨η, M', S', q⟩
  | false => exact ⟨η, M', S', q⟩
/-- the owned slot itself is told -/
theorem ds_retO (i : Nat) {x : Str} {pos' : Pos} (hp : PE C.X (.Name x pos') (tVar i)) (ho : o.getD i .st = .ow := by rfl) : DS C .fresh o o' lo (.Return (some (.Name x pos')) pos) (sRet (eVar i)) := by
  refine PS.imp (ps_ret hp) fun E σ H ⟨η, M, S, q⟩ => ?_
  unfold sRet at q
  rcases eVar_ok (rfl : eVar i η M = _) with e | ⟨d, e1, e2, e3⟩
  · rw [e] at q; exact q.elim
  · rw [e3] at q
    obtain ⟨v, h1, h2⟩ := S.sl i d e1 e2
    rw [ho] at h2
    exact ⟨v, h1, q v H S.st h2⟩
end
end Tn

set_option Elab.async false
set_option linter.all false
set_option maxRecDepth 100000
set_option maxHeartbeats 4000000
namespace Tn
open PySem PySem.Spec PyProof.Rows L2

/-! ## stores into names -/
def grO : Ow → Gr
  | .ow => .fresh
  | .st => .stable
  | .vw => .view
section
variable {C : Cn} {g : Gr} {o o' o1 lo : List Ow} {H0 H1 H : Hp} {r : Res Ctl} {E : Ends} {σ : L2.St} {η : Env} {M M1 : Mem}
theorem Owns.at {σ : L2.St} {η : Env} {i : Nat} {a : Addr} (h : Owns σ η i a) : ∃ d, (η[i]? : Option D) = some d ∧ d ≠ .und ∧ ((∃ ds, d = .lst ds) ∨ ∃ ks vs, d = .dct ks vs) := by
  rcases h.2 with ⟨ds, e⟩ | ⟨ks, vs, e⟩
  · exact ⟨_, e, by simp, .inl ⟨ds, rfl⟩⟩
  · exact ⟨_, e, by simp, .inr ⟨ks, vs, rfl⟩⟩
/-- a new list or dict is none of the frame's -/
theorem FR.other {K : PySem.W.Frag} {Hb : Hp} {d : D} {v : V} {a : Addr} (h : FR K Hb M H d v) (hd : (∃ ds, d = .lst ds) ∨ ∃ ks vs, d = .dct ks vs) (e : v = .ref a) : Nw Hb a ∧ ¬ Nw H a ∧ M a = none := by
  rcases hd with ⟨ds, rfl⟩ | ⟨ks, vs, rfl⟩
  · obtain ⟨b, xs, e2, n, h, m, _⟩ := h
    rw [e] at e2
    cases e2
    exact ⟨n, fun w => (by obtain ⟨ps, e⟩ := w _ h; cases e), m⟩
  · obtain ⟨b, xs, u, e2, n, h, m, dd, _⟩ := h
    rw [e] at e2
    cases e2
    exact ⟨n, fun w => (by obtain ⟨ps, e⟩ := w _ h; exact dd.notTbl ps e), m⟩
theorem StR.set {i : Nat} {x : Ow} {d : D} {v : V} (hx : x ≠ .vw) (hi : i < o.length) (S : StR C.X.K C.H0 C.T C.M0 o σ H η M) (s : Stp C.X.K C.T M H M1 H1) (rg : RG C.X.K (grO x) H M1 H1 d v) : StR C.X.K C.H0 C.T C.M0 (o.set i x) (σ.set i (some v)) H1 (η.set i d) M1 := by
  have S1 := S.stp s
  have hl := S.len
  have old : ∀ {j : Nat} {a : Addr}, i ≠ j → (o.set i x).getD j .st = .ow → Owns (σ.set i (some v)) (η.set i d) j a → o.getD j .st = .ow ∧ Owns σ η j a ∧ ¬ Nw H a := fun {j a} n h1 h2 => by
    rw [getD_set, if_neg fun z => n z.1] at h1
    have h3 : Owns σ η j a := by
      obtain ⟨q1, q2⟩ := h2
      rw [List.getElem?_set_ne n] at q1
      rw [List.getElem?_set_ne n] at q2
      exact ⟨q1, q2⟩
    obtain ⟨d', e, nu, hd⟩ := h3.at
    obtain ⟨v', hv, hs⟩ := S.sl j d' e nu
    rw [h1] at hs
    rw [h3.1] at hv
    cases hv
    exact ⟨h1, h3, (FR.other hs hd rfl).2.1⟩
  have new : ∀ {a : Addr}, (o.set i x).getD i .st = .ow → Owns (σ.set i (some v)) (η.set i d) i a → Nw H a := fun {a} h1 h2 => by
    rw [getD_set, if_pos ⟨rfl, hi⟩] at h1
    subst h1
    obtain ⟨d', e, nu, hd⟩ := h2.at
    obtain ⟨e1, _⟩ := h2
    rw [List.getElem?_set] at e e1
    simp only [if_true] at e e1
    split at e
    · cases e
      split at e1
      · cases e1
        exact (FR.other rg hd rfl).1
      · cases e1
    · cases e
  refine ⟨S1.st, S1.tabs, fun j e he ne => ?_, fun j k a h1 h2 h3 h4 => ?_, by rw [List.length_set, List.length_set]; exact hl⟩
  · rw [List.getElem?_set] at he ⊢
    by_cases hij : i = j
    · subst hij
      rw [if_pos rfl] at he ⊢
      have ex : (o.set i x).getD i .st = x := by rw [getD_set, if_pos ⟨rfl, hi⟩]
      rw [ex]
      split at he
      · rename_i hlt
        cases he
        refine ⟨v, if_pos (show i < σ.length by rw [← hl]; exact hlt), ?_⟩
        cases x with
        | st => exact rg
        | ow => exact FR.back S.st.th rg
        | vw => exact absurd rfl hx
      · cases he
    · rw [if_neg hij] at he ⊢
      rw [getD_set, if_neg fun z => hij z.1]
      exact S1.sl j e he ne
  · by_cases hj : i = j
    · by_cases hk : i = k
      · rw [← hj, ← hk]
      · subst hj
        exact absurd (new h1 h2) (old hk h4 h3).2.2
    · by_cases hk : i = k
      · subst hk
        exact absurd (new h4 h3) (old hj h1 h2).2.2
      · obtain ⟨a1, a2, _⟩ := old hj h1 h2
        obtain ⟨a3, a4, _⟩ := old hk h4 h3
        exact S.ap j k a a1 a2 a4 a3
/-- the slots of a pattern -/
theorem StR.setP {sl : List Nat} {σ' : L2.St} {η' : Env} (S : StR C.X.K C.H0 C.T C.M0 o σ H η M) (b : SetBy C.X.K H sl σ η σ' η') (hs : ∀ i ∈ sl, o.getD i .st = .st) : StR C.X.K C.H0 C.T C.M0 o σ' H η' M where
  st := S.st
  tabs := S.tabs
  sl := fun i d h1 h2 => by
    by_cases hi : i ∈ sl
    · obtain ⟨v, e, r⟩ := b.at_ i hi d h1
      refine ⟨v, e, ?_⟩
      rw [hs i hi]
      exact r
    · obtain ⟨e1, e2⟩ := b.out i hi
      rw [e2] at h1
      rw [e1]
      exact S.sl i d h1 h2
  ap := fun i j a h1 h2 h3 h4 => by
    have hi : i ∉ sl := fun z => by rw [hs i z] at h1; cases h1
    have hj : j ∉ sl := fun z => by rw [hs j z] at h4; cases h4
    obtain ⟨e1, e2⟩ := b.out i hi
    obtain ⟨e3, e4⟩ := b.out j hj
    unfold Owns at h2 h3
    rw [e1, e2] at h2
    rw [e3, e4] at h3
    exact S.ap i j a h1 h2 h3 h4
  len := by rw [b.l1, b.l2]; exact S.len
variable {st : Stmt} {rest ss a b : List Stmt} {F G : SF} {e c tg : Expr} {Fe Fa Fb : EF} {A : TF} {pos : Pos} {ge : Gr}
@[simp] def sSet (i : Nat) (F : EF) : SF := fun η M => (F η M).bind fun d M' => .ok (.nx (η.set i d)) M'
theorem ds_set (i : Nat) (w : Ow) {x : Str} {pos' : Pos} (hN : C.X.N.Nodup) (hi : C.X.N[i]? = some x) (hx : Loc C.X.env.scope x) (he : DE C (grO w) o e Fe) (hs : swapsWith e (some (.Name x pos')) pos.line C.X.env = pure false := by rfl)
    (hf : C.X.fn x = true ∨ C.X.env.scope.names.lookup x = some .local := by first | exact .inl rfl | exact .inr rfl | assumption) (hw : w ≠ .vw := by decide) (hl : i < o.length := by decide) : DS C g o (o.set i w) lo (.Assign [.Name x pos'] e pos) (sSet i Fe) := by
  refine PS.imp (ps_set hN hi hx he hs hf) fun E σ H ⟨η, M, S, q⟩ => ?_
  exact RunE.step (β := Ctl) (P := fun r => RunS C g (o.set i w) lo H r E) (k := fun d M' => .ok (.nx (η.set i d)) M') S.e q (fun c ns fs M' q oe H' s x => q oe σ H' (S.st.trans s) x) (fun q => q) fun d M' v H' q s _ rg => q _ H' (S.set hw hl s rg) s.fx
@[simp] def sTgt (P : Pat) (F : EF) : SF := fun η M => (F η M).bind fun d M' => onB P d η fun η' => .ok (.nx η') M'
theorem ds_tgt {P : Pat} (he : DE C .stable o e Fe) (hg : PG C.X tg (gP C.X.K P)) (ho : ∀ i ∈ P.slots, o.getD i .st = .st := by decide) (hs : swapsWithSole [tg] e pos.line C.X.env = pure false := by rfl) (hw : swappedStores [tg] e C.X.env = pure none := by rfl)
    (h1 : (assignEach [tg] C.X.env).map (·.2) = [assign tg C.X.env] := by rfl) : DS C g o o lo (.Assign [tg] e pos) (sTgt P Fe) := by
  refine PS.imp (ps_asg he hg hs hw h1) fun E σ H ⟨η, M, S, q⟩ => tD_s S q fun d M' v H' q s S' rg => ?_
  cases e : bindP P d η with
  | none =>
    simp only [onB, e] at q
    exact q.elim
  | some η' =>
    simp only [onB, e] at q
    obtain ⟨σ', sb, k⟩ := gP_of P S'.len rg e
    exact k _ (q σ' H' (S'.setP sb ho) (Fx.refl H'))
/-- a, b = e1, e2 -/
@[simp] def sPar (i j : Nat) (F G : EF) : SF := fun η M => (F η M).bind fun d M1 => (G η M1).bind fun d2 M2 => .ok (.nx ((η.set i d).set j d2)) M2
theorem ds_par (i j : Nat) (w w2 : Ow) {x y : Str} {e2 : Expr} {px py pt : Pos} {kt k2 pt2} (hc : C.X.calm = true) (hN : C.X.N.Nodup) (hi : C.X.N[i]? = some x) (hj : C.X.N[j]? = some y)
    (hx : C.X.env.scope.names.lookup x = some .local) (hy : C.X.env.scope.names.lookup y = some .local) (ha : DE C (grO w) o e Fa) (hb : DE C (grO w2) o e2 Fb)
    (hw : swappedStores [.Tuple [.Name x px, .Name y py] kt pt] (.Tuple [e, e2] k2 pt2) C.X.env = pure (some [x, y]))
    (hij : i ≠ j := by decide) (hw1 : w ≠ .vw := by decide) (hw2 : w2 ≠ .vw := by decide) (hl : i < o.length := by decide) (hl2 : j < o.length := by decide)
    (hs : swapsWithSole [.Tuple [.Name x px, .Name y py] kt pt] (.Tuple [e, e2] k2 pt2) pos.line C.X.env = pure false := by rfl)
    (hst : starEach [e, e2] C.X.env = (false, eval e C.X.env) :: starEach [e2] C.X.env := by rfl) (hst2 : starEach [e2] C.X.env = (false, eval e2 C.X.env) :: starEach [] C.X.env := by rfl) :
    DS C g o ((o.set i w).set j w2) lo (.Assign [.Tuple [.Name x px, .Name y py] kt pt] (.Tuple [e, e2] k2 pt2) pos) (sPar i j Fa Fb) := by
  refine PS.imp (ps_par hc hN hi hj hij hx hy (pa_cons ha (pa_cons hb pa_nil hst2) hst) hw hs) fun E σ H ⟨η, M, S, q⟩ => ?_
  refine RunE.step (β := Ctl) (P := fun r => RunS C g ((o.set i w).set j w2) lo H r E) (k := fun d M1 => (Fb η M1).bind fun d2 M2 => .ok (.nx ((η.set i d).set j d2)) M2) S.e q (fun c ns fs M' q oe H' s x => q oe σ H' (S.st.trans s) x) (fun q => q) fun d M1 v H1 q s S1 rg => ?_
  refine RunE.step (β := Ctl) (P := fun r => RunS C g ((o.set i w).set j w2) lo H r E) (k := fun d2 M2 => .ok (.nx ((η.set i d).set j d2)) M2) S1 q (fun c ns fs M' q oe H' s2 x => q oe σ H' ((S.st.trans s).trans s2) x) (fun q => q) fun d2 M2 v2 H2 q s2 S2 rg2 => ?_
  refine ⟨v, v2, rfl, q _ H2 ?_ (s.fx.trans s2.fx)⟩
  exact (S.set hw1 hl s rg).set hw2 (by rw [List.length_set]; exact hl2) s2 rg2
/-- a, b, c = e1, e2, e3 -/
@[simp] def sPar3 (i j l : Nat) (F G K : EF) : SF := fun η M => (F η M).bind fun d M1 => (G η M1).bind fun d2 M2 => (K η M2).bind fun d3 M3 => .ok (.nx (((η.set i d).set j d2).set l d3)) M3
theorem ds_par3 (i j l : Nat) (w w2 w3 : Ow) {x y z : Str} {e2 e3 : Expr} {Fc : EF} {px py pz pt : Pos} {kt k2 pt2} (hc : C.X.calm = true) (hN : C.X.N.Nodup) (hi : C.X.N[i]? = some x) (hj : C.X.N[j]? = some y) (hk : C.X.N[l]? = some z)
    (hx : C.X.env.scope.names.lookup x = some .local) (hy : C.X.env.scope.names.lookup y = some .local) (hz : C.X.env.scope.names.lookup z = some .local) (ha : DE C (grO w) o e Fa) (hb : DE C (grO w2) o e2 Fb) (hb3 : DE C (grO w3) o e3 Fc)
    (hw : swappedStores [.Tuple [.Name x px, .Name y py, .Name z pz] kt pt] (.Tuple [e, e2, e3] k2 pt2) C.X.env = pure (some [x, y, z]))
    (hij : i ≠ j := by decide) (hil : i ≠ l := by decide) (hjl : j ≠ l := by decide) (hw1 : w ≠ .vw := by decide) (hw2 : w2 ≠ .vw := by decide) (hw3 : w3 ≠ .vw := by decide) (hl : i < o.length := by decide) (hl2 : j < o.length := by decide) (hl3 : l < o.length := by decide)
    (hs : swapsWithSole [.Tuple [.Name x px, .Name y py, .Name z pz] kt pt] (.Tuple [e, e2, e3] k2 pt2) pos.line C.X.env = pure false := by rfl)
    (hst : starEach [e, e2, e3] C.X.env = (false, eval e C.X.env) :: starEach [e2, e3] C.X.env := by rfl) (hst2 : starEach [e2, e3] C.X.env = (false, eval e2 C.X.env) :: starEach [e3] C.X.env := by rfl) (hst3 : starEach [e3] C.X.env = (false, eval e3 C.X.env) :: starEach [] C.X.env := by rfl) :
    DS C g o (((o.set i w).set j w2).set l w3) lo (.Assign [.Tuple [.Name x px, .Name y py, .Name z pz] kt pt] (.Tuple [e, e2, e3] k2 pt2) pos) (sPar3 i j l Fa Fb Fc) := by
  refine PS.imp (ps_par3 hc hN hi hj hk hij hil hjl hx hy hz (pa_cons ha (pa_cons hb (pa_cons hb3 pa_nil hst3) hst2) hst) hw hs) fun E σ H ⟨η, M, S, q⟩ => ?_
  refine RunE.step (β := Ctl) (P := fun r => RunS C g (((o.set i w).set j w2).set l w3) lo H r E) (k := fun d M1 => (Fb η M1).bind fun d2 M2 => (Fc η M2).bind fun d3 M3 => .ok (.nx (((η.set i d).set j d2).set l d3)) M3) S.e q (fun c ns fs M' q oe H' s x => q oe σ H' (S.st.trans s) x) (fun q => q) fun d M1 v H1 q s S1 rg => ?_
  refine RunE.step (β := Ctl) (P := fun r => RunS C g (((o.set i w).set j w2).set l w3) lo H r E) (k := fun d2 M2 => (Fc η M2).bind fun d3 M3 => .ok (.nx (((η.set i d).set j d2).set l d3)) M3) S1 q (fun c ns fs M' q oe H' s2 x => q oe σ H' ((S.st.trans s).trans s2) x) (fun q => q) fun d2 M2 v2 H2 q s2 S2 rg2 => ?_
  refine RunE.step (β := Ctl) (P := fun r => RunS C g (((o.set i w).set j w2).set l w3) lo H r E) (k := fun d3 M3 => .ok (.nx (((η.set i d).set j d2).set l d3)) M3) S2 q (fun c ns fs M' q oe H' s3 x => q oe σ H' (((S.st.trans s).trans s2).trans s3) x) (fun q => q) fun d3 M3 v3 H3 q s3 S3 rg3 => ?_
  refine ⟨v, v2, v3, rfl, q _ H3 ?_ ((s.fx.trans s2.fx).trans s3.fx)⟩
  exact ((S.set hw1 hl s rg).set hw2 (by rw [List.length_set]; exact hl2) s2 rg2).set hw3 (by rw [List.length_set, List.length_set]; exact hl3) s3 rg3

/-! ### loops -/
@[simp] def forK (k : Env → Mem → Res Ctl) : Ctl → Mem → Res Ctl
  | .nx η, M => k η M
  | .ct η, M => k η M
  | .bk η, M => .ok (.nx η) M
  | .rt d, M => .ok (.rt d) M
@[simp] def forF (P : Pat) (B : SF) : List D → SF
  | [], η, M => .ok (.nx η) M
  | d :: ds, η, M => onB P d η fun η1 => (B η1 M).bind (forK (forF P B ds))
@[simp] def sFor (I : IF) (P : Pat) (B : SF) : SF := fun η M => (I η M).bind fun ds M1 => forF P B ds η M1
theorem body_ends {k : SF} {Nx : L2.St → Hp → Prop} {H2 : Hp} (h : RunS C g o lo H2 (r.bind (forK k)) E) (hn : ∀ η' M' σ' H', StR C.X.K C.H0 C.T C.M0 o σ' H' η' M' → Fx H2 H' → RunS C g o lo H' (k η' M') E → Nx σ' H') :
    RunS C g o o H2 r { E with nx := Nx, ct := Nx, bk := E.nx } := by
  cases r with
  | ok c M =>
    rw [Res.bind_ok] at h
    cases c with
    | nx η => exact fun σ H S f => hn η M σ H S f (h.fx f)
    | rt d => exact h
    | bk η => exact fun σ H S f => h σ H S f
    | ct η => exact fun σ H S f => hn η M σ H S f (h.fx f)
  | err c ns fs M => exact h
  | bad => exact h
theorem ds_for {tg it : Expr} {body : List Stmt} {I : IF} {P : Pat} {B : SF} (hp : PassesOwn (model C.X.prog C.X.w) C.X.A C.X.env C.X.xe) (hc : C.X.calm = true) (hi : DI C o tg it I) (hg : PG C.X tg (gP C.X.K P)) (hb : DSs C g o o o body B) (hst : ∀ i ∈ P.slots, o.getD i .st = .st := by decide)
    (hs : ∀ x, foldedSetIterable it C.X.env x = pure x := by intro _; rfl) : DS C g o o lo (.For tg it body [] pos) (sFor I P B) := by
  refine PS.imp (ps_for hp hc hi hg hb hs) fun E σ H ⟨η, M, S, q⟩ => ⟨η, M, S.e, ?_⟩
  unfold sFor at q
  cases e : I η M with
  | bad => rw [e] at q; exact q
  | err c ns fs M' =>
    rw [e] at q
    exact fun oe H' s x => q oe σ H' (S.st.trans s) x
  | ok ds M1 =>
    rw [e, Res.bind_ok] at q
    intro J H1 s1 ⟨Y, w, y⟩
    refine for_it w (fun i σ' H' => Fx H1 H' ∧ ∃ η' M', StR C.X.K C.H0 C.T C.M0 o σ' H' η' M' ∧ RunS C g o lo H' (forF P B (ds.drop i) η' M') E) ⟨Fx.refl H1, η, M1, S.stp s1, q.fx s1.fx⟩ (fun i σ' H' _ p => p.1) (fun i x σ' H' H2 hi ⟨f, η', M', S', q'⟩ hy => ?_) fun σ' H' ⟨f, η', M', S', q'⟩ => ?_
    · obtain ⟨s2, d, hd1, r⟩ := y i H' M' x H2 hi f S'.st.mo hy
      have ed : ds.drop i = d :: ds.drop (i + 1) := by
        rw [List.drop_eq_getElem_cons hi]
        congr 1
        rw [List.getElem?_eq_getElem hi] at hd1
        exact Option.some.inj hd1
      rw [ed] at q'
      unfold forF at q'
      cases eb : bindP P d η' with
      | none =>
        simp only [onB, eb] at q'
        exact q'.elim
      | some η2 =>
        simp only [onB, eb] at q'
        obtain ⟨σ2, sb, k⟩ := gP_of P S'.len r eb
        refine k _ ⟨η2, M', (S'.stp s2).setP sb hst, body_ends (q'.fx s2.fx) fun η3 M3 σ3 H3 S3 f3 q3 => ⟨(f.trans s2.fx).trans f3, η3, M3, S3, q3⟩⟩
    · rw [List.drop_eq_nil_of_le (Nat.le_refl _)] at q'
      exact q' σ' H' S' (Fx.refl H')
def whileF (A : TF) (B : SF) : Nat → SF
  | 0, _, _ => .bad
  | n + 1, η, M => (A η M).bind fun b M1 => if b = true then (B η M1).bind (forK (whileF A B n)) else .ok (.nx η) M1
def sWhile (A : TF) (B : SF) (fuel : Nat) : SF := fun η M => whileF A B fuel η M
theorem ds_while {body : List Stmt} {B : SF} (n : Nat) (hp : PassesOwn (model C.X.prog C.X.w) C.X.A C.X.env C.X.xe) (hc : DT C o c A) (hb : DSs C g o o o body B) : DS C g o o lo (.While c body [] pos) (sWhile A B n) := by
  refine PS.imp (ps_while hp hc hb) fun E σ H ⟨η, M, S, q⟩ => ?_
  refine ⟨fun m σ' H' => ∃ η' M', StR C.X.K C.H0 C.T C.M0 o σ' H' η' M' ∧ RunS C g o lo H' (whileF A B m η' M') E, ⟨n, η, M, S, q⟩, fun m σ' H' ⟨η', M', S', q'⟩ => ?_⟩
  cases m with
  | zero => exact q'.elim
  | succ m =>
    unfold whileF at q'
    refine tDT_s S' q' fun b M2 H2 q2 s2 S2 => ?_
    cases b with
    | false =>
      simp only [Bool.false_eq_true, if_false] at q2 ⊢
      exact q2 σ' H2 S2 (Fx.refl H2)
    | true =>
      simp only [if_true] at q2 ⊢
      exact ⟨fun σ3 H3 => ∃ η' M', StR C.X.K C.H0 C.T C.M0 o σ3 H3 η' M' ∧ RunS C g o lo H3 (whileF A B m η' M') E, fun σ3 H3 p => ⟨m, Nat.lt_succ_self m, p⟩, η', M2, S2, body_ends q2 fun η3 M3 σ3 H3 S3 f3 q3 => ⟨η3, M3, S3, q3⟩⟩
theorem whileF_up {A : TF} {B : SF} : ∀ (n : Nat) {η : Env} {M : Mem} {r : Res Ctl}, whileF A B n η M = r → r ≠ .bad → whileF A B (n + 1) η M = r
  | 0, η, M, r, e, h => absurd e.symm h
  | n + 1, η, M, r, e, h => by
    unfold whileF at e ⊢
    cases e1 : A η M with
    | err c ns fs M1 => rw [e1] at e; exact e
    | bad => rw [e1] at e; exact e
    | ok b M1 =>
      rw [e1] at e
      simp only [Res.bind_ok] at e ⊢
      cases b with
      | false => exact e
      | true =>
        simp only [if_true] at e ⊢
        cases e2 : B η M1 with
        | err c ns fs M1 => rw [e2] at e; exact e
        | bad => rw [e2] at e; exact e
        | ok c M2 =>
          rw [e2] at e
          simp only [Res.bind_ok] at e ⊢
          cases c with
          | nx η' => exact whileF_up n e h
          | ct η' => exact whileF_up n e h
          | bk η' => exact e
          | rt d => exact e
theorem whileF_add {A : TF} {B : SF} (n : Nat) {η : Env} {M : Mem} {r : Res Ctl} (e : whileF A B n η M = r) (h : r ≠ .bad) : ∀ k, whileF A B (n + k) η M = r
  | 0 => e
  | k + 1 => whileF_up (n + k) (whileF_add n e h k) h
open Classical in
/-- while, as often as it goes -/
noncomputable def sWhl (A : TF) (B : SF) : SF := fun η M => if h : ∃ n, whileF A B n η M ≠ .bad then whileF A B (choose h) η M else .bad
theorem sWhl_eq {A : TF} {B : SF} {n : Nat} {η : Env} {M : Mem} {r : Res Ctl} (e : whileF A B n η M = r) (h : r ≠ .bad) : sWhl A B η M = r := by
  unfold sWhl
  have hx : ∃ n, whileF A B n η M ≠ .bad := ⟨n, by rw [e]; exact h⟩
  rw [dif_pos hx]
  have h1 := whileF_add _ rfl (Classical.choose_spec hx) n
  have h2 := whileF_add n e h (Classical.choose hx)
  rw [Nat.add_comm] at h1
  rw [← h1]
  exact h2
theorem ds_whl {body : List Stmt} {B : SF} (hp : PassesOwn (model C.X.prog C.X.w) C.X.A C.X.env C.X.xe) (hc : DT C o c A) (hb : DSs C g o o o body B) : DS C g o o lo (.While c body [] pos) (sWhl A B) := by
  have h : PS C.X (.While c body [] pos) (fun E σ H => ∃ n, tDS C g o o lo (sWhile A B n) E σ H) := ⟨fun pins s σ H D I q => by
    obtain ⟨n, q⟩ := q
    exact (ds_while n hp hc hb).run pins s σ H D I q⟩
  refine PS.imp h fun E σ H ⟨η, M, S, q⟩ => ?_
  unfold sWhl at q
  split at q
  · rename_i hx
    exact ⟨_, η, M, S, q⟩
  · exact q.elim
end
end Tn

set_option Elab.async false
set_option linter.all false
set_option maxRecDepth 100000
set_option maxHeartbeats 4000000
namespace Tn
open PySem PySem.Spec PyProof.Rows L2

/-! ## an owned list is written -/
section
variable {C : Cn} {g : Gr} {o o' o1 lo : List Ow} {H0 H1 H : Hp} {r : Res Ctl} {E : Ends} {σ : L2.St} {η : Env} {M M1 : Mem}
theorem StR.mut {i : Nat} {ds ds' : List D} {a : Addr} {xs' : List V} (S : StR C.X.K C.H0 C.T C.M0 o σ H η M) (ho : o.getD i .st = .ow) (e : (η[i]? : Option D) = some (.lst ds)) (hv : σ[i]? = some (some (.ref a))) (r : RVs C.X.K H ds' xs') :
    StR C.X.K C.H0 C.T C.M0 o σ (upd H a (.lst xs')) (η.set i (.lst ds')) M ∧ Fx H (upd H a (.lst xs')) := by
  obtain ⟨v, hv2, hs⟩ := S.sl i _ e (by simp)
  rw [hv] at hv2
  cases hv2
  rw [ho] at hs
  obtain ⟨b, xs, eb, n0, ha, ma, _⟩ := hs
  cases eb
  have f : Fx H (upd H a (.lst xs')) := Fx.put ha (.inl ⟨_, rfl⟩)
  have hown : Owns σ η i a := ⟨hv, .inl ⟨ds, e⟩⟩
  have hlt : i < η.length := (List.getElem?_eq_some_iff.mp e).1
  refine ⟨⟨S.st.put n0 ha (.inl ⟨_, rfl⟩) ma, ?_, fun j d he ne => ?_, fun j k b h1 h2 h3 h4 => ?_, by rw [List.length_set]; exact S.len⟩, f⟩
  · exact Tabs.but S.tabs fun b x e c => (upd_ne fun z => by
      rw [z, ha] at e
      cases e
      rcases c with ⟨_, c⟩ | ⟨_, c⟩ <;> cases c).trans e
  · by_cases hij : i = j
    · subst hij
      rw [List.getElem?_set_self hlt] at he
      cases he
      refine ⟨_, hv, ?_⟩
      rw [ho]
      exact ⟨a, xs', rfl, n0, upd_same, ma, RVs.fx f _ r⟩
    · rw [List.getElem?_set_ne hij] at he
      obtain ⟨v, hv3, hs⟩ := S.sl j d he ne
      refine ⟨v, hv3, ?_⟩
      cases q : o.getD j .st with
      | st => rw [q] at hs; exact RV.fx f _ hs
      | ow =>
        rw [q] at hs
        cases d with
        | lst ds =>
          obtain ⟨b, xs, eb, n0, hb, mb, r⟩ := hs
          have hne : b ≠ a := fun z => hij (S.ap i j a ho hown ⟨by rw [hv3, eb, z], .inl ⟨ds, he⟩⟩ q)
          exact ⟨b, xs, eb, n0, (upd_ne hne).trans hb, mb, RVs.fx f _ r⟩
        | dct ks vs =>
          obtain ⟨b, xs, w, eb, n0, hb, mb, dd, r⟩ := hs
          have hne : b ≠ a := fun z => hij (S.ap i j a ho hown ⟨by rw [hv3, eb, z], .inr ⟨ks, vs, he⟩⟩ q)
          exact ⟨b, xs, w, eb, n0, (upd_ne hne).trans hb, mb, dd, RVs.fx f _ r⟩
        | _ => exact RV.fx f _ hs
      | vw =>
        rw [q] at hs
        obtain ⟨hs, h1⟩ := hs
        refine ⟨?_, h1⟩
        cases d with
        | lst ds =>
          obtain ⟨b, xs, eb, hb, r⟩ := hs
          have hne : b ≠ a := fun z => h1 (.inl ⟨ds, rfl⟩) b eb (by rw [z]; exact n0)
          refine ⟨b, xs, eb, ?_, RVs.fx f _ r⟩
          rcases hb with ⟨hb, mb⟩ | hb
          · exact .inl ⟨(upd_ne hne).trans hb, mb⟩
          · exact .inr (hb.fx f)
        | dct ks vs =>
          obtain ⟨b, xs, w, eb, hb, dd, r⟩ := hs
          have hne : b ≠ a := fun z => h1 (.inr ⟨ks, vs, rfl⟩) b eb (by rw [z]; exact n0)
          refine ⟨b, xs, w, eb, ?_, dd, RVs.fx f _ r⟩
          rcases hb with ⟨hb, mb⟩ | hb
          · exact .inl ⟨(upd_ne hne).trans hb, mb⟩
          · exact .inr (hb.fx f)
        | _ => exact RV.fx f _ hs
  · have key : ∀ {j : Nat}, Owns σ (η.set i (.lst ds')) j b → Owns σ η j b := fun {j} ⟨q1, q2⟩ => by
      by_cases hij : i = j
      · subst hij
        exact ⟨q1, .inl ⟨ds, e⟩⟩
      · rw [List.getElem?_set_ne hij] at q2
        exact ⟨q1, q2⟩
    exact S.ap j k b h1 (key h2) (key h3) h4
variable {st : Stmt} {rest ss a b : List Stmt} {F G : SF} {e c tg : Expr} {Fe Fa Fb : EF} {A : TF} {pos : Pos} {ge : Gr}
/-- the list that slot i owns, for something done with it -/
def onL (i : Nat) (η : Env) (k : List D → Res Ctl) : Res Ctl := match (η[i]? : Option D) with
  | some (.lst ds) => k ds
  | _ => .bad
theorem onL_run {i : Nat} {k : List D → Res Ctl} (h : RunS C g o lo H (onL i η k) E) : ∃ ds, (η[i]? : Option D) = some (.lst ds) ∧ RunS C g o lo H (k ds) E := by
  unfold onL at h
  split at h
  · rename_i ds e
    exact ⟨ds, e, h⟩
  · exact h.elim
theorem StR.own {i : Nat} {ds : List D} (S : StR C.X.K C.H0 C.T C.M0 o σ H η M) (ho : o.getD i .st = .ow) (e : (η[i]? : Option D) = some (.lst ds)) : ∃ a xs, σ[i]? = some (some (.ref a)) ∧ Nw C.H0 a ∧ H a = some (.lst xs) ∧ M a = none ∧ RVs C.X.K H ds xs := by
  obtain ⟨v, hv, hs⟩ := S.sl i _ e (by simp)
  rw [ho] at hs
  obtain ⟨a, xs, rfl, n0, ha, ma, r⟩ := hs
  exact ⟨a, xs, hv, n0, ha, ma, r⟩
def sApp (i : Nat) (F : EF) : SF := fun η M => onL i η fun _ => (F η M).bind fun d M' => onL i η fun ds => if ds.length < sizeLine then .ok (.nx (η.set i (.lst (ds ++ [d])))) M' else .bad
/-- x.append(e) -/
theorem ds_app (i : Nat) {x : Str} {xp apos cpos pos : Pos} (hp : PE C.X (.Name x xp) (tVar i)) (he : DE C .stable o e Fe) (ho : o.getD i .st = .ow := by rfl)
    (hbase : attributeBase (.Name x xp) "append" C.X.env (eval (.Name x xp) C.X.env) = eval (.Name x xp) C.X.env := by rfl)
    (hfew : ((backTo cpos (starEach [e] C.X.env)).all (fun x => !x.1) && (backToKw cpos (keywordEach [] C.X.env)).all (fun x => x.1.isSome) && decide (([e] : List Expr).length + ([] : List Keyword).length + (if ([] : List Keyword).isEmpty then 0 else 1) < 30)) = true := by rfl)
    (hline : (apos.endLine == cpos.line) = true := by rfl) (hst : starEach [e] C.X.env = (false, eval e C.X.env) :: starEach [] C.X.env := by rfl) (hplain : (backTo cpos (starEach [] C.X.env)).any (·.1) = false := by rfl)
    (hs : swapsWith (.Call (.Attribute (.Name x xp) "append" apos) [e] [] cpos) none pos.line C.X.env = pure false := by rfl) : DS C g o o lo (.Expr (.Call (.Attribute (.Name x xp) "append" apos) [e] [] cpos) pos) (sApp i Fe) := by
  refine PS.imp (ps_expr (pe_bm PySem.F.plainAttrs_list PySem.F.slot_list_append PySem.F.type_list_append mt_append hp (pa_cons he pa_nil hst) hbase hfew hline hst hplain) hs) fun E σ H ⟨η, M, S, q⟩ => ?_
  obtain ⟨ds, e1, q⟩ := onL_run q
  obtain ⟨a, xs, hv, n0, ha, ma, r⟩ := S.own ho e1
  refine ⟨_, hv, .inl ⟨rfl, xs, .inl (.inl ha)⟩, tD_s S q fun d M' v H' q s S' rg => ?_⟩
  obtain ⟨ds2, e2, q⟩ := onL_run q
  split at q
  · rename_i hz
    obtain ⟨a2, xs2, hv2, n02, ha2, ma2, r2⟩ := S'.own ho e2
    rw [hv] at hv2
    cases hv2
    obtain ⟨S3, f3⟩ := S'.mut ho e2 hv (RVs.app r2 (RVs.mk rg (RVs.nil_iff.mpr rfl)))
    exact ⟨a, xs2, v, rfl, rfl, ha2, by rw [← r2.length]; exact hz, q _ _ S3 f3⟩
  · exact q.elim
def sExt (i : Nat) (F : EF) : SF := fun η M => onL i η fun _ => (F η M).bind fun d M' => match d with
  | .lst es => onL i η fun ds => if ds.length + es.length ≤ sizeLine then .ok (.nx (η.set i (.lst (ds ++ es)))) M' else .bad
  | _ => .bad
/-- x.extend(e), e a new list -/
theorem ds_ext (i : Nat) {x : Str} {xp apos cpos pos : Pos} (hp : PE C.X (.Name x xp) (tVar i)) (he : DE C .fresh o e Fe) (ho : o.getD i .st = .ow := by rfl)
    (hbase : attributeBase (.Name x xp) "extend" C.X.env (eval (.Name x xp) C.X.env) = eval (.Name x xp) C.X.env := by rfl)
    (hfew : ((backTo cpos (starEach [e] C.X.env)).all (fun x => !x.1) && (backToKw cpos (keywordEach [] C.X.env)).all (fun x => x.1.isSome) && decide (([e] : List Expr).length + ([] : List Keyword).length + (if ([] : List Keyword).isEmpty then 0 else 1) < 30)) = true := by rfl)
    (hline : (apos.endLine == cpos.line) = true := by rfl) (hst : starEach [e] C.X.env = (false, eval e C.X.env) :: starEach [] C.X.env := by rfl) (hplain : (backTo cpos (starEach [] C.X.env)).any (·.1) = false := by rfl)
    (hs : swapsWith (.Call (.Attribute (.Name x xp) "extend" apos) [e] [] cpos) none pos.line C.X.env = pure false := by rfl) : DS C g o o lo (.Expr (.Call (.Attribute (.Name x xp) "extend" apos) [e] [] cpos) pos) (sExt i Fe) := by
  refine PS.imp (ps_expr (pe_bm PySem.F.plainAttrs_list PySem.F.slot_list_extend PySem.F.type_list_extend mt_extend hp (pa_cons he pa_nil hst) hbase hfew hline hst hplain) hs) fun E σ H ⟨η, M, S, q⟩ => ?_
  obtain ⟨ds, e1, q⟩ := onL_run q
  obtain ⟨a, xs, hv, n0, ha, ma, r⟩ := S.own ho e1
  refine ⟨_, hv, .inl ⟨rfl, xs, .inl (.inl ha)⟩, tD_s S q fun d M' v H' q s S' rg => ?_⟩
  cases d with
  | lst es =>
    obtain ⟨ds2, e2, q⟩ := onL_run q
    split at q
    · rename_i hz
      obtain ⟨a2, xs2, hv2, n02, ha2, ma2, r2⟩ := S'.own ho e2
      rw [hv] at hv2
      cases hv2
      obtain ⟨b, zs, eb, nb, hb, mb, rb⟩ := rg
      obtain ⟨S3, f3⟩ := S'.mut ho e2 hv (RVs.app r2 rb)
      exact ⟨a, b, xs2, zs, rfl, by rw [eb], ha2, hb, by rw [← r2.length, ← rb.length]; exact hz, q _ _ S3 f3⟩
    · exact q.elim
  | _ => exact q.elim
/-- x = y.pop() -/
def sPop (i j : Nat) : SF := fun η M => onL i η fun ds => match ds[ds.length - 1]? with
  | some d => .ok (.nx ((η.set i (.lst ds.dropLast)).set j d)) M
  | none => .bad
theorem RVs.dropLast {K : PySem.W.Frag} {H : Hp} {ds : List D} {xs : List V} (h : RVs K H ds xs) : RVs K H ds.dropLast xs.dropLast := by
  rw [List.dropLast_eq_take, List.dropLast_eq_take, h.length]
  exact h.take _
theorem ds_pop (i j : Nat) {x y : Str} {xp yp apos cpos pos : Pos} (hp : PE C.X (.Name x xp) (tVar i)) (hN : C.X.N.Nodup) (hi : C.X.N[j]? = some y) (hx : Loc C.X.env.scope y) (ho : o.getD i .st = .ow := by rfl)
    (hbase : attributeBase (.Name x xp) "pop" C.X.env (eval (.Name x xp) C.X.env) = eval (.Name x xp) C.X.env := by rfl) (hline : (apos.endLine == cpos.line) = true := by rfl)
    (hs : swapsWith (.Call (.Attribute (.Name x xp) "pop" apos) [] [] cpos) (some (.Name y yp)) pos.line C.X.env = pure false := by rfl)
    (hf : C.X.fn y = true ∨ C.X.env.scope.names.lookup y = some .local := by first | exact .inl rfl | exact .inr rfl | assumption) (hl : j < o.length := by decide) : DS C g o (o.set j .st) lo (.Assign [.Name y yp] (.Call (.Attribute (.Name x xp) "pop" apos) [] [] cpos) pos) (sPop i j) := by
  refine PS.imp (ps_set hN hi hx (pe_bm0 PySem.F.plainAttrs_list PySem.F.slot_list_pop PySem.F.type_list_pop mt_pop hp hbase hline) hs hf) fun E σ H ⟨η, M, S, q⟩ => ?_
  obtain ⟨ds, e1, q⟩ := onL_run q
  obtain ⟨a, xs, hv, n0, ha, ma, r⟩ := S.own ho e1
  split at q
  · rename_i d ed
    obtain ⟨v, ev, rv⟩ := r.get ed
    obtain ⟨S3, f3⟩ := S.mut ho e1 hv r.dropLast
    refine ⟨_, hv, .inl ⟨rfl, xs, .inl (.inl ha)⟩, a, xs, v, rfl, rfl, ha, by rw [← r.length]; exact ev, ?_⟩
    exact q _ _ (S3.set (x := .st) (by decide) hl (Stp.refl S3.st.mo) (RV.fx f3 _ rv)) f3
  · exact q.elim
/-- x[i] = e -/
def dPutAt (ds : List D) (k d : D) : Option (List D) := match k with
  | .int z => (ixN ds.length z).map fun j => ds.set j d
  | _ => none
def sPut (i : Nat) (Fi F : EF) : SF := fun η M => (F η M).bind fun d M1 => onL i η fun _ => (Fi η M1).bind fun k M2 => onL i η fun ds => match dPutAt ds k d with
  | some ds' => .ok (.nx (η.set i (.lst ds'))) M2
  | none => .bad
theorem putAt_run {i : Nat} {ds ds' : List D} {k d : D} {a : Addr} {w v : V} {Hb : Hp} (S : StR C.X.K C.H0 C.T C.M0 o σ H η M) (ho : o.getD i .st = .ow) (e1 : (η[i]? : Option D) = some (.lst ds)) (hv : σ[i]? = some (some (.ref a))) (rk : VW C.X.K M H k w) (rg : RV C.X.K H d v) (e : dPutAt ds k d = some ds') {Q : Hp → Prop}
    (q : ∀ xs', StR C.X.K C.H0 C.T C.M0 o σ (upd H a (.lst xs')) (η.set i (.lst ds')) M → Fx H (upd H a (.lst xs')) → Q (upd H a (.lst xs'))) : rSetL (.ref a) w v H Q := by
  unfold dPutAt at e
  split at e
  · rename_i z
    obtain ⟨j, ej, rfl⟩ := Option.map_eq_some_iff.mp e
    obtain ⟨a2, xs, hv2, n0, ha, ma, r⟩ := S.own ho e1
    rw [hv] at hv2
    cases hv2
    obtain ⟨S3, f3⟩ := S.mut ho e1 hv (RVs.set (i := j) r rg)
    exact ⟨a, xs, z, j, rfl, rk, ha, by rw [← r.length]; exact ej, q _ S3 f3⟩
  · cases e
theorem ds_put (i : Nat) {g1 : Gr} {x : Str} {ie : Expr} {xp tpos pos : Pos} {Fi : EF} (hp : PE C.X (.Name x xp) (tVar i)) (hi : DE C g1 o ie Fi) (he : DE C .stable o e Fe) (ho : o.getD i .st = .ow := by rfl)
    (hs : swapsWithSole [.Subscript (.Name x xp) ie tpos] e pos.line C.X.env = pure false := by rfl) (hw : swappedStores [.Subscript (.Name x xp) ie tpos] e C.X.env = pure none := by rfl)
    (h1 : (assignEach [.Subscript (.Name x xp) ie tpos] C.X.env).map (·.2) = [assign (.Subscript (.Name x xp) ie tpos) C.X.env] := by rfl)
    (ha : ∀ v, assign (.Subscript (.Name x xp) ie tpos) C.X.env v = (do
      let ov ← holding [v] (eval (.Name x xp) C.X.env)
      let iv ← holding [v, ov] (eval ie C.X.env)
      standAt tpos
      holding [v, ov, iv] (setItem ov iv v)
      release [v, ov, iv] []) := by intro _; rfl) : DS C g o o lo (.Assign [.Subscript (.Name x xp) ie tpos] e pos) (sPut i Fi Fe) := by
  refine PS.imp (ps_asg he (pg_sub hp hi set_list ha) hs hw h1) fun E σ H ⟨η, M, S, q⟩ => tD_s S q fun d M1 v H1 q s S1 rg => ?_
  obtain ⟨ds, e1, q⟩ := onL_run q
  obtain ⟨a, xs, hv, _⟩ := S1.own ho e1
  refine ⟨_, hv, tD_s S1 q fun k M2 w H2 q s2 S2 rk => ?_⟩
  obtain ⟨ds2, e2, q⟩ := onL_run q
  split at q
  · rename_i ds' ed
    exact putAt_run (Hb := H) S2 ho e2 hv rk.vw (RV.fx s2.fx _ rg) ed fun xs' S3 f3 => q _ _ S3 f3
  · exact q.elim
end
end Tn

set_option Elab.async false
set_option linter.all false
set_option maxRecDepth 100000
set_option maxHeartbeats 4000000
namespace Tn
open PySem PySem.Spec PyProof.Rows L2

/-! ## a def keeps its promise -/
/-- what a def's body tells, by its arguments -/
def fnF (n : Nat) (F : SF) : GF := fun ds M => (F (ds ++ List.replicate (n - ds.length) .und) M).bind fun c M' => match c with
  | .nx _ => .ok .non M'
  | .rt d => .ok d M'
  | _ => .bad
theorem start_get {N : List Str} {vs : List V} {i : Nat} {v : V} (h : vs[i]? = some v) : (L2.start N vs)[i]? = some (some v) := by
  unfold L2.start
  have hl : i < vs.length := (List.getElem?_eq_some_iff.mp h).1
  rw [List.getElem?_append_left (by simpa using hl), List.getElem?_map, h]
  rfl
section
variable {P : Program} {w : World} {K : PySem.W.Frag} {mg : Str → Option Value} {base : Heap}
theorem start_str {T : List (Addr × Str)} {M : Mem} {ws : List Ow} {N : List Str} {ds : List D} {vs : List V} {H : Hp} (hws : ∀ i, ws.getD i .st ≠ .ow) (hl : ws.length ≤ N.length) (m : MOk K M H) (t : LamX.Tabs T H) (r : RWs K M H ws ds vs) :
    StR K H T M (ws ++ List.replicate (N.length - ws.length) Ow.st) (L2.start N vs) H (ds ++ List.replicate (N.length - ds.length) D.und) M := by
  obtain ⟨l1, l2⟩ := r.len
  have hw : ∀ i, (ws ++ List.replicate (N.length - ws.length) Ow.st).getD i .st = ws.getD i .st := fun i => by
    rw [List.getD_eq_getElem?_getD, List.getD_eq_getElem?_getD]
    by_cases hi : i < ws.length
    · rw [List.getElem?_append_left hi]
    · rw [List.getElem?_append_right (by omega), List.getElem?_eq_none (by omega : ws.length ≤ i), List.getElem?_replicate]
      split <;> rfl
  refine ⟨Stp.refl m, t, fun i d h1 h2 => ?_, fun i j a h1 _ _ _ => ?_, ?_⟩
  · by_cases hi : i < ds.length
    · rw [List.getElem?_append_left hi] at h1
      obtain ⟨v, e, q⟩ := r.at h1
      refine ⟨v, start_get e, ?_⟩
      rw [hw]
      have hne := hws i
      cases z : ws.getD i .st with
      | st => rw [z] at q; exact q
      | ow => exact absurd z hne
      | vw =>
        rw [z] at q
        refine ⟨q, fun hd a ea => ?_⟩
        have q' : VW K M H d v := q
        rcases hd with ⟨es, rfl⟩ | ⟨ks, es, rfl⟩
        · obtain ⟨b, xs, e2, hb, _⟩ := q'
          rw [ea] at e2
          cases e2
          intro nw
          rcases hb with ⟨hb, _⟩ | ⟨_, hb⟩ <;> obtain ⟨ps, e⟩ := nw _ hb <;> cases e
        · obtain ⟨b, xs, u, e2, hb, dd, _⟩ := q'
          rw [ea] at e2
          cases e2
          intro nw
          rcases hb with ⟨hb, _⟩ | ⟨_, hb⟩
          · obtain ⟨ps, e⟩ := nw _ hb
            exact dd.notTbl ps e
          · obtain ⟨ps, e⟩ := nw _ hb
            cases e
    · rw [List.getElem?_append_right (by omega), List.getElem?_replicate] at h1
      split at h1
      · cases h1
        exact absurd rfl h2
      · cases h1
  · rw [hw] at h1
    exact absurd h1 (hws i)
  · simp only [L2.start, List.length_append, List.length_replicate, List.length_map]
    omega
/-- the context of a def's body, for a derivation -/
def cnOf (P : Program) (w : World) (K : PySem.W.Frag) (mg : Str → Option Value) (base : Heap) (T : List (Addr × Str)) (N : List Str) (qual : Str) (st : Stmt) (f : Addr) (cdv : Value) (A : Around) (outer : List PySem.Env) (s : Shared) (H H0 : Hp) (M : Mem) (E : XK) : Cn where
  X := cxOf (L2.CX P w) P w K mg base N qual (defScope st) f cdv A outer s H E
  T := T
  M0 := M
  H0 := H0
  W := fun c d _ H' => E c d H'
theorem def_ok {x qual : Str} {st : Stmt} {f : Addr} {fd : FuncData} {N ps : List Str} {k : Nat} {T : List (Addr × Str)} {ws : List Ow} {g : Gr} {FF : SF} {o' lo : List Ow} (F : Fun K x qual st f fd) (S : FnScope N ps (defScope st)) (hl : ws.length = ps.length) (hws : ∀ i, ws.getD i .st ≠ .ow)
    (hb : ∀ (cdv : Value) (A : Around) (outer : List PySem.Env) (s : Shared) (H : Hp) (M : Mem) (E : XK), Room k (A.deeper (envOfC qual (defScope st) s.heap.objs.size f cdv)) →
      DSs (cnOf P w K mg base T N qual st f cdv A outer s H H M E) g (ws ++ List.replicate (N.length - ws.length) Ow.st) o' lo (defBody st) FF) : FnOk P w K mg base (L2.CX P w) (k + 1) f fd ps (spD K T ws g (fnF N.length FF)) := by
  refine F.okX S (fun vs H Q E h => ?_) (fun cdv A outer s H vs Q E hr h => ?_)
  · obtain ⟨ds, M, r, _⟩ := h
    rw [r.len.2, hl]
  · obtain ⟨ds, M, r, m, t, q⟩ := h
    refine ⟨_, hb cdv A outer s H M E hr, ds ++ List.replicate (N.length - ds.length) .und, M, ?_, ?_⟩
    · refine start_str hws ?_ m t r
      have h1 := S.pre
      have h2 : (N.take ps.length).length = ps.length := by rw [h1]
      rw [List.length_take] at h2
      omega
    · unfold fnF at q
      cases e : FF (ds ++ List.replicate (N.length - ds.length) D.und) M with
      | ok c M' =>
        rw [e] at q
        cases c with
        | nx η => exact fun σ H' S _ => q .non H' S.st (RG.scal (fun _ z => by cases z) (fun _ _ z => by cases z) rfl)
        | rt d => exact fun v H' s rg => q v H' s rg
        | bk η => exact q.elim
        | ct η => exact q.elim
      | err c ns fs M' =>
        rw [e] at q
        exact fun oe σ H' s x => q oe H' s x
      | bad =>
        rw [e] at q
        exact q.elim
end

/-! ### raise -/
section
variable {C : Cn} {g : Gr} {o o' lo : List Ow} {x m : Str} {cl : Addr} {B newId initId : String} {bmB : List Value}
@[simp] def sRaise (c : Addr) : SF := fun _ M => .err c [] [] M
/-- raise X('..'), X of one's own -/
theorem ds_raise {j : Nat} {p p2 cpos pos : Pos} (tk : Takes C.X C.W) (hc : C.X.calm = true) (F : ExcBaseFacts B newId initId bmB) (q : PySem.W.excIn C.X.K cl bmB newId = true) (gC : C.X.mg x = some (.ref cl)) (kC : PySem.W.keepIn C.X.K (.ref cl) = true) (r : Raises C.X (.ref cl)) (hg : Gl C.X x)
    (hdb : (x == ("__debug__" : Str)) = false := by decide) : DS C g o o' lo (.Raise (some (.Call (.Name x p) [.Constant (.str m) j p2] [] cpos)) none pos) (sRaise cl) := by
  refine PS.imp (ps_raise hc tk (pmk_own F q gC kC r hg hdb)) fun E σ H ⟨η, M, S, q⟩ => ?_
  exact q none σ H S.st (.inl ⟨rfl, rfl, rfl⟩)
end
end Tn

set_option Elab.async false
set_option linter.all false
set_option maxRecDepth 100000
set_option maxHeartbeats 4000000
namespace Tn
open PySem PySem.Spec PyProof.Rows L2

/-! ## op= -/
section
variable {C : Cn} {g : Gr} {o o' lo : List Ow} {H : Hp} {E : Ends} {σ : L2.St} {η : Env} {M : Mem} {e : Expr} {Fe : EF} {pos : Pos} {ge : Gr}
/-- two whole numbers -/
def onII (d d2 : D) (k : Int → Int → Res Ctl) : Res Ctl := match d, d2 with
  | .int i, .int j => k i j
  | _, _ => .bad
theorem onII_run {d d2 : D} {k : Int → Int → Res Ctl} (h : RunS C g o lo H (onII d d2 k) E) : ∃ i j, d = .int i ∧ d2 = .int j ∧ RunS C g o lo H (k i j) E := by
  unfold onII at h
  split at h
  · exact ⟨_, _, rfl, rfl, h⟩
  · exact h.elim
def sAug (i : Nat) (F : EF) : SF := fun η M => (eVar i η M).bind fun d _ => (F η M).bind fun d2 M' => onII d d2 fun x y => .ok (.nx (η.set i (.int (x + y)))) M'
/-- x += e, whole numbers -/
theorem ds_aug (i : Nat) {x : Str} {pos' : Pos} (hN : C.X.N.Nodup) (hi : C.X.N[i]? = some x) (hx : Loc C.X.env.scope x) (he : DE C ge o e Fe) (hf : C.X.fn x = true ∨ C.X.env.scope.names.lookup x = some .local := by first | exact .inl rfl | exact .inr rfl | assumption)
    (ho : o.getD i .st = .st := by rfl) (hl : i < o.length := by decide) : DS C g o o lo (.AugAssign (.Name x pos') .Add e pos) (sAug i Fe) := by
  refine PS.imp (ps_aug hN hi hx he ip_add hf) fun E σ H ⟨η, M, S, q⟩ => ?_
  unfold sAug at q
  rcases eVar_ok (rfl : eVar i η M = _) with e1 | ⟨d, e1, e2, e3⟩
  · rw [e1] at q; exact q.elim
  · rw [e3, Res.bind_ok] at q
    obtain ⟨v, hv, hs⟩ := S.sl i d e1 e2
    rw [ho] at hs
    refine ⟨v, hv, tD_s S q fun d2 M' z H' q s S' rg => ?_⟩
    obtain ⟨x, y, rfl, rfl, q⟩ := onII_run q
    have h1 : v = .int x := hs
    have h2 : z = .int y := vw_int rg.vw.vx
    refine ⟨x, y, h1, h2, q _ H' ?_ (Fx.refl H')⟩
    have S2 := S'.set (x := .st) (d := .int (x + y)) (v := .int (x + y)) (by decide) hl (Stp.refl S'.st.mo) rfl
    have eo : o.set i .st = o := by
      apply List.ext_getElem?
      intro j
      rw [List.getElem?_set]
      split
      · rename_i hij
        subst hij
        rw [List.getD_eq_getElem?_getD, List.getElem?_eq_getElem hl] at ho
        rw [List.getElem?_eq_getElem hl]
        exact congrArg some ho.symm
      · rfl
    rw [eo] at S2
    exact S2
def rGetL (K : PySem.W.Frag) : V → V → Hp → VK → Prop := fun x y H Q => rIxL K x y H Q
theorem get_list {X : Cx} : PGet X (rGetL X.K) := by
  intro pins s σ H o i ov iv Q I ro ri h
  obtain ⟨p, xs, k, z, rfl, rfl, hq, he, q⟩ := h
  cases ro
  obtain ⟨t, rfl⟩ := ri
  obtain ⟨its, r, pl, hz⟩ := I.list hq
  obtain ⟨j, h1, h2, h3, h4, h5⟩ := atI_get he
  obtain ⟨w, ew, rw'⟩ := r.get h2
  have hl := r.length
  have hn := line63
  have fin : EP X pins σ Q w s := ⟨z, H, I, rw', q⟩
  by_cases h0 : 0 ≤ k
  · have hj : k.toNat = j := by
      rw [seqIndex_of h0 h5] at h1
      exact Option.some.inj h1
    exact wpAny_getItem_list pl.isList h0 (by omega) (by rw [hj]; simpa using ew) fin
  · have hj : (k + (its.toArray.size : Int)).toNat = j := by
      rw [seqIndex_neg (by omega) h4] at h1
      rw [List.size_toArray, ← hl]
      exact Option.some.inj h1
    exact wpAny_getItem_list_neg pl.isList (by omega) (by rw [List.size_toArray] <;> omega) (by omega) (by rw [hj]; simpa using ew) fin
def sAput (i : Nat) (Fi F : EF) : SF := fun η M => onL i η fun _ => (Fi η M).bind fun k M1 => onL i η fun ds => (Res.opt (dIx (.lst ds) k) M1).bind fun d M1 => (F η M1).bind fun d2 M2 => onII d d2 fun x y => onL i η fun ds => match dPutAt ds k (.int (x + y)) with
  | some ds' => .ok (.nx (η.set i (.lst ds'))) M2
  | none => .bad
/-- x[i] += e, whole numbers -/
theorem ds_aput (i : Nat) {g1 : Gr} {x : Str} {ie : Expr} {xp tpos : Pos} {Fi : EF} (hp : PE C.X (.Name x xp) (tVar i)) (hi : DE C g1 o ie Fi) (he : DE C ge o e Fe) (ho : o.getD i .st = .ow := by rfl)
    (ha : ∀ ov iv new, augStore ie ov iv new = (do holding [new, ov, iv] (setItem ov iv new); release [new, ov, iv] []; pure .next) := by intros; rfl) : DS C g o o lo (.AugAssign (.Subscript (.Name x xp) ie tpos) .Add e pos) (sAput i Fi Fe) := by
  refine PS.imp (ps_augS hp hi get_list he ip_add set_list ha) fun E σ H ⟨η, M, S, q⟩ => ?_
  obtain ⟨ds0, e0, q⟩ := onL_run q
  obtain ⟨a, xs0, hv, _⟩ := S.own ho e0
  refine ⟨_, hv, tD_s S q fun k M1 w H1 q s1 S1 rk => ?_⟩
  obtain ⟨ds, e1, q⟩ := onL_run q
  obtain ⟨a1, xs, hv1, n1, ha1, ma1, r1⟩ := S1.own ho e1
  rw [hv] at hv1
  cases hv1
  cases ei : dIx (.lst ds) k with
  | none => rw [ei] at q; exact q.elim
  | some d =>
    rw [ei] at q
    cases k with
    | int z =>
      obtain ⟨v, ev, rv⟩ := atI_rvs r1 (show atI ds z = some d from ei)
      refine ⟨a, xs, z, v, rfl, vw_int rk.vw.vx, .inl (.inl ha1), ev, ?_⟩
      refine tD_s S1 q fun d2 M2 u H2 q s2 S2 ru => ?_
      obtain ⟨x, y, rfl, rfl, q⟩ := onII_run q
      obtain ⟨ds2, e2, q⟩ := onL_run q
      refine ⟨x, y, rv, vw_int ru.vw.vx, ?_⟩
      split at q
      · rename_i ds' ed
        exact putAt_run (Hb := H) S2 ho e2 hv (VW.stp s2 rk.vw) (show RV C.X.K H2 (.int (x + y)) (.int (x + y)) from rfl) ed fun xs' S3 f3 => q _ _ S3 f3
      · exact q.elim
    | _ => simp [dIx] at ei
end
end Tn

set_option Elab.async false
set_option linter.all false
set_option maxRecDepth 100000
set_option maxHeartbeats 4000000
namespace Tn
open PySem PySem.Spec PyProof.Rows L2

/-! ## what a derivation is handed -/
structure Us (A : Around) : Prop where
  b : A.units + 1 < cLine
  c : A.units + 64 < cLine
  d : A.units + 65 < cLine
  e : A.units + 70 < cLine
theorem us_of {A : Around} {k : Nat} (h : Room k A) : Us A := by
  have := h.un
  exact ⟨by omega, by omega, by omega, by omega⟩
theorem asV {C : Cn} {own : List Ow} {e : Expr} {F : EF} (h : DE C .view own e F) : DE C .view own e F := h
theorem de_gi {C : Cn} {own : List Ow} {g : Gr} {x : Str} {i : Int} {pos : Pos} (hg : Gl C.X x) (hm : ∃ t, C.X.mg x = some (.int i t)) (hd : (x == ("__debug__" : Str)) = false := by decide) : DE C g own (.Name x pos) (eC (.int i)) := by
  obtain ⟨t, hm⟩ := hm
  exact de_gint hg hm hd
/-- an own class over ValueError, or over one such -/
structure Xc (K : PySem.W.Frag) (mg : Str → Option Value) (x : Str) (cl : Addr) : Prop where
  q : PySem.W.excIn K cl [.type "ValueError", .type "Exception", .type "BaseException", .type "object"] "ValueError.__new__" = true
  g : mg x = some (.ref cl)
  k : PySem.W.keepIn K (.ref cl) = true
  s : PySem.W.subIn K (.ref cl) (.type "BaseException") = some true
  t : PySem.W.typeIn K (.ref cl) = some (.type "type")
theorem ds_rz {C : Cn} {g : Gr} {o o' lo : List Ow} {x m : Str} {cl : Addr} {j : Nat} {p p2 cpos pos : Pos} (tk : Takes C.X C.W) (hc : C.X.calm = true) (h : Xc C.X.K C.X.mg x cl) (hg : Gl C.X x) (hdb : (x == ("__debug__" : Str)) = false := by decide) :
    DS C g o o' lo (.Raise (some (.Call (.Name x p) [.Constant (.str m) j p2] [] cpos)) none pos) (sRaise cl) := ds_raise tk hc PySem.F.excBase_ValueError h.q h.g h.k (raises_own h.s h.t) hg hdb
/-- a def of the module -/
structure Df (K : PySem.W.Frag) (mg : Str → Option Value) (x : Str) (st : Stmt) (ps : List Str) : Prop where
  ex : ∃ (f : Addr) (fd : FuncData), Fun K x x st f fd ∧ mg x = some (.ref f) ∧ L2.Binds K fd ps []
structure Pm (P : Program) (w : World) (K : PySem.W.Frag) (mg : Str → Option Value) (base : Heap) (x : Str) (k : Nat) (st : Stmt) (ps : List Str) (T : List (Addr × Str)) (ws : List Ow) (g : Gr) (G : GF) : Prop where
  ex : ∃ (f : Addr) (fd : FuncData), Fun K x x st f fd ∧ FnOk P w K mg base (L2.CX P w) k f fd ps (spD K T ws g G) ∧ mg x = some (.ref f) ∧ PySem.W.keepIn K (.ref f) = true ∧ L2.Binds K fd ps []
section
variable {P : Program} {w : World} {K : PySem.W.Frag} {mg : Str → Option Value} {base : Heap} {x : Str} {k : Nat} {ps : List Str} {T : List (Addr × Str)} {ws : List Ow} {g : Gr} {G : GF} {st : Stmt}
theorem Pm.of (D : Df K mg x st ps) (h : ∀ f fd, Fun K x x st f fd → FnOk P w K mg base (L2.CX P w) k f fd ps (spD K T ws g G)) : Pm P w K mg base x k st ps T ws g G := by
  obtain ⟨f, fd, F, m, b⟩ := D.ex
  exact ⟨f, fd, F, h f fd F, m, F.kp, b⟩
theorem Pm.dn {C : Cn} (h : Pm C.X.prog C.X.w C.X.K C.X.mg C.X.base x k st ps T ws g G) (hr : Room k C.X.A) (hT : T = [] ∨ T = C.T := by exact .inl rfl) : Dn C x ws g G := by
  obtain ⟨f, fd, _, F, m, kp, b⟩ := h.ex
  exact ⟨k, f, fd, ps, T, hT, F, hr, m, kp, b⟩
theorem ws_ok (h : (ws.all fun x => decide (x ≠ .ow)) = true) : ∀ i, ws.getD i .st ≠ .ow := fun i => by
  rw [List.getD_eq_getElem?_getD]
  cases e : ws[i]? with
  | none => simp
  | some x =>
    have := List.all_eq_true.mp h x (List.mem_of_getElem? e)
    simpa using this
/-- the comprehension's own block -/
theorem Dn.blk {C : Cn} (h : Dn C x ws g G) {s : Shared} {H : Hp} {sc : Scope} {cl : List (Str × Addr)} {Cc : Addr} {fp : List Addr} : Dn (C.blk s H sc cl Cc fp) x ws g G := ⟨h.ex⟩
theorem tk0 {C : Cn} {s : Shared} {H : Hp} {sc : Scope} {cl : List (Str × Addr)} {Cc : Addr} {fp : List Addr} : Takes (C.blk s H sc cl Cc fp).X (C.blk s H sc cl Cc fp).W := takes0
end
section
variable {C : Cn} {g : Gr} {o o' lo : List Ow} {elt tg iter tg1 iter1 : Expr} {ifs ifs1 : List Expr} {scope : Scope} {ow : List (Str × Nat)} {pos spos py : Pos} {P P1 : Pat} {I I1 : IF} {Ft Ft1 : TF} {Fe : EF} {vs1 : List Nat} {y : Str}
theorem ds_setLc (i : Nat) (hy : C.X.N[i]? = some y) (hyl : C.X.env.scope.names.lookup y = some .local) (hsw : swapsWith (.ListComp elt [⟨tg, iter, ifs, 0⟩] scope pos) (some (.Name y py)) spos.line C.X.env = pure true) (hc : C.X.calm = true) (hN : C.X.N.Nodup) (hi : DI C o tg iter I) (ok : BlkOk C.X.N C.X.env.scope scope ow) (hsl : ∀ i ∈ P.slots, i ∈ ow.map (·.2))
    (hb : ∀ (s : Shared) (H : Hp) (Cc : Addr) (cl : List (Str × Addr)) (fp : List Addr), PG (C.blk s H scope cl Cc fp).X tg (gP C.X.K P) ∧ DTs (C.blk s H scope cl Cc fp) o ifs Ft ∧ DE (C.blk s H scope cl Cc fp) .stable o elt Fe)
    (hs : ∀ x, foldedSetIterable iter C.X.env x = pure x := by intro _; rfl) (hl : i < o.length := by decide) : DS C g o (o.set i .ow) lo (.Assign [.Name y py] (.ListComp elt [⟨tg, iter, ifs, 0⟩] scope pos) spos) (sSet i (eLC (ow.map (·.2)) P I Ft Fe)) := by
  refine PS.imp (ps_setLc (g := gP C.X.K P) (tt := tDT (Cf C) o Ft) (te := tD (Cf C) .stable o Fe) hc hN hy hyl hsw hi ok (fun s H Cc cl fp => (hb s H Cc cl fp).1) (fun s H Cc cl fp => (hb s H Cc cl fp).2.1) (fun s H Cc cl fp => (hb s H Cc cl fp).2.2) hs) fun E σ H ⟨η, M, S, q⟩ => ?_
  obtain ⟨η', M', S', q'⟩ := RunE.step (g := .fresh) (F := eLC (ow.map (fun p : Str × Nat => p.2)) P I Ft Fe) (β := Ctl) (P := fun r => RunS C g (o.set i .ow) lo H r E) (k := fun d M' => .ok (.nx (η.set i d)) M') (Q := fun v H' => E.nx (σ.set i (some v)) H') S.e q (fun c ns fs M' q oe H' s x => q oe σ H' (S.st.trans s) x) (fun q => q) fun d M' v H' q s _ rg => q _ H' (S.set (x := .ow) (by decide) hl s rg) s.fx
  exact lc_t hsl S' q'
theorem ds_setLc2 (i : Nat) (hy : C.X.N[i]? = some y) (hyl : C.X.env.scope.names.lookup y = some .local) (hsw : swapsWith (.ListComp elt [⟨tg, iter, ifs, 0⟩, ⟨tg1, iter1, ifs1, 0⟩] scope pos) (some (.Name y py)) spos.line C.X.env = pure true) (hc : C.X.calm = true) (hN : C.X.N.Nodup) (hi : DI C o tg iter I) (ok : BlkOk C.X.N C.X.env.scope scope ow) (hsl : ∀ i ∈ P.slots, i ∈ ow.map (·.2)) (hv : ∀ i ∈ vs1, i ∈ ow.map (·.2)) (hsl1 : ∀ i ∈ P1.slots, i ∈ vs1)
    (hb : ∀ (s : Shared) (H : Hp) (Cc : Addr) (cl : List (Str × Addr)) (fp : List Addr), PG (C.blk s H scope cl Cc fp).X tg (gP C.X.K P) ∧ DTs (C.blk s H scope cl Cc fp) o ifs Ft ∧ DI (C.blk s H scope cl Cc fp) o tg1 iter1 I1 ∧ PG (C.blk s H scope cl Cc fp).X tg1 (gP C.X.K P1) ∧ DTs (C.blk s H scope cl Cc fp) o ifs1 Ft1 ∧ DE (C.blk s H scope cl Cc fp) .stable o elt Fe)
    (hs : ∀ x, foldedSetIterable iter C.X.env x = pure x := by intro _; rfl) (hs1 : ∀ env x, foldedSetIterable iter1 env x = pure x := by intro _ _; rfl) (hl : i < o.length := by decide) : DS C g o (o.set i .ow) lo (.Assign [.Name y py] (.ListComp elt [⟨tg, iter, ifs, 0⟩, ⟨tg1, iter1, ifs1, 0⟩] scope pos) spos) (sSet i (eLC2 (ow.map (·.2)) P I Ft vs1 P1 I1 Ft1 Fe)) := by
  refine PS.imp (ps_setLc2 (g := gP C.X.K P) (g1 := gP C.X.K P1) (tt := tDT (Cf C) o Ft) (wi1 := tDI (Cf C) o I1) (tt1 := tDT (Cf C) o Ft1) (te := tD (Cf C) .stable o Fe) hc hN hy hyl hsw hi ok hv (fun s H Cc cl fp => (hb s H Cc cl fp).1) (fun s H Cc cl fp => (hb s H Cc cl fp).2.1) (fun s H Cc cl fp => (hb s H Cc cl fp).2.2.1) (fun s H Cc cl fp => (hb s H Cc cl fp).2.2.2.1) (fun s H Cc cl fp => (hb s H Cc cl fp).2.2.2.2.1) (fun s H Cc cl fp => (hb s H Cc cl fp).2.2.2.2.2) hs hs1) fun E σ H ⟨η, M, S, q⟩ => ?_
  obtain ⟨η', M', S', q'⟩ := RunE.step (g := .fresh) (F := eLC2 (ow.map (fun p : Str × Nat => p.2)) P I Ft vs1 P1 I1 Ft1 Fe) (β := Ctl) (P := fun r => RunS C g (o.set i .ow) lo H r E) (k := fun d M' => .ok (.nx (η.set i d)) M') (Q := fun v H' => E.nx (σ.set i (some v)) H') S.e q (fun c ns fs M' q oe H' s x => q oe σ H' (S.st.trans s) x) (fun q => q) fun d M' v H' q s _ rg => q _ H' (S.set (x := .ow) (by decide) hl s rg) s.fx
  exact lc_t2 hsl hsl1 S' q'
end
end Tn

set_option Elab.async false
set_option linter.all false
set_option maxRecDepth 100000
set_option maxHeartbeats 4000000
namespace Tn
open PySem PySem.Spec PyProof.Rows L2

/-! ## dicts -/
def dSet : List D → List D → D → D → List D
  | k :: ks, v :: vs, key, d => (if keyB k key then d else v) :: dSet ks vs key d
  | _, _, _, _ => []
def dPutK (ks : List D) (key : D) : List D := if ks.any (fun k => keyB k key) then ks else ks ++ [key]
def dPutV (ks vs : List D) (key d : D) : List D := if ks.any (fun k => keyB k key) then dSet ks vs key d else vs ++ [d]
section
variable {K : PySem.W.Frag} {H : Hp}
theorem dSet_map : ∀ {kvs : List (Key × V)} {vs : List D} {k : Key} {d : D} {z : V}, RVs K H vs (kvs.map (·.2)) → RV K H d z → RVs K H (dSet (kvs.map fun p => kD p.1) vs (kD k) d) ((kvs.map fun kv => if kv.1 = k then (kv.1, z) else kv).map (·.2))
  | [], vs, k, d, z, h, r => by
    cases vs with
    | nil => exact RVs.nil_iff.mpr rfl
    | cons _ _ => have := RVs.length h; simp at this
  | (a, v) :: kvs, vs, k, d, z, h, r => by
    cases vs with
    | nil => have := RVs.length h; simp at this
    | cons e vs =>
      obtain ⟨w, x, e2, h1, h2⟩ := RVs.cons_iff.mp h
      simp only [List.map_cons, List.cons.injEq] at e2
      obtain ⟨rfl, rfl⟩ := e2
      simp only [List.map_cons, dSet, keyB_kD]
      have ih := dSet_map (k := k) h2 r
      by_cases hk : a = k
      · simp only [hk, decide_true, if_true]
        exact RVs.mk r ih
      · simp only [hk, decide_false, Bool.false_eq_true, if_false]
        exact RVs.mk h1 ih
theorem dAny (kvs : List (Key × V)) (k : Key) : ((kvs.map fun p => kD p.1).any fun x => keyB x (kD k)) = kvs.any fun kv => decide (kv.1 = k) := by
  rw [List.any_map]
  congr 1
  funext p
  exact keyB_kD p.1 k
theorem keys_map (kvs : List (Key × V)) (k : Key) (z : V) : (kvs.map fun kv => if kv.1 = k then (kv.1, z) else kv).map (fun p => kD p.1) = kvs.map fun p => kD p.1 := by
  rw [List.map_map]
  congr 1
  funext p
  show kD (if p.1 = k then (p.1, z) else p).1 = kD p.1
  split <;> rfl
theorem put_rv {kvs : List (Key × V)} {ks vs : List D} {k : Key} {d : D} {z : V} (e : kvs.map (fun p => kD p.1) = ks) (h : RVs K H vs (kvs.map (·.2))) (r : RV K H d z) :
    (putK kvs k z).map (fun p => kD p.1) = dPutK ks (kD k) ∧ RVs K H (dPutV ks vs (kD k) d) ((putK kvs k z).map (·.2)) := by
  subst e
  unfold putK dPutK dPutV
  rw [dAny]
  split
  · exact ⟨keys_map kvs k z, dSet_map h r⟩
  · exact ⟨by simp, by rw [List.map_append]; exact RVs.app h (RVs.mk r (RVs.nil_iff.mpr rfl))⟩
theorem put_dct {u : HO} {ks vs : List D} {xs : List V} {k : Key} {d : D} {z : V} (h : DctOf u ks xs) (hv : RVs K H vs xs) (r : RV K H d z) :
    ∃ kvs, u = .dK kvs ∧ kvs.length = ks.length ∧ DctOf (.dK (putK kvs k z)) (dPutK ks (kD k)) ((putK kvs k z).map (·.2)) ∧ RVs K H (dPutV ks vs (kD k) d) ((putK kvs k z).map (·.2)) := by
  obtain ⟨kvs, rfl, rfl, rfl⟩ := h
  obtain ⟨h1, h2⟩ := put_rv (k := k) (d := d) (z := z) rfl hv r
  exact ⟨kvs, rfl, by simp, ⟨_, rfl, h1, rfl⟩, h2⟩
end
/-! ### the store is written -/
theorem Stp.mput {K : PySem.W.Frag} {T : List (Addr × Str)} {M M1 : Mem} {H H1 : Hp} {p : Addr} {c c' : MC} {u' : HO} (s : Stp K T M H M1 H1) (e : M1 p = some c) (hu : plainO u') (h : MCat K (upd H1 p u') p c') :
    Stp K T M H (M1.set p c') (upd H1 p u') ∧ Fx H1 (upd H1 p u') := by
  obtain ⟨o, ho, nf, nt⟩ := (s.mo p c e).notFz
  have f : Fx H1 (upd H1 p u') := fun b x ex fx => (upd_ne fun z => by
    rw [z, ho] at ex
    cases ex
    exact nf fx).trans ex
  refine ⟨⟨fun b x ex q t => ?_, fun b q => ?_, fun t => ?_, fun q cq eq => ?_, fun b q => ?_, fun b q => ?_⟩, f⟩
  · have hb : b ≠ p := fun z => by
      subst z
      have k := s.kp b x ex q t
      rw [ho] at k
      cases k
      rcases q with q | q
      · rcases s.dn b (by rw [e]; simp) with z | z
        · exact z q
        · obtain ⟨ps, ez⟩ := z _ ex
          exact nt ps ez
      · exact nf q
    rw [upd_ne hb]
    exact s.kp b x ex q t
  · by_cases hb : b = p
    · subst hb
      obtain ⟨ps, ez⟩ := q _ upd_same
      subst ez
      rcases hu with ⟨_, z⟩ | ⟨_, z⟩ | ⟨_, z⟩ <;> cases z
    · exact s.th b fun o e => q o ((upd_ne hb).trans e)
  · refine Tabs.but (s.tb t) fun b x ex q => (upd_ne fun z => ?_).trans ex
    rw [z, ho] at ex
    cases ex
    have m := s.mo p c e
    cases c with
    | dct ks vs =>
      obtain ⟨xs, v, h1, ⟨_, rfl, _⟩, _⟩ := m
      rw [ho] at h1
      cases h1
      rcases q with ⟨_, q⟩ | ⟨_, q⟩ <;> cases q
    | lst ds =>
      obtain ⟨xs, h1, _⟩ := m
      rw [ho] at h1
      cases h1
      rcases q with ⟨_, q⟩ | ⟨_, q⟩ <;> cases q
  · by_cases hq : q = p
    · subst hq
      rw [Mem.set_same] at eq
      cases eq
      exact h
    · rw [Mem.set_ne _ _ hq] at eq
      have m := s.mo q cq eq
      cases cq with
      | dct ks vs =>
        obtain ⟨xs, v, h1, h2, h3⟩ := m
        exact ⟨xs, v, (upd_ne hq).trans h1, h2, RVs.fx f _ h3⟩
      | lst ds =>
        obtain ⟨xs, h1, h3⟩ := m
        exact ⟨xs, (upd_ne hq).trans h1, RVs.fx f _ h3⟩
  · by_cases hb : b = p
    · rw [hb, Mem.set_same]; simp
    · rw [Mem.set_ne _ _ hb]; exact s.dm b q
  · by_cases hb : b = p
    · rw [hb]; exact s.dn p (by rw [e]; simp)
    · rw [Mem.set_ne _ _ hb] at q; exact s.dn b q
section
variable {C : Cn} {g g1 : Gr} {o o' lo : List Ow} {H : Hp} {E : Ends} {σ : L2.St} {η : Env} {M : Mem} {e ie : Expr} {Fe Fi : EF} {pos : Pos} {ge : Gr}
theorem StR.mput {p : Addr} {c c' : MC} {u' : HO} (S : StR C.X.K C.H0 C.T C.M0 o σ H η M) (e : M p = some c) (hu : plainO u') (h : MCat C.X.K (upd H p u') p c') : StR C.X.K C.H0 C.T C.M0 o σ (upd H p u') η (M.set p c') ∧ Fx H (upd H p u') := by
  obtain ⟨s2, f⟩ := S.st.mput e hu h
  refine ⟨⟨s2, ?_, fun i d h1 h2 => ?_, S.ap, S.len⟩, f⟩
  · obtain ⟨_, _⟩ := (Stp.refl S.st.mo (T := C.T)).mput e hu h
    exact ((Stp.refl S.st.mo (T := C.T)).mput e hu h).1.tb S.tabs
  · obtain ⟨v, hv, hs⟩ := S.sl i d h1 h2
    refine ⟨v, hv, ?_⟩
    have key : ∀ a, M a = none → a ≠ p := fun a n z => by rw [z, e] at n; cases n
    cases q : o.getD i .st with
    | st => rw [q] at hs; exact RV.fx f _ hs
    | ow =>
      rw [q] at hs
      cases d with
      | lst ds =>
        obtain ⟨b, xs, eb, n0, hb, mb, r⟩ := hs
        exact ⟨b, xs, eb, n0, (upd_ne (key b mb)).trans hb, (Mem.set_ne _ _ (key b mb)).trans mb, RVs.fx f _ r⟩
      | dct ks vs =>
        obtain ⟨b, xs, w, eb, n0, hb, mb, dd, r⟩ := hs
        exact ⟨b, xs, w, eb, n0, (upd_ne (key b mb)).trans hb, (Mem.set_ne _ _ (key b mb)).trans mb, dd, RVs.fx f _ r⟩
      | _ => exact RV.fx f _ hs
    | vw =>
      rw [q] at hs
      obtain ⟨hs, h1⟩ := hs
      refine ⟨?_, h1⟩
      cases d with
      | lst ds =>
        obtain ⟨b, xs, eb, hb, r⟩ := hs
        refine ⟨b, xs, eb, ?_, RVs.fx f _ r⟩
        rcases hb with ⟨hb, mb⟩ | hb
        · exact .inl ⟨(upd_ne (key b mb)).trans hb, (Mem.set_ne _ _ (key b mb)).trans mb⟩
        · exact .inr (hb.fx f)
      | dct ks vs =>
        obtain ⟨b, xs, w, eb, hb, dd, r⟩ := hs
        refine ⟨b, xs, w, eb, ?_, dd, RVs.fx f _ r⟩
        rcases hb with ⟨hb, mb⟩ | hb
        · exact .inl ⟨(upd_ne (key b mb)).trans hb, (Mem.set_ne _ _ (key b mb)).trans mb⟩
        · exact .inr (hb.fx f)
      | _ => exact RV.fx f _ hs
/-- the dict of the store that slot i names, written -/
def mPut (M : Mem) (x k d : D) (kont : Mem → Res Ctl) : Res Ctl := match x with
  | .ref p => match M p with
    | some (.dct ks vs) => if (asKey k).isSome = true ∧ ks.length < sizeLine then kont (M.set p (.dct (dPutK ks k) (dPutV ks vs k d))) else .bad
    | _ => .bad
  | _ => .bad
theorem mPut_run {x k d : D} {kont : Mem → Res Ctl} (h : RunS C g o lo H (mPut M x k d kont) E) : ∃ p ks vs kk, x = .ref p ∧ M p = some (.dct ks vs) ∧ k = kD kk ∧ ks.length < sizeLine ∧ RunS C g o lo H (kont (M.set p (.dct (dPutK ks k) (dPutV ks vs k d)))) E := by
  unfold mPut at h
  split at h
  · split at h
    · split at h
      · rename_i hc
        obtain ⟨kk, ek⟩ := Option.isSome_iff_exists.mp hc.1
        exact ⟨_, _, _, kk, rfl, by assumption, asKey_kD ek, hc.2, h⟩
      · exact h.elim
    · exact h.elim
  · exact h.elim
def sDput (i : Nat) (Fk F : EF) : SF := fun η M => (F η M).bind fun d M1 => (eVar i η M1).bind fun x _ => (Fk η M1).bind fun k M2 => mPut M2 x k d fun M3 => .ok (.nx η) M3
/-- draw[k] = e -/
theorem ds_dput (i : Nat) {x : Str} {xp tpos : Pos} (hu : C.X.A.units + 1 < cLine) (hp : PE C.X (.Name x xp) (tVar i)) (hk : DE C g1 o ie Fi) (he : DE C .stable o e Fe) (ho : o.getD i .st = .st := by rfl)
    (hs : swapsWith e (some (.Subscript (.Name x xp) ie tpos)) pos.line C.X.env = pure false := by rfl) : DS C g o o lo (.Assign [.Subscript (.Name x xp) ie tpos] e pos) (sDput i Fi Fe) := by
  refine PS.imp (ps_dput hu hp hk he hs) fun E σ H ⟨η, M, S, q⟩ => tD_s S q fun d M1 v H1 q s1 S1 rv => ?_
  rcases eVar_ok (rfl : eVar i η M1 = _) with e1 | ⟨x, e1, e2, e3⟩
  · rw [e1] at q; exact q.elim
  · rw [e3, Res.bind_ok] at q
    obtain ⟨xv, hv, hs⟩ := S1.sl i x e1 e2
    rw [ho] at hs
    refine ⟨xv, hv, tD_s S1 q fun k M2 w H2 q s2 S2 rk => ?_⟩
    obtain ⟨p, ks, vs, kk, rfl, em, rfl, hz, q⟩ := mPut_run q
    have ex : xv = .ref p := hs
    subst ex
    have ew : w = kV kk := rv_key rk.vw.vx
    subst ew
    obtain ⟨xs, u, h1, h2, h3⟩ := S2.st.mo p _ em
    obtain ⟨kvs, rfl, hl, h4, h5⟩ := put_dct (k := kk) (d := d) (z := v) h2 h3 (RV.fx s2.fx _ rv)
    have f : Fx H2 (upd H2 p (.dK (putK kvs kk v))) := Fx.put h1 (.inr (.inl ⟨_, rfl⟩))
    obtain ⟨S3, f3⟩ := S2.mput em (u' := .dK (putK kvs kk v)) (.inr (.inl ⟨_, rfl⟩)) (c' := .dct (dPutK ks (kD kk)) (dPutV ks vs (kD kk) d)) ⟨_, _, upd_same, h4, RVs.fx f _ h5⟩
    exact ⟨p, _, rfl, DPut.k h1 (by omega), q _ _ S3 f3⟩

/-! ### displays -/
/-- {k: v, ..}, the keys constants of texts or whole numbers -/
def dsP : List (Key × D) → List D × List D → List D × List D
  | [], r => r
  | (k, d) :: l, r => dsP l (dPutK r.1 (kD k), dPutV r.1 r.2 (kD k) d)
def eDisp (ks : List Key) (Fs : List EF) : EF := fun η M => (eArgs Fs η M).bind fun ds M' => let r := dsP (ks.zip ds) ([], []); .ok (.dct r.1 r.2) M'
def kE : Key → V
  | .inl i => .int i
  | .inr s => .str s
theorem disp_pairs {ks : List Key} {Fs : List EF} {trs : List (TE × TE)} {W : WX} (hl : ks.length = Fs.length) (ht : trs = (ks.zip Fs).map fun p => (tC (kV p.1), tD C .stable o p.2)) : ∀ {σ : L2.St} {H : Hp} {η : Env} {M : Mem} {Q : List (V × V) → Hp → Prop}, StE C.X.K C.T o σ H η M →
    RunA C.X.K C.T C.W σ H M (eArgs Fs η M) (fun vs H' => Q ((ks.zip vs).map fun p => (kV p.1, p.2)) H') → tPairs trs σ H Q := by
  subst ht
  induction ks generalizing Fs with
  | nil =>
    intro σ H η M Q S q
    cases Fs with
    | nil => exact q [] H (Stp.refl S.mo) (RVs.nil_iff.mpr rfl)
    | cons _ _ => simp at hl
  | cons k ks ih =>
    intro σ H η M Q S q
    cases Fs with
    | nil => simp at hl
    | cons F Fs =>
      unfold eArgs at q
      show tC (kV k) σ H fun x H1 => tD C .stable o F σ H1 fun y H2 => tPairs _ σ H2 fun ps H3 => Q ((x, y) :: ps) H3
      refine ⟨η, M, S, ?_⟩
      cases e : F η M with
      | ok d M1 =>
        rw [e, Res.bind_ok] at q
        intro v H1 s1 r1
        refine ih (by simpa using hl) (S.stp s1) ?_
        cases e2 : eArgs Fs η M1 with
        | ok ds M2 =>
          rw [e2, Res.bind_ok] at q
          exact fun vs H2 s2 r2 => q (v :: vs) H2 (s1.trans s2) (RVs.mk (RV.fx s2.fx _ r1) r2)
        | err c ns fs M2 =>
          rw [e2] at q
          exact fun oe H2 s2 x => q oe H2 (s1.trans s2) x
        | bad => rw [e2] at q; exact q
      | err c ns fs M1 => rw [e] at q; exact q
      | bad => rw [e] at q; exact q
theorem merge_rv {K : PySem.W.Frag} {H : Hp} : ∀ (ks : List Key) {ds : List D} {vs : List V} {kvs : List (Key × V)} {as bs : List D}, RVs K H ds vs → ks.length = ds.length → kvs.map (fun p => kD p.1) = as → RVs K H bs (kvs.map (·.2)) →
    (mergeK kvs (ks.zip vs)).map (fun p => kD p.1) = (dsP (ks.zip ds) (as, bs)).1 ∧ RVs K H (dsP (ks.zip ds) (as, bs)).2 ((mergeK kvs (ks.zip vs)).map (·.2))
  | [], ds, vs, kvs, as, bs, r, hl, e, h => ⟨e, h⟩
  | k :: ks, ds, vs, kvs, as, bs, r, hl, e, h => by
    cases ds with
    | nil => simp at hl
    | cons d ds =>
      obtain ⟨v, ws, rfl, r1, r2⟩ := RVs.cons_iff.mp r
      obtain ⟨h1, h2⟩ := put_rv (k := k) (d := d) (z := v) e h r1
      exact merge_rv ks r2 (by simpa using hl) h1 h2
theorem de_disp {keys : List (Option Expr)} {values : List Expr} {ks : List Key} {Fs : List EF} (h : ∃ trs, PPs C.X pos keys values trs ∧ trs = (ks.zip Fs).map fun p => (tC (kV p.1), tD C .stable o p.2)) (hl : ks.length = Fs.length := by rfl) (h0 : keys ≠ [] := by simp)
    (h15 : ks.length ≤ 15 := by decide) (hk15 : keys.length ≤ 15 := by decide) (hall : keys.all (·.isSome) = true := by rfl) (hkl : keys.length = values.length := by rfl) : DE C .fresh o (.Dict keys values pos) (eDisp ks Fs) := by
  obtain ⟨trs, hp, ht⟩ := h
  refine PE.imp (pe_disp hp hall hkl h0 hk15) fun σ H Q ⟨η, M, S, q⟩ p hn => ?_
  have s0 : Stp C.X.K C.T M H M (upd H p (.dK [])) := Stp.laid S.mo hn
  refine disp_pairs (W := C.W) hl ht (S.stp s0) ?_
  unfold eDisp at q
  cases e : eArgs Fs η M with
  | ok ds M1 =>
    rw [e, Res.bind_ok] at q
    intro vs H1 s1 r1
    have mp : M p = none := S.mo.none_of hn
    have hp1 : H1 p = some (.dK []) := s1.kp p _ upd_same (.inl mp) (.inr fun ps z => by cases z)
    have hlv : ks.length = vs.length := by rw [hl, ← eArgs_len e, r1.length]
    have m1 : M1 p = none := s1.mnone upd_same mp fun ps z => by cases z
    have f : Fx H1 (upd H1 p (.dK (mergeK [] (ks.zip vs)))) := Fx.put hp1 (.inr (.inl ⟨_, rfl⟩))
    obtain ⟨a1, a2⟩ := merge_rv ks (kvs := []) (as := []) (bs := []) r1 (by rw [hl, ← eArgs_len e]) rfl (RVs.nil_iff.mpr rfl)
    refine ⟨hp1, ks.zip vs, rfl, by rw [List.length_zip]; omega, q _ _ (((s0.trans s1).put (nw_of hn) hp1 (.inr (.inl ⟨_, rfl⟩)) m1)) ?_⟩
    exact ⟨p, _, _, rfl, nw_of hn, upd_same, m1, ⟨_, rfl, a1, rfl⟩, RVs.fx f _ a2⟩
  | err c ns fs M1 =>
    rw [e] at q
    exact fun oe H1 s1 x => q oe H1 (s0.trans s1) x
  | bad => rw [e] at q; exact q
theorem dp_nil : ∃ trs, PPs C.X pos [] [] trs ∧ trs = (([] : List Key).zip ([] : List EF)).map fun p => (tC (kV p.1), tD C .stable o p.2) := ⟨_, pps_nil, rfl⟩
theorem dp_str {x : Str} {j : Nat} {p : Pos} {v : Expr} {F : EF} {keys : List (Option Expr)} {values : List Expr} {ks : List Key} {Fs : List EF} (hv : DE C .stable o v F) (h : ∃ trs, PPs C.X pos keys values trs ∧ trs = (ks.zip Fs).map fun p => (tC (kV p.1), tD C .stable o p.2)) :
    ∃ trs, PPs C.X pos (some (.Constant (.str x) j p) :: keys) (v :: values) trs ∧ trs = ((.inr x :: ks : List Key).zip (F :: Fs)).map fun p => (tC (kV p.1), tD C .stable o p.2) := by
  obtain ⟨trs, h, rfl⟩ := h
  exact ⟨_, pps_cons pe_str hv h, rfl⟩
def eDnew : EF := fun _ M => .ok (.dct [] []) M
theorem de_dnew : DE C .fresh o (.Dict [] [] pos) eDnew := PE.imp pe_dnewK fun σ H Q ⟨η, M, S, q⟩ p hn =>
  q (.ref p) _ (Stp.laid S.mo hn) ⟨p, [], _, rfl, nw_of hn, upd_same, S.mo.none_of hn, ⟨[], rfl, rfl, rfl⟩, RVs.nil_iff.mpr rfl⟩
end
end Tn

set_option Elab.async false
set_option linter.all false
set_option maxRecDepth 100000
set_option maxHeartbeats 4000000
namespace Tn
open PySem PySem.Spec PyProof.Rows L2

/-! ## a caught exception that is kept -/
/-- the thing at a is known from now on -/
abbrev keptO (a : Addr) (oe : Obj) : HO := .frz oe (.ext fun h => h.get? a = some oe)
section
variable {X : Cx} {pins : List (Addr × Obj)} {σ : L2.St} {H : Hp} {s : Shared}
theorem Inv.know {a : Addr} {oe : Obj} (I : Inv X pins σ H s) (e : s.heap.get? a = some oe) (n : H a = none) (hL : a ≠ X.env.locals) (hc : ∀ v, oe.data ≠ .cell v) (h0 : X.s_0.heap.get? a = none) (hp : ∀ p ∈ X.pn ++ pins, p.1 ≠ a) : Inv X pins σ (upd H a (keptO a oe)) s := by
  have ok2 : ObjOk X.prog X.w (upd H a (keptO a oe)) s.heap a (keptO a oe) := ⟨e, e, ⟨oe, e⟩, fun h1 h2 q k => k _ q⟩
  have sm : ∀ b o, H b = some o → upd H a (keptO a oe) b = some o := fun b o q => (upd_ne (ne_of_none q n)).trans q
  refine ⟨I.ok, I.os, I.bare, ⟨I.base.keep, I.base.slot, fun b o e1 e2 e3 => ?_, I.base.there, fun b xs q => sm _ _ (I.base.tups b xs q), fun b o u q => sm _ _ (I.base.frzs b o u q), fun b ps q => ?_⟩, I.loc, I.cell, (upd_ne hL.symm).trans I.free, fun x c q => ?_, fun p hm => ?_, fun b o q => ?_, I.len⟩
  · refine (upd_ne fun z => ?_).trans (I.base.free b o e1 e2 e3)
    rw [z, h0] at e1
    cases e1
  · obtain ⟨more, q2⟩ := I.base.tbls b ps q
    exact ⟨more, sm _ _ q2⟩
  · refine (upd_ne fun z => ?_).trans (I.freeC x c q)
    obtain ⟨v, o, ho, hd⟩ := I.cell x c q
    rw [z, e] at ho
    cases ho
    exact hc v hd
  · obtain ⟨p1, p2, p3⟩ := I.pin p hm
    exact ⟨p1, (upd_ne (hp p hm)).trans p2, p3⟩
  · by_cases hb : b = a
    · rw [hb, upd_same] at q
      cases q
      rw [hb]
      exact ok2
    · rw [upd_ne hb] at q
      exact (I.hok b o q).stay (fun _ _ _ z => z) (fun c z => sm _ _ z) fun c xs z => sm _ _ z
/-- what the clause asks of an exception of the body; behind the suite the exception's own thing is known -/
def wKeep (K : PySem.W.Frag) (cv : Value) (i : Nat) (ts : Addr → Value → Option Addr → TS) (Wo : WX) (En : Ends) : WX := fun cv2 dx τ G =>
  ∃ b, PySem.W.exmOne K cv2 cv = some b ∧ (b = true → ∀ a oe, G a = none → Zc cv2 dx oe → (∃ vs, oe.data = .fields vs) →
    ts a cv2 dx { nx := fun τ' G' => En.nx (τ'.set i none) (upd G' a (keptO a oe)), rt := fun v G' => En.rt v (upd G' a (keptO a oe)), bk := fun τ' G' => En.bk (τ'.set i none) (upd G' a (keptO a oe)), ct := fun τ' G' => En.ct (τ'.set i none) (upd G' a (keptO a oe)) } (τ.set i (some (.ref a))) G) ∧
    (b = false → Wo cv2 dx τ G)
theorem ps_try_keep {x n : Str} {cv : Value} {i : Nat} {body suite : List Stmt} {b₀ : Stmt} {np pos pos' : Pos} {tb : WX → TS} {ts : Addr → Value → Option Addr → TS} {Wo : WX} (hex : X.ex = []) (hst : X.stack = X.env :: X.outer) (hfr : X.env.frame = some X.env.locals) (hN : X.N.Nodup) (hi : X.N[i]? = some n) (hln : X.env.kindOf n = some .local) (hcv : Names X x cv) (tk : Takes X Wo)
    (hbo : ∀ (V : WX) (pn : List (Addr × Obj)) (xe : Value → Shared → Prop), Takes (X.tr pn xe) V → PassesOwn (model X.prog X.w) X.A X.env xe → PSs (X.tr pn xe) body (tb V))
    (hsui : ∀ (a : Addr) (oe : Obj) (cv2 : Value) (dx : Option Addr) (pn : List (Addr × Obj)), Zc cv2 dx oe → (∃ vs, oe.data = .fields vs) → PSs (X.suite a ((a, oe) :: pn)) (b₀ :: suite) (ts a cv2 dx)) :
    PS X (.Try body [.ExceptHandler (some (.Name x np)) (some n) (b₀ :: suite) pos'] [] [] pos) (fun En τ G => tb (wKeep X.K cv i ts Wo En) En τ G) := by
  refine ⟨fun qs t τ G En I0 h0 => ?_⟩
  have ok0 := I0.ok
  have hframes : X.A.frames = some (X.env :: X.outer) := by rw [ok0.frames, hst]
  have hloc0 : Loc X.env.scope n := .inl hln
  refine wpAny_Try_except ?_
  refine wpAny_mono ((hbo (wKeep X.K cv i ts Wo En) (X.pn ++ qs) (fun ev t1 => wpAny (model X.prog X.w) X.A (noteFrame ev X.env) (fun _ t2 => wpAny (model X.prog X.w) X.A (setFlight ev none) (fun _ t3 =>
    wpAny (model X.prog X.w) X.A (handleBy ev X.env [.ExceptHandler (some (.Name x np)) (some n) (b₀ :: suite) pos']) (SP X qs En) X.xe t3) X.xe t2) X.xe t1) (fun u t' xx => ?_) PassesOwn.looking).run [] t τ G En (I0.toTry _) h0) (fun fl t1 hsp => ?_) (fun _ _ z => z)
  · obtain ⟨a, B, tI, qs', τ', G', cv2, dx, rfl, JT, nbl, ups, sk, na, eos, ags, b, hb1, hyes, hno⟩ := xx
    have J0 : Inv X qs τ' G' tI := JT.ofTry ok0
    have sk2 : Sky B (X.env :: X.outer) a (Zc cv2 dx) X.env.locals t'.heap := by rw [← hst]; exact sk
    show wpAny (model X.prog X.w) X.A (noteFrame (.ref a) X.env) _ _ _
    refine Sky.land Zc.steady hframes hfr sk2 fun k3 hl3 up3 => ?_
    have J3 : Inv X qs τ' G' { t' with heap := k3 } := J0.landed nbl hl3.1 (ups.trans up3) eos ags
    obtain ⟨ob3, fs3, hob3, hzc3, hdt3⟩ := hl3.there
    have noFrame : ∀ {k : Heap} {ob : Obj} {fs : Array Value}, k.FunFrames B (X.env :: X.outer) → k.get? a = some ob → ob.data = .fields fs → a ∉ frs (X.env :: X.outer) := fun {k ob fs} ff ek dk hm => by
      obtain ⟨_, ob', ek', hnf⟩ := ff.mem hm
      rw [ek] at ek'
      cases ek'
      exact hnf _ dk
    have nfr := noFrame hl3.2.2.1 hob3 hdt3
    have nLoc : a ≠ X.env.locals := fun z => nfr (List.mem_filterMap.mpr ⟨X.env, List.mem_cons_self, by rw [hfr, z]⟩)
    have nFs : a ∉ X.fs := fun hm => by
      obtain ⟨ev, hev, q⟩ := List.mem_filterMap.mp hm
      exact nfr (List.mem_filterMap.mpr ⟨ev, List.mem_cons_of_mem _ hev, q⟩)
    have nB : B.get? a = none := hl3.2.1
    have nI : tI.heap.get? a = none := by
      cases z : tI.heap.get? a with
      | none => rfl
      | some ob =>
        have q := nbl a ob z (by rw [hst]; exact nfr)
        rw [nB] at q
        cases q
    have n0 : a ∉ X.ex → X.s_0.heap.get? a = none := fun hx => by
      cases z : X.s_0.heap.get? a with
      | none => rfl
      | some ob =>
        obtain ⟨ob', q⟩ := J0.base.there a ob z hx
        rw [nI] at q
        cases q
    have hpin : ∀ p ∈ X.pn ++ qs, p.1 ≠ a := fun p hp z => by
      have q := (J0.pin p hp).1
      rw [z, nI] at q
      cases q
    have S3 := J3.suite hob3 hdt3 na nLoc nFs
    refine wpAny_handleBy_cons (codeAny_handlers_test ?_) (by intro q; cases q)
    have lookT : PySem.W.Looks (model X.prog X.w) k3 (typeOf (.ref a)) cv2 := fun A Q E s k q => wpAny_typeOf_ref (k _ _ hob3) (by rw [hzc3.1]; exact q)
    have lookM := PySem.W.exm_one (M := model X.prog X.w) (J3.kIn) lookT hb1
    have testC : ∀ {Q : Value → Shared → Prop} {E : Value → Shared → Prop}, Q cv { t' with heap := k3 } → wpAny (model X.prog X.w) (X.A.mark (some (.ref a))) (eval (.Name x np) X.env) Q E { t' with heap := k3 } := fun {Q E} q => by
      obtain ⟨hg, hdb, hm | ⟨hm, hv, hnn⟩⟩ := hcv
      · exact ld_glob (X := X.suite a ((a, ob3) :: (X.pn ++ qs))) S3 hg hm q hdb
      · exact ld_blt (X := X.suite a ((a, ob3) :: (X.pn ++ qs))) S3 hg hm hv q hnn hdb
    refine testC (lookM.here ?_)
    cases b with
    | true =>
      refine codeAny_handlers_suite_as ?_
      refine HandSPX.lands_againZ hl3 fun k4 hl4 up4 => ?_
      have J4 : Inv X qs τ' G' { t' with heap := k4 } := J0.landed nbl hl4.1 ((ups.trans up3).trans up4) eos ags
      obtain ⟨ob4, fs4, hob4, hzc4, hdt4⟩ := hl4.there
      have S4 := J4.suite hob4 hdt4 na nLoc nFs
      refine store_ok (X := X.suite a ((a, ob4) :: (X.pn ++ qs))) (v := .ref a) S4 hN hi hloc0 rfl (fun t5 S5 => ?_) (.inr hln)
      refine wpAny_mono ((hsui a ob4 cv2 dx (X.pn ++ qs) hzc4 ⟨_, hdt4⟩).run [] t5 _ G' _ S5 (hyes rfl a ob4 na hzc4 ⟨_, hdt4⟩)) (fun fl t6 hsp => ?_) (fun _ _ z => False.elim z)
      have ends : ∀ {τ6 : L2.St} {G6 : Hp} {Q : Shared → Prop}, Inv (X.suite a ((a, ob4) :: (X.pn ++ qs))) [] τ6 G6 t6 → (∀ t7, Inv X qs (τ6.set i none) (upd G6 a (keptO a ob4)) t7 → Q t7) →
          wpAny (model X.prog X.w) X.A (do bindName X.env n .none; unbindBehindTheSuite X.env n pos') (fun _ t7 => Q t7) X.xe t6 := fun {τ6 G6 Q} S6 hq => by
        obtain ⟨p1, p2, _⟩ := S6.pin (a, ob4) (by simp)
        have J6 := S6.unsuite ok0
        have hx : a ∉ X.ex := by rw [hex]; simp
        exact gone_ok (Inv.know J6 p1 p2 nLoc (fun v z => by rw [hdt4] at z; cases z) (n0 hx) hpin) hN hi hln hq
      cases fl with
      | next =>
        obtain ⟨τ6, G6, S6, q6⟩ := hsp
        exact ends S6 fun t7 J7 => ⟨_, _, J7, q6⟩
      | brk =>
        obtain ⟨τ6, G6, S6, q6⟩ := hsp
        exact ends S6 fun t7 J7 => ⟨_, _, J7, q6⟩
      | cont =>
        obtain ⟨τ6, G6, S6, q6⟩ := hsp
        exact ends S6 fun t7 J7 => ⟨_, _, J7, q6⟩
      | ret u =>
        obtain ⟨v6, τ6, G6, S6, r6, q6⟩ := hsp
        exact ends S6 fun t7 J7 => ⟨_, _, _, J7, r6, q6⟩
    | false =>
      show wpAny _ X.A (handleBy (.ref a) X.env []) _ _ _
      refine wpAny_handleBy_nil ?_
      obtain ⟨g1, g2, g3, ob, fs, T, oT, tsT, hob, hz, hd, hone, hr⟩ := id hl3
      unfold PySem.passOn
      refine wpAny_bind (wpAny_field hob hd hone ?_)
      rw [if_neg (show ¬ ((Value.ref T == Value.none) = true) from by simp)]
      have fin0 : wpAny (model X.prog X.w) X.A (setFlight (.ref a) X.env.frame) (fun _ t4 => wpAny (model X.prog X.w) X.A (throw (.ref a) : Sem Flow) (SP X qs En) X.xe t4) X.xe { t' with heap := k3 } := by
        rw [hfr]
        refine HandSPX.setFlight_upZ hl3 fun k4 hk4 up4 => wpAny_throw (tk _ _ ?_)
        exact ⟨a, B, tI, qs, τ', G', cv2, dx, rfl, J0, nbl, (ups.trans up3).trans up4, .inr (.inr (by rw [hst]; exact hk4)), na, eos, ags, hno rfl⟩
      first
        | exact wpAny_bind (wpAny_pure (wpAny_bind fin0))
        | exact wpAny_bind fin0
  · cases fl with
    | next =>
      obtain ⟨τ', G', JT, q⟩ := hsp
      exact wpAny_execs_nil ⟨τ', G', JT.ofTry ok0, q⟩
    | brk =>
      obtain ⟨τ', G', JT, q⟩ := hsp
      exact ⟨τ', G', JT.ofTry ok0, q⟩
    | cont =>
      obtain ⟨τ', G', JT, q⟩ := hsp
      exact ⟨τ', G', JT.ofTry ok0, q⟩
    | ret u =>
      obtain ⟨v, τ', G', JT, rv, q⟩ := hsp
      exact ⟨v, τ', G', JT.ofTry ok0, rv, q⟩
end
end Tn

set_option Elab.async false
set_option linter.all false
set_option maxRecDepth 100000
set_option maxHeartbeats 4000000
namespace Tn
open PySem PySem.Spec PyProof.Rows L2

/-! ## chains of three -/
section
variable {C : Cn} {own : List Ow} {a b c d : Expr} {F G I J : EF} {pos : Pos}
/-- a op b op' (the rest, a chain of its own), b once -/
@[simp] def eCh3 (f f' f'' : D → D → Option D) (F G I J : EF) : EF := fun η M => (F η M).bind fun d1 M1 => (G η M1).bind fun d2 M2 => (Res.opt (f d1 d2) M2).bind fun k M3 =>
  onBl k ((I η M3).bind fun d3 M4 => (Res.opt (f' d2 d3) M4).bind fun k2 M5 => onBl k2 ((J η M5).bind fun d4 M6 => Res.opt (f'' d3 d4) M6) (.ok (.bl false) M5)) (.ok (.bl false) M3)
theorem onBl_run {K : PySem.W.Frag} {T : List (Addr × Str)} {W : WX} {g : Gr} {σ : L2.St} {H : Hp} {M : Mem} {d : D} {t f : Res D} {Q : VK} (h : RunE K T W g σ H M (onBl d t f) Q) : (d = .bl true ∧ RunE K T W g σ H M t Q) ∨ (d = .bl false ∧ RunE K T W g σ H M f Q) := by
  unfold onBl at h
  split at h
  · exact .inl ⟨rfl, h⟩
  · exact .inr ⟨rfl, h⟩
  · exact h.elim
theorem pe_ch3 {X : Cx} {op op' op'' : CmpOp} {r r' r'' : R2} {ta tb tc td : TE} (ho : OpR X (compareOp op) r) (ho' : OpR X (compareOp op') r') (ho'' : OpR X (compareOp op'') r'') (ha : PE X a ta) (hb : PE X b tb) (hc : PE X c tc) (hd : PE X d td)
    (hm : lastMarks [op, op', op''] [b, c, d] = false := by with_unfolding_all rfl) : PE X (.Compare a [op, op', op''] [b, c, d] pos) (fun σ H Q => ta σ H fun x H1 => tb σ H1 fun y H2 => r x y H2 fun z H3 => ∃ k, z = .bl k ∧
      (if k = true then tc σ H3 fun w H4 => r' y w H4 fun z2 H5 => ∃ k2, z2 = .bl k2 ∧ (if k2 = true then td σ H5 fun u H6 => r'' w u H6 Q else Q (.bl false) H5) else Q (.bl false) H3)) := by
  refine ⟨fun pins s σ H Q I0 h => ?_⟩
  refine Compare_chain (thn (ha.run pins s σ H _ I0 h) fun v s1 ⟨x, H1, I1, r1, q1⟩ => chain_link (thn (hb.run pins s1 σ H1 _ I1 q1) fun u s2 ⟨y, H2, I2, r2, q2⟩ =>
    thn (ho pins s2 σ H2 x y v u _ I2 r1 r2 q2) fun e s3 ⟨z, H3, I3, r3, k, ez, q3⟩ => ?_)) hm
  subst ez
  cases r3
  refine wpAny_truthy_bool ?_
  cases k with
  | false => exact ite_ff ⟨.bl false, H3, I3, rfl, q3⟩
  | true =>
    refine ite_tt (chain_link (thn (hc.run pins s3 σ H3 _ I3 q3) fun w4 s4 ⟨z4, H4, I4, r4, q4⟩ => thn (ho' pins s4 σ H4 y z4 u w4 _ I4 r2 r4 q4) fun e5 s5 ⟨z5, H5, I5, r5, k5, ez5, q5⟩ => ?_))
    subst ez5
    cases r5
    refine wpAny_truthy_bool ?_
    cases k5 with
    | false => exact ite_ff ⟨.bl false, H5, I5, rfl, q5⟩
    | true => exact ite_tt (chain_last (thn (hd.run pins s5 σ H5 _ I5 q5) fun w6 s6 ⟨z6, H6, I6, r6, q6⟩ => ho'' pins s6 σ H6 z4 z6 w4 w6 Q I6 r4 r6 q6))
theorem de_ch3 {g g1 g2 g3 g4 : Gr} {f f' f'' : D → D → Option D} {op op' op'' : CmpOp} (o : OpD C .view (compareOp op) f) (o' : OpD C .view (compareOp op') f') (o'' : OpD C g (compareOp op'') f'') (ha : DE C g1 own a F) (hb : DE C g2 own b G) (hc : DE C g3 own c I) (hd : DE C g4 own d J)
    (hm : lastMarks [op, op', op''] [b, c, d] = false := by with_unfolding_all rfl) : DE C g own (.Compare a [op, op', op''] [b, c, d] pos) (eCh3 f f' f'' F G I J) := by
  refine PE.imp (pe_ch3 o.r o'.r o''.r ha hb hc hd hm) fun σ H Q ⟨η, M, S, q⟩ => ?_
  refine RunE.step (P := fun r => RunE C.X.K C.T C.W g σ H M r Q) S q (fun c ns fs M' q => q) (fun q => q) fun d1 M1 x H1 q1 s1 S1 r1 => ?_
  refine RunE.step (P := fun r => RunE C.X.K C.T C.W g σ H M r Q) S1 q1 (fun c ns fs M' q oe H' s x => q oe H' (s1.trans s) x) (fun q => q) fun d2 M2 y H2 q2 s2 S2 r2 => ?_
  have s12 := s1.trans s2
  cases e : f d1 d2 with
  | none => rw [e] at q2; exact q2.elim
  | some k =>
    rw [e] at q2
    refine ⟨M2, d1, d2, k, s2.mo, (r1.vw.stp s2).vx, r2.vw.vx, e, fun z H3 s3 rg => ?_⟩
    have s13 := s12.trans s3
    rcases onBl_run q2 with ⟨rfl, q3⟩ | ⟨rfl, q3⟩
    · refine ⟨true, rg, ?_⟩
      rw [if_pos rfl]
      refine RunE.step (P := fun r => RunE C.X.K C.T C.W g σ H M r Q) (S2.stp s3) q3 (fun c ns fs M' q oe H' s x => q oe H' (s13.trans s) x) (fun q => q) fun d3 M4 w H4 q4 s4 S4 r4 => ?_
      have s14 := s13.trans s4
      cases e' : f' d2 d3 with
      | none => rw [e'] at q4; exact q4.elim
      | some k2 =>
        rw [e'] at q4
        refine ⟨M4, d2, d3, k2, s4.mo, (r2.vw.stp (s3.trans s4)).vx, r4.vw.vx, e', fun z2 H5 s5 rg2 => ?_⟩
        have s15 := s14.trans s5
        rcases onBl_run q4 with ⟨rfl, q5⟩ | ⟨rfl, q5⟩
        · refine ⟨true, rg2, ?_⟩
          rw [if_pos rfl]
          refine RunE.step (P := fun r => RunE C.X.K C.T C.W g σ H M r Q) (S4.stp s5) q5 (fun c ns fs M' q oe H' s x => q oe H' (s15.trans s) x) (fun q => q) fun d4 M6 u H6 q6 s6 S6 r6 => ?_
          cases e'' : f'' d3 d4 with
          | none => rw [e''] at q6; exact q6.elim
          | some dd =>
            rw [e''] at q6
            exact ⟨M6, d3, d4, dd, s6.mo, (r4.vw.stp (s5.trans s6)).vx, r6.vw.vx, e'', fun z H' st rg => q6 z H' ((s15.trans s6).trans st) (rg.back (s15.trans s6).th)⟩
        · refine ⟨false, rg2, ?_⟩
          rw [if_neg (by simp)]
          exact q5 _ H5 s15 rg_bl
    · refine ⟨false, rg, ?_⟩
      rw [if_neg (by simp)]
      exact q3 _ H3 s13 rg_bl
end

/-! ## repr of a truth value or of None -/
def bRepr : List D → Option D
  | [.bl b] => some (.str (if b then "True" else "False"))
  | [.non] => some (.str "None")
  | _ => none
section
variable {C : Cn} {g : Gr}
theorem cd_repr : CallD C g (.builtin "repr") bRepr := fun pins s σ H M vs us Q ds d I m rv h e q => by
  unfold bRepr at e
  split at e
  · rename_i b
    cases e
    obtain ⟨v, r, rfl, h1, h2⟩ := h
    obtain rfl : r = [] := h2
    obtain rfl : v = .bl b := vw_bl h1
    obtain ⟨u, rfl, ru⟩ := rv.one
    obtain rfl : u = .bool b := ru
    have hs : (if b = true then Str.ofString "True" else Str.ofString "False") = Str.ofString (if b = true then "True" else "False") := by cases b <;> rfl
    refine PySem.P.repr_of_bool ⟨.str _, H, I.tok _, ⟨_, rfl⟩, ?_⟩
    exact q _ H (Stp.refl m) rg_str
  · cases e
    obtain ⟨v, r, rfl, h1, h2⟩ := h
    obtain rfl : r = [] := h2
    obtain rfl : v = .non := h1
    obtain ⟨u, rfl, ru⟩ := rv.one
    obtain rfl : u = .none := ru
    exact PySem.P.repr_of_none ⟨.str _, H, I.tok _, ⟨_, rfl⟩, q _ H (Stp.refl m) rg_str⟩
  · cases e
end

/-! ## isinstance of a caught exception -/
/-- what is known of an own exception's class for isinstance -/
structure Xi (K : PySem.W.Frag) (cl : Addr) : Prop extends ExcC K cl where
  me : PySem.W.kitOne K (.ref cl) (.ref cl) = some true
def bIsX (cl : Addr) : D → Option D
  | .exc c [] [] => if c = cl then some (.bl true) else none
  | _ => none
def eIsX (cl : Addr) (F : EF) : EF := fun η M => (F η M).bind fun d M' => Res.opt (bIsX cl d) M'
section
variable {C : Cn} {g : Gr} {own : List Ow} {e : Expr} {F : EF} {pos p p2 : Pos} {x : Str} {cl : Addr}
def rIsX (C : Cn) (g : Gr) (cl : Addr) : List V → Hp → VK → Prop := fun vs H Q => ∃ M d d' v, vs = [v, .ref cl] ∧ MOk C.X.K M H ∧ VX C.X.K H d v ∧ bIsX cl d = some d' ∧ ∀ z H', Stp C.X.K C.T M H M H' → RG C.X.K g H M H' d' z → Q z H'
theorem cr_isX (h : Xi C.X.K cl) : CallR C.X (.builtin "isinstance") (rIsX C g cl) := fun pins s σ H vs us Q I r ⟨M, d, d', v, e1, m, hx, e2, q⟩ => by
  subst e1
  unfold bIsX at e2
  split at e2
  · rename_i c
    split at e2
    · rename_i hc
      subst hc
      cases e2
      have hx' : RV C.X.K H (.exc c [] []) v := hx
      unfold RV at hx'
      obtain ⟨a, xs, rfl, ⟨oe, dx, h1, hz, hf, hd⟩, _⟩ := hx'
      cases r with
      | cons rx rr =>
        cases rr with
        | cons rt rr =>
          cases rr
          cases rx
          cases rt
          have hget : s.heap.get? a = some oe := (I.hok a _ h1).1
          have hdx : dx = none := by
            rcases hd with ⟨e, _⟩ | ⟨d2, od, _, _, _, hne⟩
            · exact e
            · exact absurd rfl hne
          subst hdx
          obtain ⟨vs, hv⟩ := hf
          have J : PySem.W.InstAt s.heap a oe c none := by
            obtain ⟨oc, od, oda, osl⟩ := oe
            obtain ⟨h1, h2⟩ := hz
            dsimp only at h1 h2 hv
            subst h1 h2 hv
            exact ⟨hget, rfl, rfl, trivial⟩
          exact PySem.W.kia_one (PySem.W.handS_kitx_exc h.hg h.hk h.hs h.hd h.ha h.hn h.ht h.hm) I.kIn J h.me (fun z => nomatch z) fun tk => ⟨.bl true, H, I.kept (t' := tk) fun _ _ z => z, rfl, q _ H (Stp.refl m) rg_bl⟩
    · cases e2
  · cases e2
theorem de_isX {g1 : Gr} (h : DE C g1 own e F) (hX : Xi C.X.K cl) (hg : Gl C.X "isinstance") (hm : C.X.mg "isinstance" = none) (hg2 : Gl C.X x) (hm2 : C.X.mg x = some (.ref cl)) (hd2 : (x == ("__debug__" : Str)) = false := by decide)
    (he : starEach [e, .Name x p2] C.X.env = (false, eval e C.X.env) :: starEach [.Name x p2] C.X.env := by rfl) (he2 : starEach [.Name x p2] C.X.env = (false, eval (.Name x p2) C.X.env) :: starEach [] C.X.env := by rfl) (hpl : (backTo pos (starEach [.Name x p2] C.X.env)).any (·.1) = false := by rfl) :
    DE C g own (.Call (.Name "isinstance" p) [e, .Name x p2] [] pos) (eIsX cl F) := by
  have ht : PE C.X (.Name x p2) (tC (.ref cl)) := pe_glob (v := .ref cl) hg2 hm2 rfl hd2
  refine PE.imp (pe_callB (cr_isX (C := C) (g := g) hX) hg hm (by rfl) (pa_cons h (pa_cons ht pa_nil he2) he) (by decide) (by decide) he hpl) fun σ H Q ⟨η, M, S, q⟩ => ?_
  refine RunE.step (P := fun r => RunE C.X.K C.T C.W g σ H M r Q) S q (fun c ns fs M' q => q) (fun q => q) fun d M1 v H1 q s1 S1 rg => ?_
  cases ei : bIsX cl d with
  | none => rw [ei] at q; exact q.elim
  | some d' =>
    rw [ei] at q
    exact ⟨M1, d, d', v, rfl, s1.mo, rg.vw.vx, ei, fun z H' st r2 => q z H' (s1.trans st) (r2.back s1.th)⟩
end

/-! ## x[i], x[j] = e1, e2 -/
section
variable {C : Cn} {g g1 g2 : Gr} {o lo : List Ow} {e1 e2 i1 i2 : Expr} {F1 F2 I1 I2 : EF} {pos : Pos}
def sSwp (i : Nat) (I1 I2 F1 F2 : EF) : SF := fun η M => (F1 η M).bind fun d1 M1 => (F2 η M1).bind fun d2 M2 => onL i η fun _ => (I1 η M2).bind fun k1 M3 => onL i η fun ds => match dPutAt ds k1 d1 with
  | some ds' => onL i (η.set i (.lst ds')) fun _ => (I2 (η.set i (.lst ds')) M3).bind fun k2 M4 => onL i (η.set i (.lst ds')) fun ds2 => match dPutAt ds2 k2 d2 with
    | some ds'' => .ok (.nx ((η.set i (.lst ds')).set i (.lst ds''))) M4
    | none => .bad
  | none => .bad
theorem ds_swp (i : Nat) {x : Str} {xp xp2 tp1 tp2 pt p2 : Pos} {kt k2 : Nat} (hc : C.X.calm = true) (hp : PE C.X (.Name x xp) (tVar i)) (hp2 : PE C.X (.Name x xp2) (tVar i)) (h1 : DE C g1 o i1 I1) (h2 : DE C g2 o i2 I2) (he1 : DE C .stable o e1 F1) (he2 : DE C .stable o e2 F2) (ho : o.getD i .st = .ow := by rfl)
    (hs : swapsWithSole [.Tuple [.Subscript (.Name x xp) i1 tp1, .Subscript (.Name x xp2) i2 tp2] kt pt] (.Tuple [e1, e2] k2 p2) pos.line C.X.env = pure false := by rfl)
    (hw : swappedStores [.Tuple [.Subscript (.Name x xp) i1 tp1, .Subscript (.Name x xp2) i2 tp2] kt pt] (.Tuple [e1, e2] k2 p2) C.X.env = pure none := by rfl)
    (ha : (assignEach [.Tuple [.Subscript (.Name x xp) i1 tp1, .Subscript (.Name x xp2) i2 tp2] kt pt] C.X.env).map (·.2) = [assign (.Tuple [.Subscript (.Name x xp) i1 tp1, .Subscript (.Name x xp2) i2 tp2] kt pt) C.X.env] := by rfl)
    (ha1 : ∀ v, assign (.Subscript (.Name x xp) i1 tp1) C.X.env v = (do
      let ov ← holding [v] (eval (.Name x xp) C.X.env)
      let iv ← holding [v, ov] (eval i1 C.X.env)
      standAt tp1
      holding [v, ov, iv] (setItem ov iv v)
      release [v, ov, iv] []) := by intro _; rfl)
    (ha2 : ∀ v, assign (.Subscript (.Name x xp2) i2 tp2) C.X.env v = (do
      let ov ← holding [v] (eval (.Name x xp2) C.X.env)
      let iv ← holding [v, ov] (eval i2 C.X.env)
      standAt tp2
      holding [v, ov, iv] (setItem ov iv v)
      release [v, ov, iv] []) := by intro _; rfl)
    (hst : starEach [e1, e2] C.X.env = (false, eval e1 C.X.env) :: starEach [e2] C.X.env := by rfl) (hst2 : starEach [e2] C.X.env = (false, eval e2 C.X.env) :: starEach [] C.X.env := by rfl)
    (hn : (assignEach [.Subscript (.Name x xp) i1 tp1, .Subscript (.Name x xp2) i2 tp2] C.X.env).length = 2 := by rfl) (hf : (assignEach [.Subscript (.Name x xp) i1 tp1, .Subscript (.Name x xp2) i2 tp2] C.X.env).findIdx? (·.1) = none := by rfl)
    (hs1 : (assignEach [.Subscript (.Name x xp) i1 tp1, .Subscript (.Name x xp2) i2 tp2] C.X.env).map (·.2) = assign (.Subscript (.Name x xp) i1 tp1) C.X.env :: (assignEach [.Subscript (.Name x xp2) i2 tp2] C.X.env).map (·.2) := by rfl)
    (hs2 : (assignEach [.Subscript (.Name x xp2) i2 tp2] C.X.env).map (·.2) = assign (.Subscript (.Name x xp2) i2 tp2) C.X.env :: (assignEach [] C.X.env).map (·.2) := by rfl) :
    DS C g o o lo (.Assign [.Tuple [.Subscript (.Name x xp) i1 tp1, .Subscript (.Name x xp2) i2 tp2] kt pt] (.Tuple [e1, e2] k2 p2) pos) (sSwp i I1 I2 F1 F2) := by
  refine PS.imp (ps_asg (pe_tup (pa_cons he1 (pa_cons he2 pa_nil hst2) hst)) (pg_tup hc (pgs_cons (pg_sub hp h1 set_list ha1) (pgs_cons (pg_sub hp2 h2 set_list ha2) pgs_nil hs2) hs1) hn hf) hs hw ha) fun E σ H ⟨η, M, S, q⟩ => ?_
  refine tD_s S q fun d1 M1 v1 H1 q s1 S1 r1 => ?_
  refine tD_s S1 q fun d2 M2 v2 H2 q s2 S2 r2 => ?_
  refine ⟨by show 2 ≤ sizeLine; decide, fun p hpn => ?_⟩
  have st : Stp C.X.K C.T M2 H2 M2 (upd H2 p (.tup [v1, v2])) := Stp.laid S2.st.mo hpn
  have S3 := S2.stp st
  have q := q.fx st.fx
  obtain ⟨ds0, e0, q⟩ := onL_run q
  obtain ⟨a, xs0, hv, _⟩ := S3.own ho e0
  refine ⟨p, [v1, v2], rfl, SqT.of upd_same, rfl, v1, [v2], rfl, _, hv, tD_s S3 q fun k1 M3 w1 H3 q s3 S4 rk1 => ?_⟩
  obtain ⟨ds, ed, q⟩ := onL_run q
  split at q
  · rename_i ds' ep
    refine putAt_run (Hb := H) S4 ho ed hv rk1.vw (RV.fx s3.fx _ (RV.fx st.fx _ (RV.fx s2.fx _ r1))) ep fun xs' S5 f5 => ?_
    have q := q.fx f5
    obtain ⟨ds1, e1', q⟩ := onL_run q
    refine ⟨v2, [], rfl, _, hv, tD_s S5 q fun k2 M4 w2 H4 q s4 S6 rk2 => ?_⟩
    obtain ⟨ds2, ed2, q⟩ := onL_run q
    split at q
    · rename_i ds'' ep2
      refine putAt_run (Hb := H) S6 ho ed2 hv rk2.vw (RV.fx s4.fx _ (RV.fx f5 _ (RV.fx s3.fx _ (RV.fx st.fx _ r2)))) ep2 fun xs'' S7 f7 => ?_
      exact ⟨rfl, q _ _ S7 f7⟩
    · exact q.elim
  · exact q.elim
end
end Tn

set_option Elab.async false
set_option linter.all false
set_option maxRecDepth 100000
set_option maxHeartbeats 4000000
namespace Tn
open PySem PySem.Spec PyProof.Rows L2

/-! ## _law_caught(lambda: e) -/
theorem PSs.len {X : Cx} {ss : List Stmt} {t : TS} (h : PSs X ss t) : PSs X ss (fun E σ H => σ.length = X.N.length → t E σ H) := ⟨fun pins s σ H D I q => h.run pins s σ H D I (q I.len)⟩
/-- what the def that catches asks of what it is handed -/
def TTc (K : PySem.W.Frag) (CS : Addr) : (XK → Hp → VK → Prop) → Hp → VK → Prop := fun tl H Q =>
  tl (fun cls dx H1 => PySem.W.exmOne K cls (.ref CS) = some true ∧ ∀ a oe, H1 a = none → Zc cls dx oe → (∃ vs, oe.data = .fields vs) → Q (.ref a) (upd H1 a (keptO a oe))) H fun _ H1 => ∃ v : V, some (some V.non) = some (some v) ∧ Q v H1
theorem caught_gives {X : Cx} {x q ec : Str} {sg : Scope} {g CS : Addr} {cdg : Value} {j : Nat} {c1 c2 c3 c4 c5 p1 p2 p3 p4 p7 p8 p9 pa pb : Pos} (hge : sg.names.lookup ec = some .globalImplicit) (hme : X.mg ec = some (.ref CS)) (hde : (ec == ("__debug__" : Str)) = false)
    (h0 : sg.names.lookup ("work" : Str) = some .local) (h1 : sg.names.lookup ("caught" : Str) = some .local) (h2 : sg.names.lookup ("error" : Str) = some .local) :
    LamX.GivesTo X (["work", "caught", "error"] : List Str) x sg g cdg [.Assign [.Name "caught" c1] (.Constant .none j c2) c3, .Try [.Expr (.Call (.Name "work" p1) [] [] p2) p3] [.ExceptHandler (some (.Name ec p4)) (some "error") [.Assign [.Name "caught" p7] (.Name "error" p8) p9] pa] [] [] pb, .Return (some (.Name "caught" c4)) c5] "work" q (TTc X.K CS) := by
  intro f c' s H Q tl act hc h
  have hgl : Gl (cxOf C8.CX0 X.prog X.w X.K X.mg X.base (["work", "caught", "error"] : List Str) x sg g cdg X.A X.stack s H C8.E0).nox ec := hge
  have hN : (["work", "caught", "error"] : List Str).Nodup := by decide +kernel
  have key := ps_try_keep (pos := pb) (pos' := pa) (np := p4) (X := (cxOf C8.CX0 X.prog X.w X.K X.mg X.base (["work", "caught", "error"] : List Str) x sg g cdg X.A X.stack s H C8.E0).nox) (cv := .ref CS) (i := 2) (Wo := fun _ _ _ _ => False) (x := ec) (n := "error")
      (tb := fun W D σ H => ∃ Ech : XK, (∀ cls d σ' H', Ech cls d H' → W cls d σ' H') ∧ σ[0]? = some (some (.ref f)) ∧ H c' = some (LamX.CodeO c' q) ∧ tl Ech H fun _ H1 => D.nx σ H1)
      (body := [.Expr (.Call (.Name "work" p1) [] [] p2) p3]) (b₀ := .Assign [.Name "caught" p7] (.Name "error" p8) p9) (suite := []) (ts := fun a cls d E σ H => σ.length = 3 → tAsg (tVar 2) (gName 1) E σ H)
      rfl rfl rfl hN rfl h2 ⟨hgl, hde, .inl hme⟩ LamX.takes0 (fun W pn xe tk _ => ?_) (fun a oe cls d pn _ _ => ?_)
  · refine ⟨_, pss_cons (ps_set (i := 1) hN rfl (.inl h1) pe_non) (pss_cons key (pss_one (ps_ret (pe_var (i := 1) rfl (.inl h1))))), ?_⟩
    show ∃ Ech : XK, _ ∧ _ ∧ _ ∧ _
    refine ⟨fun cls dx H1 => PySem.W.exmOne X.K cls (.ref CS) = some true ∧ ∀ a oe, H1 a = none → Zc cls dx oe → (∃ vs, oe.data = .fields vs) → Q (.ref a) (upd H1 a (keptO a oe)), fun cls d σ' H' hE => ?_, rfl, hc, ?_⟩
    · refine ⟨true, hE.1, fun _ a oe na hz hf hl => ?_, fun z => by cases z⟩
      have hl : (σ'.set 2 (some (V.ref a))).length = 3 := hl
      rw [List.length_set] at hl
      match σ', hl with
      | [s0, s1, s2], _ => exact ⟨.ref a, rfl, .ref a, rfl, hE.2 a oe na hz hf⟩
    · exact h
  · refine ⟨fun pins s' σ H' D I h' => ?_⟩
    obtain ⟨Ech, hW, h1, h2, h3⟩ := h'
    have hp := act W pn xe Ech p1 p2 tk hW
    have hq := pss_one (ps_expr (pos := p3) hp)
    exact hq.run pins s' σ H' D I ⟨h1, h2, h3⟩
  · exact PSs.len (pss_one (ps_set (i := 1) hN rfl (.inl h1) (pe_var (i := 2) rfl (.inl h2))))
def eCaught (l : List Addr) (F : EF) : EF := fun η M => match F η M with
  | .ok _ M' => .ok .non M'
  | .err c [] [] M' => if l.contains c = true then .ok (.exc c [] []) M' else .bad
  | _ => .bad
section
variable {C : Cn} {own : List Ow} {F : EF}
/-- the lambda's body's surroundings -/
abbrev Cn.lam (C : Cn) (A : Around) (outer : List PySem.Env) (s : Shared) (H : Hp) (E : XK) (scope : Scope) (f c' : Addr) : Cn := { C with X := LamX.lamCx C.X A outer s H E scope f c', W := fun cls d _ H => E cls d H }
theorem extN_stp {K : PySem.W.Frag} {T : List (Addr × Str)} {M : Mem} {H H1 : Hp} (m : MOk K M H) (hT : T ≠ []) (x : LamX.ExtN H H1) (t : LamX.Tabs T H1) : Stp K T M H M H1 where
  kp := fun b o e _ n => x b o e (n.resolve_left hT)
  th := fun b q o e => by
    rcases Classical.em (∃ ps, o = .tbl ps) with z | z
    · exact z
    · exact q o (x b o e fun ps e2 => z ⟨ps, e2⟩)
  tb := fun _ => t
  mo := m.fx (fun b o e f => x b o e fun ps z => by
    subst z
    rcases f with ⟨_, f⟩ | ⟨_, _, f⟩ <;> cases f) fun p hp => by
      cases e : M p with
      | none => exact absurd e hp
      | some c =>
        obtain ⟨o, h1, _, h3⟩ := (m p c e).notFz
        rw [h1]
        exact x p o h1 h3
  dm := fun _ h => h
  dn := fun _ h => .inl h
theorem de_caught {g : Gr} {x : Str} {gf c P CS : Addr} {k : Nat} {pg : Arguments} {bg : List Stmt} {sg : Scope} {dV kV doc pm cdv ct oc : Value} {an od : Option Addr} {osl : Array (Option Value)} {params : Arguments} {body : Expr} {scope : Scope} {p lpos pos : Pos} (l : List Addr) (hl : ∀ c ∈ l, PySem.W.exmOne C.X.K (.ref c) (.ref CS) = some true)
    (hg : Gl C.X x) (hm : C.X.mg x = some (.ref gf)) (hk : PySem.W.keepIn C.X.K (.ref gf) = true) (lk : C.X.K.lookup gf = some ⟨oc, od, .func (PySem.W.fnOf x x pg bg sg dV kV doc pm an cdv ct), osl⟩) (hcg : PySem.W.codeIn C.X.K cdv x = true) (hb : L2.Binds C.X.K (PySem.W.fnOf x x pg bg sg dV kV doc pm an cdv ct) ["work"] []) (Sg : FnScope ["work", "caught", "error"] ["work"] sg)
    (hG : LamX.GivesTo C.X (["work", "caught", "error"] : List Str) x sg gf cdv bg "work" (C.X.env.qual ++ "<lambda>") (TTc C.X.K CS)) (TB : LamX.TabB C.X.base C.X.mg c P) (hcode : C.X.env.code = .ref c) (hmT : (P, C.X.env.qual ++ "<lambda>") ∈ C.T) (hu : ∀ p ∈ C.T, p.1 = P → p.2 = C.X.env.qual ++ "<lambda>") (hr : Room (k + 2) C.X.A) (L : LamX.LamS C.X.env.scope scope) (hdef : defaultsOf params C.X.env = ([], []))
    (hbind : ∀ (q : Str) (cl : List (Str × Addr)) (pm cv ctv : Value), bindArgs (PySem.W.kla_fn "<lambda>" q params body scope cl pm cv ctv) ⟨[], []⟩ = pure [])
    (hbody : ∀ (A : Around) (outer : List PySem.Env) (s : Shared) (H : Hp) (E : XK) (f c' : Addr), Room k (A.deeper (LamX.lamEnv C.X scope s.heap.objs.size f c')) → DE (C.lam A outer s H E scope f c') .view own body F)
    (hd : (x == ("__debug__" : Str)) = false := by decide) : DE C g own (.Call (.Name x p) [.Lambda params body scope lpos] [] pos) (eCaught l F) := by
  refine PE.imp (LamX.pe_lamcall (T := C.T) (TT := TTc C.X.K CS) (t := fun E => tD { C with W := fun cls d _ H => E cls d H } .view own F) hg hm hk lk hcg hb Sg rfl ((Sg.par "work" (by simp)).elim (fun z => .inl z) fun z => .inr (.inl z)) hG TB hcode hmT hu hr L hdef hbind (fun A outer s H E f c' hr => hbody A outer s H E f c' hr) hd) fun σ H Q ⟨η, M, S, q⟩ => ?_
  refine ⟨S.tabs, fun H1 ex t1 => ?_⟩
  have hT : C.T ≠ [] := fun z => by rw [z] at hmT; cases hmT
  have s1 : Stp C.X.K C.T M H M H1 := extN_stp S.mo hT ex t1
  refine ⟨η, M, S.stp s1, ?_⟩
  unfold eCaught at q
  show RunE C.X.K C.T _ .view σ H1 M (F η M) _
  cases e : F η M with
  | bad => rw [e] at q; exact q
  | ok d M' =>
    rw [e] at q
    exact fun v H2 s2 _ => ⟨.non, rfl, q .non H2 (s1.trans s2) rg_non⟩
  | err cc ns fs M' =>
    rw [e] at q
    intro oe H2 s2 xf
    split at q
    · rename_i heq
      cases heq
    · rename_i c0 M0 heq
      cases heq
      split at q
      · rename_i hc
        have hoe : oe = none := by
          rcases xf with ⟨h, _⟩ | ⟨d, xs, _, _, _, hne, _⟩
          · exact h
          · exact absurd rfl hne
        subst hoe
        refine ⟨hl _ (List.contains_iff_mem.mp hc), fun a ob na hz hf => ?_⟩
        have s3 : Stp C.X.K C.T M' H2 M' (upd H2 a (keptO a ob)) := Stp.laid s2.mo na
        refine q (.ref a) _ ((s1.trans s2).trans s3) (RG.scal (fun _ z => by cases z) (fun _ _ z => by cases z) ?_)
        unfold RV
        exact ⟨a, [], rfl, ⟨ob, none, upd_same, hz, hf, .inl ⟨rfl, rfl, rfl⟩⟩, RVs.nil_iff.mpr rfl⟩
      · exact q.elim
    · exact q.elim
end
end Tn

set_option Elab.async false
set_option linter.all false
set_option maxRecDepth 100000
set_option maxHeartbeats 4000000
namespace Tn
open PySem PySem.Spec PyProof.Rows L2

/-! ## comprehensions of dicts -/
def dcF (P : Pat) (Ft : TF) (Fk Fv : EF) (η0 : Env) : List D → List D → List D → Mem → Res (List D × List D)
  | [], ks, vs, M => .ok (ks, vs) M
  | d :: ds, ks, vs, M => onB P d η0 fun η => (Ft η M).only fun b M1 => if b = true then (Fk η M1).only fun k M2 => (Fv η M2).only fun v M3 =>
      if (asKey k).isSome = true ∧ ks.length < sizeLine then dcF P Ft Fk Fv η0 ds (dPutK ks k) (dPutV ks vs k v) M3 else .bad
    else dcF P Ft Fk Fv η0 ds ks vs M1
def eDC (ow : List Nat) (P : Pat) (I : IF) (Ft : TF) (Fk Fv : EF) : EF := fun η M => (I η M).bind fun ds M1 => (dcF P Ft Fk Fv (wipeE η ow) ds [] [] M1).only fun r M2 => .ok (.dct r.1 r.2) M2
structure DcI (K : PySem.W.Frag) (T : List (Addr × Str)) (M0 : Mem) (H0 : Hp) (E : Addr) (M : Mem) (ks vs : List D) (H : Hp) : Prop where
  stp : Stp K T M0 H0 M H
  dct : ∃ kvs : List (Key × V), H E = some (.dK kvs) ∧ kvs.map (fun p => kD p.1) = ks ∧ RVs K H vs (kvs.map (·.2))
  mn : M E = none
  n0 : Nw H0 E
section
variable {K : PySem.W.Frag} {T : List (Addr × Str)} {M0 M M1 : Mem} {H0 H H1 : Hp} {E : Addr} {ks vs : List D}
theorem DcI.step (h : DcI K T M0 H0 E M ks vs H) (s : Stp K T M H M1 H1) : DcI K T M0 H0 E M1 ks vs H1 := by
  obtain ⟨kvs, e, e2, r⟩ := h.dct
  exact ⟨h.stp.trans s, ⟨kvs, s.kp E _ e (.inl h.mn) (.inr fun ps z => by cases z), e2, RVs.fx s.fx _ r⟩, s.mnone e h.mn (fun ps z => by cases z), h.n0⟩
theorem DcI.put {k : Key} {d : D} {z : V} {kvs : List (Key × V)} (h : DcI K T M0 H0 E M ks vs H) (r : RV K H d z) (e : H E = some (.dK kvs)) : DcI K T M0 H0 E M (dPutK ks (kD k)) (dPutV ks vs (kD k) d) (upd H E (.dK (putK kvs k z))) ∧ Fx H (upd H E (.dK (putK kvs k z))) ∧ kvs.length = ks.length := by
  obtain ⟨kvs', e', e2, r'⟩ := h.dct
  rw [e] at e'
  cases e'
  have f : Fx H (upd H E (.dK (putK kvs k z))) := Fx.put e (.inr (.inl ⟨_, rfl⟩))
  obtain ⟨a1, a2⟩ := put_rv (k := k) e2 r' r
  exact ⟨⟨h.stp.put h.n0 e (.inr (.inl ⟨_, rfl⟩)) h.mn, ⟨_, upd_same, a1, RVs.fx f _ a2⟩, h.mn, h.n0⟩, f, by rw [← e2, List.length_map]⟩
end
section
variable {C : Cn} {own : List Ow}
theorem dc_t {P : Pat} {Ft : TF} {Fk Fv : EF} {I : IF} {ow : List Nat} {gk : Gr} {σ : L2.St} {H : Hp} {η : Env} {M : Mem} {Q : VK} (hsl : ∀ i ∈ P.slots, i ∈ ow) (S : StE C.X.K C.T own σ H η M) (q : RunE C.X.K C.T C.W .fresh σ H M (eDC ow P I Ft Fk Fv η M) Q) :
    tDc (tDI C own I) (gP C.X.K P) (tDT (Cf C) own Ft) (tD (Cf C) gk own Fk) (tD (Cf C) .stable own Fv) ow σ H Q := by
  refine ⟨η, M, S, ?_⟩
  unfold eDC at q
  cases e : I η M with
  | bad => rw [e] at q; exact q
  | err c ns fs M' => rw [e] at q; exact q
  | ok ds M1 =>
    rw [e, Res.bind_ok] at q
    intro J H1 s1 ⟨Y, w, y⟩ E hE
    have n0 : Nw H E := s1.th E (nw_of hE)
    have s2 : Stp C.X.K C.T M1 H1 M1 (upd H1 E (.dK [])) := Stp.laid s1.mo hE
    have L0 : DcI C.X.K C.T M H E M1 [] [] (upd H1 E (.dK [])) := ⟨s1.trans s2, ⟨[], upd_same, rfl, RVs.nil_iff.mpr rfl⟩, s1.mo.none_of hE, n0⟩
    refine loop_it w (B := fun x H' Nx => gP C.X.K P x (wipe σ ow) H' fun σ2 H2 => wipe σ2 ow = wipe σ ow ∧ tDT (Cf C) own Ft σ2 H2 fun b H3 =>
        if b = true then tD (Cf C) gk own Fk σ2 H3 fun y H4 => tD (Cf C) .stable own Fv σ2 H4 fun z H5 => ∃ kvs k, y = kV k ∧ H5 E = some (.dK kvs) ∧ kvs.length < sizeLine ∧ Nx (upd H5 E (.dK (putK kvs k z))) else Nx H3)
      (fun i H' => Fx H1 H' ∧ ∃ M' ks vs, DcI C.X.K C.T M H E M' ks vs H' ∧ RunE C.X.K C.T C.W .fresh σ H M ((dcF P Ft Fk Fv (wipeE η ow) (ds.drop i) ks vs M').only fun r M2 => .ok (.dct r.1 r.2) M2) Q)
      ⟨s2.fx, M1, [], [], L0, q⟩ (fun i H' _ p => p.1) (fun i x H' H2 hi ⟨f, M', ks, vs, L, q'⟩ hy => ?_) fun H' ⟨f, M', ks, vs, L, q'⟩ => ?_
    · obtain ⟨s3, d, hd1, r⟩ := y i H' M' x H2 hi f L.stp.mo hy
      have ed : ds.drop i = d :: ds.drop (i + 1) := by
        rw [List.drop_eq_getElem_cons hi]
        congr 1
        rw [List.getElem?_eq_getElem hi] at hd1
        exact Option.some.inj hd1
      rw [ed] at q'
      unfold dcF at q'
      have L2 := L.step s3
      cases eb : bindP P d (wipeE η ow) with
      | none => simp only [onB, eb] at q'; exact q'.elim
      | some η' =>
        simp only [onB, eb] at q'
        refine turn_g S L2.stp r eb hsl fun σ2 _ S2f => ?_
        have S2 := S2f _ _ L2.stp (Fx.refl _)
        refine ⟨η', M', S2, ?_⟩
        cases et : Ft η' M' with
        | bad => rw [et] at q'; exact q'.elim
        | err c ns fs M3 => rw [et] at q'; exact q'.elim
        | ok b M3 =>
          rw [et, Res.only_ok] at q'
          intro H3 s4
          have L3 := L2.step s4
          cases b with
          | false =>
            simp only [Bool.false_eq_true, if_false] at q' ⊢
            exact ⟨(f.trans s3.fx).trans s4.fx, M3, ks, vs, L3, q'⟩
          | true =>
            simp only [if_true] at q' ⊢
            refine ⟨η', M3, S2.stp s4, ?_⟩
            cases ek : Fk η' M3 with
            | bad => rw [ek] at q'; exact q'.elim
            | err c ns fs M4 => rw [ek] at q'; exact q'.elim
            | ok k M4 =>
              rw [ek, Res.only_ok] at q'
              intro yk H4 s5 rk
              have L4 := L3.step s5
              refine ⟨η', M4, (S2.stp s4).stp s5, ?_⟩
              cases ev : Fv η' M4 with
              | bad => rw [ev] at q'; exact q'.elim
              | err c ns fs M5 => rw [ev] at q'; exact q'.elim
              | ok v M5 =>
                rw [ev, Res.only_ok] at q'
                intro z H5 s6 rv
                have L5 := L4.step s6
                by_cases hc : (asKey k).isSome = true ∧ ks.length < sizeLine
                · rw [if_pos hc] at q'
                  obtain ⟨kk, ekk⟩ := Option.isSome_iff_exists.mp hc.1
                  have ekd := asKey_kD ekk
                  subst ekd
                  obtain ⟨kvs, hE5, _⟩ := L5.dct
                  obtain ⟨L6, f6, hl⟩ := L5.put (k := kk) rv hE5
                  exact ⟨kvs, kk, rv_key rk.vw.vx, hE5, by omega, (((f.trans s3.fx).trans s4.fx).trans (s5.fx.trans s6.fx)).trans f6, M5, _, _, L6, q'⟩
                · rw [if_neg hc] at q'
                  exact q'.elim
    · rw [List.drop_eq_nil_of_le (Nat.le_refl _)] at q'
      obtain ⟨kvs, hE5, e2, r2⟩ := L.dct
      exact q' (.ref E) H' L.stp ⟨E, _, _, rfl, L.n0, hE5, L.mn, ⟨kvs, rfl, e2, rfl⟩, r2⟩
theorem de_dc {kx vx tg iter : Expr} {ifs : List Expr} {scope : Scope} {ow : List (Str × Nat)} {pos : Pos} {P : Pat} {I : IF} {Ft : TF} {Fk Fv : EF} {gk : Gr} (hc : C.X.calm = true) (hN : C.X.N.Nodup) (hi : DI C own tg iter I) (ok : BlkOk C.X.N C.X.env.scope scope ow) (hsl : ∀ i ∈ P.slots, i ∈ ow.map (·.2))
    (hb : ∀ (s : Shared) (H : Hp) (Cc : Addr) (cl : List (Str × Addr)) (fp : List Addr), PG (C.blk s H scope cl Cc fp).X tg (gP C.X.K P) ∧ DTs (C.blk s H scope cl Cc fp) own ifs Ft ∧ DE (C.blk s H scope cl Cc fp) gk own kx Fk ∧ DE (C.blk s H scope cl Cc fp) .stable own vx Fv)
    (hs : ∀ x, foldedSetIterable iter C.X.env x = pure x := by intro _; rfl) : DE C .fresh own (.DictComp kx vx [⟨tg, iter, ifs, 0⟩] scope pos) (eDC (ow.map (·.2)) P I Ft Fk Fv) := by
  refine PE.imp (pe_dc (g := gP C.X.K P) (tt := tDT (Cf C) own Ft) (tk := tD (Cf C) gk own Fk) (tv := tD (Cf C) .stable own Fv) hc hN hi ok (fun s H Cc cl fp => (hb s H Cc cl fp).1) (fun s H Cc cl fp => (hb s H Cc cl fp).2.1) (fun s H Cc cl fp => (hb s H Cc cl fp).2.2.1) (fun s H Cc cl fp => (hb s H Cc cl fp).2.2.2) hs) fun σ H Q ⟨η, M, S, q⟩ => ?_
  exact dc_t hsl S q
end

/-! ## calls by names -/
def permL {α : Type} (idx : List Nat) (l : List α) : List α := idx.filterMap fun i => l[i]?
theorem RVs.perm {K : PySem.W.Frag} {H : Hp} {ds : List D} {vs : List V} (h : RVs K H ds vs) : ∀ idx : List Nat, RVs K H (permL idx ds) (permL idx vs)
  | [] => RVs.nil_iff.mpr rfl
  | i :: idx => by
    have ih := RVs.perm h idx
    unfold permL at ih ⊢
    rw [List.filterMap_cons, List.filterMap_cons]
    cases e : ds[i]? with
    | some d =>
      obtain ⟨v, e2, r⟩ := h.get e
      rw [e2]
      exact RVs.mk r ih
    | none =>
      have : vs[i]? = none := by
        rw [List.getElem?_eq_none_iff] at e ⊢
        rw [← h.length]; exact e
      rw [this]
      exact ih
theorem Vals.perm {vs : List V} {us : List Value} (h : Vals vs us) (idx : List Nat) : Vals (permL idx vs) (permL idx us) := by
  induction idx with
  | nil => exact .nil
  | cons i idx ih =>
    unfold permL at ih ⊢
    rw [List.filterMap_cons, List.filterMap_cons]
    cases e : vs[i]? with
    | some v =>
      obtain ⟨u, e2, r⟩ := h.get e
      rw [e2]
      exact .cons r ih
    | none =>
      have : us[i]? = none := by
        rw [List.getElem?_eq_none_iff] at e ⊢
        rw [← h.length]; exact e
      rw [this]
      exact ih
def eCallK (idx : List Nat) (G : GF) (Fs : List EF) : EF := fun η M => (eArgs Fs η M).bind fun ds M' => G (permL idx ds) M'
def DK (C : Cn) (own : List Ow) (kws : List Keyword) (Fs : List EF) : Prop := PK C.X kws (tDA C own Fs)
/-- how a call with nothing but keywords binds: ks their names in the call's sequence, idx where each parameter stands among them -/
structure Kb (K : PySem.W.Frag) (fd : FuncData) (ps ks : List Str) (idx : List Nat) : Prop where
  to : ∀ (s : Shared) (ws : List Value), K.In s.heap → (permL idx ws).length = ps.length → BindsTo s fd ⟨[], ks.zip ws⟩ (ps.zip (permL idx ws))
structure Dk (C : Cn) (x : Str) (ks : List Str) (idx : List Nat) (ws : List Ow) (g : Gr) (G : GF) : Prop where
  ex : ∃ (k : Nat) (f : Addr) (fd : FuncData) (ps : List Str) (T' : List (Addr × Str)), (T' = [] ∨ T' = C.T) ∧ FnOk C.X.prog C.X.w C.X.K C.X.mg C.X.base (L2.CX C.X.prog C.X.w) k f fd ps (spD C.X.K T' ws g G) ∧
    Room k C.X.A ∧ C.X.mg x = some (.ref f) ∧ PySem.W.keepIn C.X.K (.ref f) = true ∧ Kb C.X.K fd ps ks idx
theorem Dk.blk {C : Cn} {x : Str} {ks : List Str} {idx : List Nat} {ws : List Ow} {g : Gr} {G : GF} (h : Dk C x ks idx ws g G) {s : Shared} {H : Hp} {sc : Scope} {cl : List (Str × Addr)} {Cc : Addr} {fp : List Addr} : Dk (C.blk s H sc cl Cc fp) x ks idx ws g G := ⟨h.ex⟩
theorem Pm.dk {C : Cn} {x : Str} {k : Nat} {st : Stmt} {ps ks : List Str} {idx : List Nat} {T : List (Addr × Str)} {ws : List Ow} {g : Gr} {G : GF} (h : Pm C.X.prog C.X.w C.X.K C.X.mg C.X.base x k st ps T ws g G) (hr : Room k C.X.A)
    (hk : ∀ (kV doc pm : Value) (an : Option Addr) (cdv ct : Value) (us : List Value), (permL idx us).length = ps.length → bindArgs (PySem.W.fnOf x x (defArgs st) (defBody st) (defScope st) .none kV doc pm an cdv ct) ⟨[], ks.zip us⟩ = pure (ps.zip (permL idx us))) (hT : T = [] ∨ T = C.T := by exact .inl rfl) : Dk C x ks idx ws g G := by
  obtain ⟨f, fd, F0, F, m, kp, b⟩ := h.ex
  obtain ⟨oc, od, kV, doc, pm, an, cdv, ct, osl, rfl, lk, hcd⟩ := F0.ex
  exact ⟨k, f, _, ps, T, hT, F, hr, m, kp, ⟨fun s us _ hl => .of_eq (hk kV doc pm an cdv ct us hl)⟩⟩
section
variable {C : Cn} {own : List Ow} {e : Expr} {F : EF} {Fs : List EF} {kws : List Keyword}
theorem dk_nil : DK C own [] [] := ⟨fun pos pins s σ H Q I ⟨η, M, S, q⟩ => pk_nil.run pos pins s σ H Q I (q [] H (Stp.refl S.mo) (RVs.nil_iff.mpr rfl))⟩
theorem dk_cons {nm : Option Str} {kpos : Pos} (h : DE C .stable own e F) (hs : DK C own kws Fs) : DK C own (⟨nm, e, kpos⟩ :: kws) (F :: Fs) := by
  refine ⟨fun pos pins s σ H Q I ⟨η, M, S, q⟩ => (pk_cons h hs).run pos pins s σ H Q I ⟨η, M, S, ?_⟩⟩
  unfold eArgs at q
  cases e : F η M with
  | ok d M1 =>
    rw [e, Res.bind_ok] at q
    intro v H1 s1 r1
    refine ⟨η, M1, S.stp s1, ?_⟩
    cases e2 : eArgs Fs η M1 with
    | ok ds M2 =>
      rw [e2, Res.bind_ok] at q
      exact fun vs H2 s2 r2 => q (v :: vs) H2 (s1.trans s2) (RVs.mk (RV.fx s2.fx _ r1) r2)
    | err c ns fs M2 =>
      rw [e2] at q
      exact fun oe H2 s2 x => q oe H2 (s1.trans s2) x
    | bad =>
      rw [e2] at q
      exact q
  | err c ns fs M1 =>
    rw [e] at q
    exact q
  | bad =>
    rw [e] at q
    exact q
theorem RWs.of_rvs {K : PySem.W.Frag} {M : Mem} {H : Hp} : ∀ {ws : List Ow} {ds : List D} {vs : List V}, RVs K H ds vs → ws = List.replicate ds.length .st → RWs K M H ws ds vs
  | [], [], vs, h, _ => RVs.nil_iff.mp h
  | [], d :: ds, vs, h, e => by simp [List.replicate] at e
  | w :: ws, [], vs, h, e => by simp at e
  | w :: ws, d :: ds, vs, h, e => by
    obtain ⟨v, r, rfl, h1, h2⟩ := RVs.cons_iff.mp h
    simp only [List.length_cons, List.replicate_succ, List.cons.injEq] at e
    obtain ⟨rfl, e⟩ := e
    exact ⟨v, r, rfl, h1, RWs.of_rvs h2 e⟩
theorem de_callK {g : Gr} {G : GF} {ws : List Ow} {x : Str} {p pos : Pos} {ks : List Str} {idx : List Nat} (tk : Takes C.X C.W) (D : Dk C x ks idx ws g G) (hg : Gl C.X x) (ha : DK C own kws Fs) (hw : ws = List.replicate idx.length .st := by rfl) (hidx : (idx.all fun i => decide (i < Fs.length)) = true := by rfl)
    (hall : (backToKw pos (keywordEach kws C.X.env)).all (·.1.isSome) = true := by rfl) (hks : (backToKw pos (keywordEach kws C.X.env)).filterMap (·.1) = ks := by rfl) (hpl : ((backTo pos (starEach [] C.X.env)).any (·.1) || (backToKw pos (keywordEach kws C.X.env)).any (·.1.isNone)) = false := by rfl)
    (hdb : (x == ("__debug__" : Str)) = false := by decide) : DE C g own (.Call (.Name x p) [] kws pos) (eCallK idx G Fs) := by
  obtain ⟨k, f, fd, ps, T', hT, FO, hr, hm, hk, hb⟩ := D.ex
  refine ⟨fun pins s σ H Q I ⟨η, M, S, q⟩ => ?_⟩
  refine wpAny_Call_Name_kw (ld_glob I hg hm ?_ hdb)
  have up : ∀ {M1 M2 H1 H2}, MOk C.X.K M1 H1 → Stp C.X.K T' M1 H1 M2 H2 → Stp C.X.K C.T M1 H1 M2 H2 := fun m s => by
    rcases hT with h | h
    · subst h; exact s.toT m
    · rw [← h]; exact s
  have hsp : tDA C own Fs σ H fun zs H2 => spD C.X.K T' ws g G (permL idx zs) H2 Q (WE C.W σ) := by
    refine ⟨η, M, S, ?_⟩
    unfold eCallK at q
    cases e : eArgs Fs η M with
    | ok ds M1 =>
      rw [e, Res.bind_ok] at q
      intro vs H1 s1 r1
      have tabs' : LamX.Tabs T' H1 := by
        rcases hT with h | h
        · rw [h]; exact fun p hp => nomatch hp
        · rw [h]; exact s1.tb S.tabs
      have hlen : (permL idx ds).length = idx.length := by
        have hd := eArgs_len e
        unfold permL
        have : ∀ l : List Nat, (∀ i ∈ l, i < Fs.length) → (l.filterMap fun i => ds[i]?).length = l.length := fun l => by
          induction l with
          | nil => intro _; rfl
          | cons i l ih =>
            intro hi
            rw [List.filterMap_cons, List.getElem?_eq_getElem (by rw [hd]; exact hi i (by simp))]
            simp only [List.length_cons]
            rw [ih fun j hj => hi j (List.mem_cons_of_mem _ hj)]
        exact this idx fun i hi => by simpa using List.all_eq_true.mp hidx i hi
      refine ⟨permL idx ds, M1, RWs.of_rvs (r1.perm idx) (by rw [hlen]; exact hw), s1.mo, tabs', ?_⟩
      cases e2 : G (permL idx ds) M1 with
      | ok d M2 =>
        rw [e2] at q
        exact fun v H2 s2 rg => q v H2 (s1.trans (up s1.mo s2)) (rg.back s1.th)
      | err c ns fs M2 =>
        rw [e2] at q
        exact fun oe H2 s2 x => q oe H2 (s1.trans (up s1.mo s2)) x
      | bad =>
        rw [e2] at q
        exact q
    | err c ns fs M1 =>
      rw [e] at q
      exact q
    | bad =>
      rw [e] at q
      exact q
  refine PySem.W.callWith_KW0 (h₀ := C.X.base) I.ok.mod.kin hk hall (thn (ha.run pos pins s σ H _ I hsp) fun us s1 ⟨zs, H1, I1, rz, q1⟩ => ⟨I1.kIn, ?_⟩) hpl
  rw [hks]
  have r2 := Vals.perm rz idx
  have hl : (permL idx us).length = ps.length := by rw [← r2.length]; exact FO.len _ _ _ _ q1
  refine wpAny_call (codeAny_mono (FO.run C.X.A C.X.stack s1 H1 ⟨[], ks.zip us⟩ (permL idx us) (permL idx zs) Q (WE C.W σ) hr I1.env0 (hb.to s1 us I1.kIn hl) r2 q1) fun r s' hq => ?_)
  cases r with
  | error e => exact (passAt tk σ) pins H1 s1 e s' I1 hq
  | ok fl =>
    cases fl with
    | ret u => exact I1.after hq
    | next => exact False.elim hq
    | brk => exact False.elim hq
    | cont => exact False.elim hq
end
end Tn

set_option Elab.async false
set_option linter.all false
set_option maxRecDepth 100000
set_option maxHeartbeats 4000000
namespace Tn
open PySem PySem.Spec PyProof.Rows L2

/-- within a lambda -/
theorem Pm.dl {C : Cn} {x : Str} {k : Nat} {st : Stmt} {ps : List Str} {T : List (Addr × Str)} {ws : List Ow} {g : Gr} {G : GF} {A : Around} {outer : List PySem.Env} {s : Shared} {H : Hp} {E : XK} {scope : Scope} {f c' : Addr} (h : Pm C.X.prog C.X.w C.X.K C.X.mg C.X.base x k st ps T ws g G)
    (hr : Room k (A.deeper (LamX.lamEnv C.X scope s.heap.objs.size f c'))) (hT : T = [] ∨ T = C.T := by exact .inl rfl) : Dn (C.lam A outer s H E scope f c') x ws g G := Pm.dn (C := C.lam A outer s H E scope f c') h hr hT
theorem Pm.dlk {C : Cn} {x : Str} {k : Nat} {st : Stmt} {ps ks : List Str} {idx : List Nat} {T : List (Addr × Str)} {ws : List Ow} {g : Gr} {G : GF} {A : Around} {outer : List PySem.Env} {s : Shared} {H : Hp} {E : XK} {scope : Scope} {f c' : Addr} (h : Pm C.X.prog C.X.w C.X.K C.X.mg C.X.base x k st ps T ws g G)
    (hr : Room k (A.deeper (LamX.lamEnv C.X scope s.heap.objs.size f c'))) (hk : ∀ (kV doc pm : Value) (an : Option Addr) (cdv ct : Value) (us : List Value), (permL idx us).length = ps.length → bindArgs (PySem.W.fnOf x x (defArgs st) (defBody st) (defScope st) .none kV doc pm an cdv ct) ⟨[], ks.zip us⟩ = pure (ps.zip (permL idx us))) (hT : T = [] ∨ T = C.T := by exact .inl rfl) :
    Dk (C.lam A outer s H E scope f c') x ks idx ws g G := Pm.dk (C := C.lam A outer s H E scope f c') h hr hk hT

/-! ## the law itself -/
def noM : Mem := fun _ => none
def lawE (n : Nat) (ns : List Int) : Env := .scr (ns.map D.int) :: List.replicate (n - 1) .und
/-- what the plain law must show of a script: the drawn thing is laid at any p -/
def LawGood (n i : Nat) (Fe : EF) (FF : SF) (ns : List Int) : Prop := ∃ ks vs, Fe (lawE n ns) noM = .ok (.dct ks vs) noM ∧ ∀ p, ∃ M2, FF ((lawE n ns).set i (.ref p)) (noM.set p (.dct ks vs)) = .ok (.rt (.bl true)) M2
def spLaw (K : PySem.W.Frag) (T : List (Addr × Str)) (Good : List Int → Prop) : Sp := fun vs H Q _ => ∃ a ns, vs = [.ref a] ∧ LamX.Tabs T H ∧ SqL K H a (ns.map V.int) ∧ Good ns ∧ ∀ H', Q (.bl true) H'
section
variable {C : Cn} {g : Gr} {o o' lo : List Ow} {i : Nat} {e : Expr} {Fe : EF} {FF : SF} {pos pos' : Pos} {x : Str} {rest : List Stmt}
theorem getD_rep {n i : Nat} : (List.replicate n Ow.st).getD i .st = .st := by
  rw [List.getD_eq_getElem?_getD, List.getElem?_replicate]
  split <;> rfl
/-- the drawn dict becomes a thing of the store -/
theorem StR.share {n : Nat} {σ : L2.St} {H H1 : Hp} {η : Env} {M M1 : Mem} {ks vs : List D} {v : V} (S : StR C.X.K C.H0 C.T C.M0 (List.replicate n .st) σ H η M) (s : Stp C.X.K C.T M H M1 H1) (rg : FR C.X.K H M1 H1 (.dct ks vs) v) :
    ∃ p, v = .ref p ∧ StR C.X.K C.H0 C.T C.M0 (List.replicate n .st) (σ.set i (some v)) H1 (η.set i (.ref p)) (M1.set p (.dct ks vs)) := by
  obtain ⟨p, xs, u, rfl, n0, hp, mp, dd, r⟩ := rg
  have S1 := S.stp s
  refine ⟨p, rfl, ⟨⟨S1.st.kp, S1.st.th, S1.st.tb, fun q c eq => ?_, fun b q => ?_, fun b q => ?_⟩, S1.tabs, fun j d h1 h2 => ?_, fun j k a h1 _ _ _ => (by rw [getD_rep] at h1; cases h1), (by rw [List.length_set, List.length_set]; exact S1.len)⟩⟩
  · by_cases hq : q = p
    · subst hq
      rw [Mem.set_same] at eq
      cases eq
      exact ⟨xs, u, hp, dd, r⟩
    · rw [Mem.set_ne _ _ hq] at eq
      exact S1.st.mo q c eq
  · by_cases hb : b = p
    · rw [hb, Mem.set_same]; simp
    · rw [Mem.set_ne _ _ hb]; exact S1.st.dm b q
  · by_cases hb : b = p
    · rw [hb]; exact .inr (S.st.th p n0)
    · rw [Mem.set_ne _ _ hb] at q; exact S1.st.dn b q
  · rw [getD_rep]
    rw [List.getElem?_set] at h1 ⊢
    by_cases hij : i = j
    · subst hij
      rw [if_pos rfl] at h1 ⊢
      split at h1
      · rename_i hl
        cases h1
        exact ⟨.ref p, if_pos (show i < σ.length by rw [← S.len]; exact hl), rfl⟩
      · cases h1
    · rw [if_neg hij] at h1 ⊢
      obtain ⟨v, hv, hs⟩ := S1.sl j d h1 h2
      rw [getD_rep] at hs
      exact ⟨v, hv, hs⟩
/-- draw = e, then the rest, for every place -/
def tShare (C : Cn) (g : Gr) (n i : Nat) (o' : List Ow) (Fe : EF) (FF : SF) : TS := fun E σ H => ∃ η M, StR C.X.K C.H0 C.T C.M0 (List.replicate n .st) σ H η M ∧
  match Fe η M with
  | .ok (.dct ks vs) M1 => ∀ p, ∀ H1, RunS C g o' [] H1 (FF (η.set i (.ref p)) (M1.set p (.dct ks vs))) E
  | _ => False
theorem dss_share {n : Nat} (hN : C.X.N.Nodup) (hi : C.X.N[i]? = some x) (hx : Loc C.X.env.scope x) (he : DE C .fresh (List.replicate n .st) e Fe) (hr : DSs C g (List.replicate n .st) o' [] rest FF) (hs : swapsWith e (some (.Name x pos')) pos.line C.X.env = pure false := by rfl)
    (hf : C.X.fn x = true ∨ C.X.env.scope.names.lookup x = some .local := by first | exact .inl rfl | exact .inr rfl | assumption) : PSs C.X (.Assign [.Name x pos'] e pos :: rest) (tShare C g n i o' Fe FF) := by
  refine PSs.imp (pss_cons (ps_set hN hi hx he hs hf) hr) fun E σ H ⟨η, M, S, q⟩ => ?_
  show tD C .fresh (List.replicate n .st) Fe σ H _
  refine ⟨η, M, S.e, ?_⟩
  split at q
  · rename_i ks vs M1 ee
    rw [ee]
    intro v H1 s1 rg
    obtain ⟨p, rfl, S2⟩ := S.share (i := i) s1 rg
    exact ⟨_, _, S2, q p H1⟩
  · exact q.elim
end
section
variable {P : Program} {w : World} {K : PySem.W.Frag} {mg : Str → Option Value} {base : Heap}
theorem rvs_script {H : Hp} : ∀ ns : List Int, RVs K H (ns.map D.int) (ns.map V.int)
  | [] => RVs.nil_iff.mpr rfl
  | n :: ns => RVs.mk rfl (rvs_script ns)
theorem law_str {T : List (Addr × Str)} {N : List Str} {ns : List Int} {a : Addr} {H : Hp} (hl : 1 ≤ N.length) (t : LamX.Tabs T H) (r : ScrAt K H a (ns.map V.int)) :
    StR K H T noM (List.replicate N.length .st) (L2.start N [.ref a]) H (lawE N.length ns) noM := by
  refine ⟨Stp.refl (fun p c e => by cases e), t, fun i d h1 h2 => ?_, fun i j a h1 _ _ _ => (by rw [getD_rep] at h1; cases h1), ?_⟩
  · rw [getD_rep]
    cases i with
    | zero =>
      simp only [lawE, List.getElem?_cons_zero, Option.some.injEq] at h1
      subst h1
      refine ⟨.ref a, start_get rfl, ?_⟩
      show RV _ _ _ _
      unfold RV
      exact ⟨a, _, rfl, r, rvs_script ns⟩
    | succ i =>
      simp only [lawE, List.getElem?_cons_succ, List.getElem?_replicate] at h1
      split at h1
      · cases h1
        exact absurd rfl h2
      · cases h1
  · simp only [lawE, L2.start, List.length_append, List.length_replicate, List.length_map, List.length_cons, List.length_nil]
    omega
theorem scr_frz {H : Hp} {a : Addr} {xs : List V} (h : SqL K H a xs) : ScrAt K H a xs ∨ H a = some (.lst xs) := by
  rcases h with (h | h) | h
  · exact .inr h
  · exact .inl (.inl h)
  · exact .inl (.inr h)
theorem law_fn {st : Stmt} {f : Addr} {fd : FuncData} {N : List Str} {k : Nat} {T : List (Addr × Str)} {Fe : EF} {FF : SF} {o' : List Ow} {i : Nat} {cdv : Value} {g : Gr} (hT : ∀ p ∈ T, True) (hl : 1 ≤ N.length) (S : FnScope N ["script"] (defScope st))
    (F : ∃ (oc : Value) (od : Option Addr) (kV doc pm : Value) (an : Option Addr) (ct : Value) (osl : Array (Option Value)), fd = PySem.W.fnOf "law" "law" (defArgs st) (defBody st) (defScope st) .none kV doc pm an cdv ct ∧ K.lookup f = some ⟨oc, od, .func fd, osl⟩ ∧ PySem.W.codeIn K cdv "law" = true)
    (hb : ∀ (A : Around) (outer : List PySem.Env) (s : Shared) (H H0 : Hp) (E : XK), Room k (A.deeper (envOfC "law" (defScope st) s.heap.objs.size f cdv)) →
      PSs (cnOf P w K mg base T N "law" st f cdv A outer s H H0 noM E).X (defBody st) (tShare (cnOf P w K mg base T N "law" st f cdv A outer s H H0 noM E) g N.length i o' Fe FF)) : FnOk P w K mg base (L2.CX P w) (k + 1) f fd ["script"] (spLaw K T (LawGood N.length i Fe FF)) := by
  obtain ⟨oc, od, kV, doc, pm, an, ct, osl, rfl, lk, hcd⟩ := F
  refine fn_of lk hcd S (fun vs H Q E h => ?_) fun A outer s H vs Q E hr h => ?_
  · obtain ⟨a, ns, rfl, _⟩ := h
    rfl
  · obtain ⟨a, ns, rfl, ht, hs, ⟨ks, vs, e1, e2⟩, q⟩ := h
    have fin : ∀ H0, StR K H0 T noM (List.replicate N.length .st) (L2.start N [.ref a]) H0 (lawE N.length ns) noM →
        tShare (cnOf P w K mg base T N "law" st f cdv A outer s H H0 noM E) g N.length i o' Fe FF { nx := fun _ H' => Q .non H', rt := Q } (L2.start N [.ref a]) H0 := fun H0 S => by
      refine ⟨_, _, S, ?_⟩
      rw [e1]
      intro p H1
      obtain ⟨M2, e3⟩ := e2 p
      rw [e3]
      intro v H2 _ rg
      have : v = .bl true := by
        cases g with
        | view => exact rg
        | stable => exact rg
        | fresh => exact rg
      rw [this]
      exact q H2
    rcases scr_frz hs with r | r
    · exact ⟨_, hb A outer s H H E hr, fin H (law_str hl ht r)⟩
    · have h1 : PSs (cxOf (L2.CX P w) P w K mg base N "law" (defScope st) f cdv A outer s H E) (defBody st) (fun D σ H1 => ∃ ob, tShare (cnOf P w K mg base T N "law" st f cdv A outer s H (upd H a (.frz ob (.lst (ns.map V.int)))) noM E) g N.length i o' Fe FF D σ H1) := ⟨fun pins t σ G D I ⟨ob, h⟩ => (hb A outer s H _ E hr).run pins t σ G D I h⟩
      refine ⟨_, PSs.frz h1, .inr ⟨a, _, .inl ⟨_, rfl⟩, r, fun ob => ⟨ob, fin _ (law_str hl ?_ (.inl ⟨ob, upd_same⟩))⟩⟩⟩
      exact Tabs.but ht fun b x e c => (upd_ne fun z => by
          rw [z, r] at e
          cases e
          rcases c with ⟨_, c⟩ | ⟨_, c⟩ <;> cases c).trans e
end
end Tn

set_option Elab.async false
set_option linter.all false
set_option maxRecDepth 100000
set_option maxHeartbeats 4000000
namespace Tn
open PySem PySem.Spec PyProof.Rows L2

/-! ## from the top's facts -/
section
variable {K : PySem.W.Frag} {h : Heap} {mg : Str → Option Value} {x : Str}
theorem df_mk {st : Stmt} {ps : List Str} {f : Addr} {oc : Value} {od an : Option Addr} {osl : Array (Option Value)} {kV doc pm cdv ct : Value} (X : K.In h) (G : h.Ns mainGlobals mg) (a : PySem.W.nsIn K mainGlobals x = some (some (.ref f)))
    (l : K.lookup f = some ⟨oc, od, .func (PySem.W.fnOf x x (defArgs st) (defBody st) (defScope st) .none kV doc pm an cdv ct), osl⟩) (c : PySem.W.codeIn K cdv x = true) (k : PySem.W.keepIn K (.ref f) = true)
    (hb : ∀ (kV doc pm : Value) (an : Option Addr) (cdv ct : Value) (us : List Value), us.length = ps.length → bindArgs (PySem.W.fnOf x x (defArgs st) (defBody st) (defScope st) .none kV doc pm an cdv ct) ⟨us, []⟩ = pure (ps.zip us)) : Df K mg x st ps :=
  ⟨f, _, fun_mk l c k, PySem.W.mg_of X G a, (fun_mk l c k).binds hb⟩
theorem xc_mk {cl : Addr} (X : K.In h) (G : h.Ns mainGlobals mg) (a : PySem.W.nsIn K mainGlobals x = some (some (.ref cl))) (q : PySem.W.excIn K cl [.type "ValueError", .type "Exception", .type "BaseException", .type "object"] "ValueError.__new__" = true)
    (k : PySem.W.keepIn K (.ref cl) = true) (s : PySem.W.subIn K (.ref cl) (.type "BaseException") = some true) (t : PySem.W.typeIn K (.ref cl) = some (.type "type")) : Xc K mg x cl := ⟨q, PySem.W.mg_of X G a, k, s, t⟩
theorem c_mk {i : Int} {t : Tok} (X : K.In h) (G : h.Ns mainGlobals mg) (a : PySem.W.nsIn K mainGlobals x = some (some (.int i t))) : ∃ t, mg x = some (.int i t) := ⟨t, PySem.W.mg_of X G a⟩
theorem tabs_mk {P : Addr} {q : Str} {H : Hp} (e : H P = some (.tbl #[])) : LamX.Tabs [(P, q)] H := fun p hp => by
  rw [List.mem_singleton.mp hp]
  refine ⟨#[], e, ?_, fun pos cv hc => ?_⟩
  · trivial
  · cases hc
theorem xi_mk {cl : Addr} (hg : PySem.W.findIn K (.ref cl) "__getattribute__" = some (some (.builtin "BaseException.__getattribute__"))) (hk : PySem.W.findIn K (.ref cl) "__getattr__" = some none) (hs : PySem.W.subIn K (.ref cl) (.type "BaseException") = some true) (hd : PySem.W.hasDictIn K cl = true)
    (ha : PySem.W.findIn K (.ref cl) "__class__" = some (some (.builtin "object.__class__"))) (hn : PySem.W.specialIn K (.builtin "object.__class__") "__get__" = some (some (.builtin "getset_descriptor.__get__"))) (ht : PySem.W.takesIn K (.builtin "object.__class__") = some true) (hm : PySem.W.mroIn K cl (.type "object") = some true) (me : PySem.W.kitOne K (.ref cl) (.ref cl) = some true) : Xi K cl :=
  ⟨⟨hg, hk, hs, hd, ha, hn, ht, hm⟩, me⟩
/-- the end: a law that makes lambdas -/
theorem at_mk {l : PySem.W.OpenLaw} {w : World} {fa c P0 : Addr} {st : Stmt} {oc : Value} {od an : Option Addr} {osl : Array (Option Value)} {kV doc pm ct : Value} {k : Nat} {T : List (Addr × Str)} {Good : List Int → Prop} {q : Str} (X : K.In h) (G : h.Ns mainGlobals mg) (hfa : mg "law" = some (.ref fa))
    (hP : h.get? P0 = some (PySem.W.tabObj #[])) (nP : K.lookup P0 = none) (hc : PySem.W.codeHdIn K c P0 = true) {fl : Addr} (a4 : PySem.W.nsIn K mainGlobals "law" = some (some (.ref fl)))
    (l4 : K.lookup fl = some ⟨oc, od, .func (PySem.W.fnOf "law" "law" (defArgs st) (defBody st) (defScope st) .none kV doc pm an (.ref c) ct), osl⟩) (c4 : PySem.W.codeIn K (.ref c) "law" = true) (hb : ∀ (s : Shared) (u : Value), BindsTo s (PySem.W.fnOf "law" "law" (defArgs st) (defBody st) (defScope st) .none kV doc pm an (.ref c) ct) ⟨[u], []⟩ [("script", u)])
    (hT : T = [(P0, q)]) (hg : ∀ ns : List Int, ns.length ≤ 63 → (∀ z ∈ ns, Builtin.Int.intBits z ≤ 1048576) → Good ns)
    (F : ∀ (base : Heap) (fd : FuncData), LamX.TabB base mg c P0 → (∃ (oc : Value) (od : Option Addr) (kV doc pm : Value) (an : Option Addr) (ct : Value) (osl : Array (Option Value)), fd = PySem.W.fnOf "law" "law" (defArgs st) (defBody st) (defScope st) .none kV doc pm an (.ref c) ct ∧ K.lookup fl = some ⟨oc, od, .func fd, osl⟩ ∧ PySem.W.codeIn K (.ref c) "law" = true) → FnOk l.prog w K mg base (L2.CX l.prog w) k fl fd ["script"] (spLaw K T Good)) :
    LamX.LawAtS l w K (L2.CX l.prog w) k 63 "script" mg fa h := by
  have e := hfa.symm.trans (PySem.W.mg_of X G a4)
  cases e
  refine ⟨_, [(c, P0)], spLaw K T Good, fun p hp => ?_, fun p hp => ?_, fun p hp => ?_, hb, fun H a ns hl hbits ht hs => ?_, fun base hK hN hTB => F base _ (hTB (c, P0) (List.mem_singleton.mpr rfl)) ⟨oc, od, kV, doc, pm, an, ct, osl, rfl, l4, c4⟩⟩
  · rw [List.mem_singleton.mp hp]; exact hP
  · rw [List.mem_singleton.mp hp]; exact nP
  · rw [List.mem_singleton.mp hp]; exact PySem.W.codeHd_of_K X hc
  · subst hT
    exact ⟨a, ns, rfl, tabs_mk (ht (c, P0) (List.mem_singleton.mpr rfl)), hs, hg ns hl hbits, fun _ => rfl⟩
end
theorem cx_no {l : PySem.W.OpenLaw} (w : World) (H : Hp) (s : Shared) (e : Value) (s' : Shared) : L2.CX l.prog w [] H s (fun _ _ _ => False) e s' → False := fun h => by
  obtain ⟨_, _, _, _, _, _, _, _, _, _, _, _, z⟩ := h
  exact z
end Tn

set_option Elab.async false
set_option linter.all false
set_option maxRecDepth 100000
set_option maxHeartbeats 4000000
namespace Tn
open PySem PySem.Spec PyProof.Rows L2
/-! ## whatever can be gone through -/
@[simp] def dItr : D → Option (List D)
  | .lst ds => some ds
  | .scr ds => some ds
  | .tup ds => some ds
  | .dct ks _ => some ks
  | _ => none
theorem PI.or {X : Cx} {tg e : Expr} {t1 t2 t' : TI} (h1 : PI X tg e t1) (h2 : PI X tg e t2) (i : ∀ σ H Q, t' σ H Q → t1 σ H Q ∨ t2 σ H Q) : PI X tg e t' :=
  ⟨fun pins s σ H Q I q => (i σ H Q q).elim (h1.run pins s σ H Q I) (h2.run pins s σ H Q I)⟩
section
variable {C : Cn} {own : List Ow} {tg e : Expr} {F : EF}
theorem di_any (h : DE C .stable own e F) : DI C own tg e (iOf dItr F) := by
  refine PI.or (PI.or (di_list (tg := tg) h) (di_tup (tg := tg) h) (t' := fun σ H R => tDI C own (iOf dLst F) σ H R ∨ tDI C own (iOf dTup F) σ H R) fun σ H Q q => q) (di_keys (tg := tg) h) fun σ H R ⟨η, M, S, q⟩ => ?_
  unfold iOf at q
  cases er : F η M with
  | err c ns fs M' =>
    rw [er] at q
    exact .inl (.inl ⟨η, M, S, by unfold iOf; rw [er]; exact q⟩)
  | bad =>
    rw [er] at q
    exact q.elim
  | ok d M' =>
    rw [er] at q
    cases d with
    | lst ds => exact .inl (.inl ⟨η, M, S, by unfold iOf; rw [er]; exact q⟩)
    | scr ds => exact .inl (.inl ⟨η, M, S, by unfold iOf; rw [er]; exact q⟩)
    | tup ds => exact .inl (.inr ⟨η, M, S, by unfold iOf; rw [er]; exact q⟩)
    | dct ks vs => exact .inr ⟨η, M, S, by unfold iOf; rw [er]; exact q⟩
    | und => exact q.elim
    | non => exact q.elim
    | bl _ => exact q.elim
    | int _ => exact q.elim
    | str _ => exact q.elim
    | ref _ => exact q.elim
    | exc _ _ _ => exact q.elim
end
end Tn

set_option Elab.async false
set_option linter.all false
set_option maxRecDepth 100000
set_option maxHeartbeats 4000000
namespace Tn
open PySem PySem.Spec PyProof.Rows L2
/-! ## reckoning with what code tells -/
@[simp] def fnK : Ctl → Mem → Res D
  | .nx _, M => .ok .non M
  | .rt d, M => .ok d M
  | _, _ => .bad
@[simp] theorem fnF_eq (n : Nat) (F : SF) (ds : List D) (M : Mem) : fnF n F ds M = (F (ds ++ List.replicate (n - ds.length) .und) M).bind fnK := by
  unfold fnF
  congr 1
  funext c m
  cases c <;> rfl
@[simp] theorem Res.bind_ite {α β : Type} (c : Prop) [Decidable c] (x y : Res α) (k : α → Mem → Res β) : (if c then x else y).bind k = if c then x.bind k else y.bind k := by split <;> rfl
@[simp] theorem Res.only_ite {α β : Type} (c : Prop) [Decidable c] (x y : Res α) (k : α → Mem → Res β) : (if c then x else y).only k = if c then x.only k else y.only k := by split <;> rfl
@[simp] theorem Res.opt_some {α : Type} (x : α) (m : Mem) : Res.opt (some x) m = .ok x m := rfl
@[simp] theorem Res.opt_none {α : Type} (m : Mem) : Res.opt (none : Option α) m = .bad := rfl
@[simp] theorem Res.opt_ite {α : Type} (c : Prop) [Decidable c] (x y : Option α) (m : Mem) : Res.opt (if c then x else y) m = if c then Res.opt x m else Res.opt y m := by split <;> rfl
@[simp] theorem onBl_b {α : Type} (b : Bool) (t f : Res α) : onBl (.bl b) t f = if b = true then t else f := by cases b <;> rfl
section
variable {i j : Int} {x y : Str} {b : Bool} {ds es ks : List D} {p : Addr} {M : Mem} {c : Addr} {ns : List Str} {n : Nat} {η : Env} {d : D}
@[simp] theorem isU_non : isU .non = false := rfl
@[simp] theorem isU_und : isU .und = true := rfl
@[simp] theorem isU_bl : isU (.bl b) = false := rfl
@[simp] theorem isU_int : isU (.int i) = false := rfl
@[simp] theorem isU_str : isU (.str x) = false := rfl
@[simp] theorem isU_tup : isU (.tup ds) = false := rfl
@[simp] theorem isU_lst : isU (.lst ds) = false := rfl
@[simp] theorem isU_dct : isU (.dct ks ds) = false := rfl
@[simp] theorem isU_ref : isU (.ref p) = false := rfl
@[simp] theorem isU_exc : isU (.exc c ns ds) = false := rfl
@[simp] theorem isU_scr : isU (.scr ds) = false := rfl
theorem eVar_at (n : Nat) (η : Env) (M : Mem) : eVar n η M = match (η[n]? : Option D) with
  | some d => if isU d = true then .bad else .ok d M
  | none => .bad := by unfold eVar; rfl
@[simp] theorem eVar_0 {r : Env} : eVar 0 (d :: r) M = if isU d = true then .bad else .ok d M := rfl
@[simp] theorem eVar_s {r : Env} : eVar (n + 1) (d :: r) M = eVar n r M := rfl
@[simp] theorem eVar_2 {r : Env} : eVar 1 (d :: r) M = eVar 0 r M := rfl
@[simp] theorem dBl_b : dBl (.bl b) = some b := rfl
@[simp] theorem dTru_non : dTru .non = some false := rfl
@[simp] theorem dTru_bl : dTru (.bl b) = some b := rfl
@[simp] theorem dTru_int : dTru (.int i) = some (i != 0) := rfl
@[simp] theorem dTru_tup : dTru (.tup ds) = some (!ds.isEmpty) := rfl
@[simp] theorem dTru_lst : dTru (.lst ds) = some (!ds.isEmpty) := rfl
@[simp] theorem dTup_t : dTup (.tup ds) = some ds := rfl
@[simp] theorem dLst_l : dLst (.lst ds) = some ds := rfl
@[simp] theorem dLst_s : dLst (.scr ds) = some ds := rfl
@[simp] theorem deref_ref : deref M (.ref p) = mcD p (M p) := rfl
@[simp] theorem deref_non : deref M .non = .non := rfl
@[simp] theorem deref_bl : deref M (.bl b) = .bl b := rfl
@[simp] theorem deref_int : deref M (.int i) = .int i := rfl
@[simp] theorem deref_str : deref M (.str x) = .str x := rfl
@[simp] theorem deref_tup : deref M (.tup ds) = .tup ds := rfl
@[simp] theorem deref_lst : deref M (.lst ds) = .lst ds := rfl
@[simp] theorem deref_dct : deref M (.dct ks ds) = .dct ks ds := rfl
@[simp] theorem deref_scr : deref M (.scr ds) = .scr ds := rfl
@[simp] theorem mcD_dct : mcD p (some (.dct ks ds)) = .dct ks ds := rfl
@[simp] theorem mcD_lst : mcD p (some (.lst ds)) = .lst ds := rfl
@[simp] theorem bLen_lst : bLen [.lst ds] = some (.int ds.length) := rfl
@[simp] theorem bLen_tup : bLen [.tup ds] = some (.int ds.length) := rfl
@[simp] theorem bLen_scr : bLen [.scr ds] = some (.int ds.length) := rfl
@[simp] theorem dAdd_int : dAdd (.int i) (.int j) = some (.int (i + j)) := rfl
@[simp] theorem dAdd_lst : dAdd (.lst ds) (.lst es) = if ds.length + es.length ≤ sizeLine then some (.lst (ds ++ es)) else none := rfl
@[simp] theorem dAdd_tup : dAdd (.tup ds) (.tup es) = if ds.length + es.length ≤ sizeLine then some (.tup (ds ++ es)) else none := rfl
@[simp] theorem dSub_int : dSub (.int i) (.int j) = some (.int (i - j)) := rfl
@[simp] theorem dLt_int : dLt (.int i) (.int j) = some (.bl (decide (i < j))) := rfl
@[simp] theorem dLe_int : dLe (.int i) (.int j) = some (.bl (decide (i ≤ j))) := rfl
@[simp] theorem dGt_int : dGt (.int i) (.int j) = some (.bl (decide (j < i))) := rfl
@[simp] theorem dGe_int : dGe (.int i) (.int j) = some (.bl (decide (j ≤ i))) := rfl
@[simp] theorem onL_0 {r : Env} {k : List D → Res Ctl} : onL 0 (.lst ds :: r) k = k ds := Eq.trans rfl rfl
@[simp] theorem onL_1 {r : Env} {e : D} {k : List D → Res Ctl} : onL 1 (e :: r) k = onL 0 r k := rfl
@[simp] theorem onL_s {r : Env} {e : D} {k : List D → Res Ctl} : onL (n + 1) (e :: r) k = onL n r k := rfl
/-- which type a value has -/
@[simp] theorem isTy_tup {T : String} : isTy T (.tup ds) = some (.bl ("tuple" == T || (T == "int" && "tuple" == "bool"))) := rfl
@[simp] theorem isTy_lst {T : String} : isTy T (.lst ds) = some (.bl ("list" == T || (T == "int" && "list" == "bool"))) := rfl
@[simp] theorem isTy_int {T : String} : isTy T (.int i) = some (.bl ("int" == T || (T == "int" && "int" == "bool"))) := rfl
@[simp] theorem isTy_bl {T : String} : isTy T (.bl b) = some (.bl ("bool" == T || (T == "int" && "bool" == "bool"))) := rfl
@[simp] theorem isTy_str {T : String} : isTy T (.str x) = some (.bl ("str" == T || (T == "int" && "str" == "bool"))) := rfl
@[simp] theorem isTy_non {T : String} : isTy T .non = some (.bl ("NoneType" == T || (T == "int" && "NoneType" == "bool"))) := rfl
end
theorem fmod_pos {i n : Int} (h : 0 < n) : i.fmod n = i % n := Int.fmod_eq_emod_of_nonneg i (Int.le_of_lt h)
theorem fdiv_pos {i n : Int} (h : 0 < n) : i.fdiv n = i / n := Int.fdiv_eq_ediv_of_nonneg i (Int.le_of_lt h)
theorem ixN_nat {n i : Nat} (h : i < n) : ixN n (i : Int) = some i := by
  unfold ixN
  rw [if_pos (by omega), if_pos (by omega)]
  rfl
@[simp] theorem dIx_tup0 (d : D) (l : List D) : dIx (.tup (d :: l)) (.int 0) = some d := by
  show (ixN (d :: l).length ((0 : Nat) : Int)).bind _ = _
  rw [ixN_nat (by simp)]
  rfl
@[simp] theorem dIx_tup1 (d e : D) (l : List D) : dIx (.tup (d :: e :: l)) (.int 1) = some e := by
  show (ixN (d :: e :: l).length ((1 : Nat) : Int)).bind _ = _
  rw [ixN_nat (by simp)]
  rfl
theorem dIx_lst {l : List D} {i : Nat} {d : D} (h : l[i]? = some d) : dIx (.lst l) (.int (i : Int)) = some d := by
  show (ixN l.length (i : Int)).bind _ = _
  rw [ixN_nat (List.getElem?_eq_some_iff.mp h).1]
  exact h
@[simp] theorem dNe_int (i j : Int) : dNe (.int i) (.int j) = some (.bl (!decide (i = j))) := by
  have : (i == j) = decide (i = j) := by by_cases h : i = j <;> simp [h]
  simp [dNe, cmpOk, flat, dep, eqD, this]
@[simp] theorem dEq_int (i j : Int) : dEq (.int i) (.int j) = some (.bl (decide (i = j))) := by
  have : (i == j) = decide (i = j) := by by_cases h : i = j <;> simp [h]
  simp [dEq, cmpOk, flat, dep, eqD, this]
/-- not what a list is gone through by, as long as no turn ends it: what is in the slots -/
theorem forF_nx {P : Pat} {B : SF} {Inv : Nat → Env → Mem → Prop} : ∀ {ds : List D} {η : Env} {M : Mem} {i : Nat}, Inv i η M → (∀ (j : Nat) (d : D) (η : Env) (M : Mem), ds[j]? = some d → Inv (i + j) η M → ∃ η1 η2 M2, bindP P d η = some η1 ∧ (B η1 M = .ok (.nx η2) M2 ∨ B η1 M = .ok (.ct η2) M2) ∧ Inv (i + j + 1) η2 M2) → ∃ η' M', forF P B ds η M = .ok (.nx η') M' ∧ Inv (i + ds.length) η' M'
  | [], η, M, i, h, _ => ⟨η, M, rfl, h⟩
  | d :: ds, η, M, i, h, hs => by
    obtain ⟨η1, η2, M2, e1, e2, h2⟩ := hs 0 d η M rfl h
    obtain ⟨η', M', e3, h3⟩ := forF_nx (ds := ds) (i := i + 1) h2 fun j d' η M hj hi => by
      obtain ⟨x1, x2, x3, a1, a2, a3⟩ := hs (j + 1) d' η M (by simpa using hj) (by rw [show i + (j + 1) = i + 1 + j by omega]; exact hi)
      exact ⟨x1, x2, x3, a1, a2, by rw [show i + 1 + j + 1 = i + (j + 1) + 1 by omega]; exact a3⟩
    refine ⟨η', M', ?_, by rw [List.length_cons, show i + (ds.length + 1) = i + 1 + ds.length by omega]; exact h3⟩
    simp only [forF, onB, e1]
    rcases e2 with e2 | e2 <;> rw [e2] <;> exact e3
end Tn

set_option Elab.async false
set_option linter.all false
set_option maxRecDepth 100000
set_option maxHeartbeats 4000000
namespace Tn
open PySem PySem.Spec PyProof.Rows L2
/-! ## ties, webs, whole numbers: as trees; sorting; comprehensions -/
def tieD (p : Int × Int) : D := .tup [.int p.1, .int p.2]
def tle (p q : Int × Int) : Bool := decide (p.1 < q.1 ∨ (p.1 = q.1 ∧ p.2 ≤ q.2))
theorem leD_tie (p q : Int × Int) : leD (tieD p) (tieD q) = tle p q := congrFun (congrFun (PySem.W.dataLe_ii (β := Int × Int) (·.1) (·.2)) p) q
theorem leD_int (i j : Int) : leD (.int i) (.int j) = decide (i ≤ j) := congrFun (congrFun (PySem.W.dataLe_int (β := Int) id) i) j
theorem flats_map {α : Type} {f : α → D} (h : ∀ x, flat (f x) = true) : ∀ l : List α, flats (l.map f) = true
  | [] => rfl
  | x :: l => by simp only [List.map_cons, flats, h, flats_map h l, Bool.and_self]
theorem deps_map {α : Type} {f : α → D} {k : Nat} (h : ∀ x, dep (f x) ≤ k) : ∀ l : List α, deps (l.map f) ≤ k
  | [] => Nat.zero_le _
  | x :: l => by simp only [List.map_cons, deps]; exact Nat.max_le.mpr ⟨h x, deps_map h l⟩
theorem srtOk_map {α : Type} {f : α → D} (h1 : ∀ x, flat (f x) = true) (h2 : ∀ x, dep (f x) ≤ 60) (h3 : ∀ x y, PySem.W.alike (toPy (f x)) (toPy (f y)) = true) (h4 : (∀ x, tupD (f x) = true) ∨ ∀ x, notTN (f x) = true) (l : List α) : srtOk (l.map f) = true := by
  have hd : deps (l.map f) ≤ 64 := Nat.le_trans (deps_map h2 l) (by omega)
  simp only [srtOk, flats_map h1, hd, decide_true, Bool.and_self, Bool.true_and, List.all_map, Bool.and_eq_true, List.all_eq_true, Bool.or_eq_true, Function.comp]
  refine ⟨fun x _ y _ => h3 x y, ?_⟩
  rcases h4 with h | h
  · exact .inl fun x _ => h x
  · exact .inr fun x _ => h x
@[simp] theorem isU_tie (p : Int × Int) : isU (tieD p) = false := rfl
@[simp] theorem deref_tie (M : Mem) (p : Int × Int) : deref M (tieD p) = tieD p := rfl
@[simp] theorem tie0 (p : Int × Int) : dIx (tieD p) (.int 0) = some (.int p.1) := dIx_tup0 _ _
@[simp] theorem tie1 (p : Int × Int) : dIx (tieD p) (.int 1) = some (.int p.2) := dIx_tup1 _ _ _
theorem flat_tie (p : Int × Int) : flat (tieD p) = true := rfl
theorem dep_tie (p : Int × Int) : dep (tieD p) = 1 := rfl
theorem sorted_ties (l : List (Int × Int)) : bSorted [.lst (l.map tieD)] = some (.lst ((l.mergeSort tle).map tieD)) := by
  have h : srtOk (l.map tieD) = true := srtOk_map flat_tie (fun x => by rw [dep_tie]; omega) (fun x y => by simp [tieD, toPy, toPys, PySem.W.alike, PySem.W.alikeAll]) (.inl fun x => rfl) l
  simp only [bSorted, h, if_true]
  rw [← List.map_mergeSort (fun a _ b _ => (leD_tie a b).symm)]
theorem sorted_tiesT (l : List (Int × Int)) : bSorted [.tup (l.map tieD)] = some (.lst ((l.mergeSort tle).map tieD)) := sorted_ties l
theorem sorted_ints (l : List Int) : bSorted [.lst (l.map .int)] = some (.lst ((l.mergeSort fun i j => decide (i ≤ j)).map .int)) := by
  have h : srtOk (l.map D.int) = true := srtOk_map (fun _ => rfl) (fun x => Nat.zero_le _) (fun x y => by simp [toPy, PySem.W.alike]) (.inr fun x => rfl) l
  simp only [bSorted, h, if_true]
  rw [← List.map_mergeSort (fun a _ b _ => (leD_int a b).symm)]
theorem sorted_intsT (l : List Int) : bSorted [.tup (l.map .int)] = some (.lst ((l.mergeSort fun i j => decide (i ≤ j)).map .int)) := sorted_ints l
mutual
theorem eqD_refl : ∀ d : D, flat d = true → eqD d d = true
  | .non, _ => rfl
  | .bl a, _ => by simp [eqD]
  | .int i, _ => by simp [eqD]
  | .str s, _ => by simp [eqD]
  | .tup ds, h => by simp only [eqD]; exact eqDs_refl ds (by simpa [flat] using h)
  | .lst ds, h => by simp only [eqD]; exact eqDs_refl ds (by simpa [flat] using h)
theorem eqDs_refl : ∀ ds : List D, flats ds = true → eqDs ds ds = true
  | [], _ => rfl
  | d :: ds, h => by
    simp only [flats, Bool.and_eq_true] at h
    simp only [eqDs, eqD_refl d h.1, eqDs_refl ds h.2, Bool.and_self]
end
theorem dEq_refl {d : D} (h : flat d = true) (h2 : dep d ≤ 64) : dEq d d = some (.bl true) := by
  simp [dEq, cmpOk, h, h2, eqD_refl d h]
theorem tle_trans (a b c : Int × Int) (h1 : tle a b = true) (h2 : tle b c = true) : tle a c = true := by
  simp only [tle, decide_eq_true_eq] at *; omega
theorem tle_total (a b : Int × Int) : (tle a b || tle b a) = true := by
  simp only [tle, Bool.or_eq_true, decide_eq_true_eq]; omega
def Srt (l : List (Int × Int)) : Prop := l.Pairwise fun a b => tle a b = true
theorem srt_merge (l : List (Int × Int)) : Srt (l.mergeSort tle) := List.pairwise_mergeSort tle_trans tle_total l
theorem merge_srt {l : List (Int × Int)} (h : Srt l) : l.mergeSort tle = l := List.mergeSort_of_pairwise h
/-- a comprehension whose turns tell each a known list -/
theorem lcF_eq {t : D → Mem → Res (List D)} {g : D → List D} {M : Mem} : ∀ {ds : List D}, (∀ d ∈ ds, t d M = .ok (g d) M) → lcF t ds M = .ok (ds.flatMap g) M
  | [], _ => rfl
  | d :: ds, h => by
    have ih := lcF_eq (g := g) (ds := ds) fun x hx => h x (List.mem_cons_of_mem _ hx)
    simp only [lcF, h d List.mem_cons_self, Res.only_ok, ih, List.flatMap_cons]
theorem lcF_map {α : Type} {t : D → Mem → Res (List D)} {f : α → D} {g : α → D} {M : Mem} {l : List α} (h : ∀ x ∈ l, t (f x) M = .ok [g x] M) : lcF t (l.map f) M = .ok (l.map g) M := by
  induction l with
  | nil => rfl
  | cons x l ih =>
    have := ih fun y hy => h y (List.mem_cons_of_mem _ hy)
    simp only [List.map_cons, lcF, h x List.mem_cons_self, Res.only_ok, this, List.singleton_append]
theorem lcF_flt {α : Type} {t : D → Mem → Res (List D)} {f : α → D} {g : α → D} {p : α → Bool} {M : Mem} {l : List α} (h : ∀ x ∈ l, t (f x) M = .ok (if p x = true then [g x] else []) M) : lcF t (l.map f) M = .ok ((l.filter p).map g) M := by
  induction l with
  | nil => rfl
  | cons x l ih =>
    have := ih fun y hy => h y (List.mem_cons_of_mem _ hy)
    simp only [List.map_cons, lcF, h x List.mem_cons_self, Res.only_ok, this]
    by_cases hp : p x = true
    · simp [hp]
    · simp [hp]
theorem enD_range {ds : List D} {c : Int} : enD c ds = (List.range ds.length).map fun j => .tup [.int (c + (j : Nat)), ds.getD j .und] := by
  apply List.ext_getElem
  · simp [enD_len]
  · intro i h1 h2
    have h3 : i < ds.length := by simpa [enD_len] using h1
    have e := enD_get ds c i
    rw [List.getElem?_eq_getElem h1, List.getElem?_eq_getElem h3] at e
    simp only [Option.map_some, Option.some.injEq] at e
    simp [e, h3]
/-- the i-th of a list -/
def nth {α : Type} [Inhabited α] (l : List α) (i : Nat) : α := l.getD i default
theorem nth_get {α : Type} [Inhabited α] {l : List α} {i : Nat} (h : i < l.length) : l[i]? = some (nth l i) := by
  simp [nth, h]
@[simp] theorem dSeq_lst (ds : List D) : dSeq (.lst ds) = some (true, ds) := rfl
@[simp] theorem dSeq_tup (ds : List D) : dSeq (.tup ds) = some (false, ds) := rfl
theorem enD_map {α : Type} [Inhabited α] (f : α → D) (l : List α) : enD 0 (l.map f) = (List.range l.length).map fun j => .tup [.int (j : Nat), f (nth l j)] := by
  rw [enD_range, List.length_map]
  apply List.map_congr_left
  intro j hj
  have hj : j < l.length := List.mem_range.mp hj
  simp [nth, hj]
theorem r62_nat {n : Nat} (h : n ≤ 1000000) : r62 0 (n : Int) = true := by
  unfold r62
  simp only [Bool.and_eq_true, decide_eq_true_eq]
  have h1 : (n : Int) ≤ 1000000 := by omega
  have e : (2 : Int) ^ 62 = 4611686018427387904 := by decide
  rw [e]
  refine ⟨⟨⟨?_, ?_⟩, ?_⟩, ?_⟩ <;> omega
theorem rR1_nat {n : Nat} (h : n ≤ 1000000) : rR1 [.int (n : Int)] = some ((List.range n).map fun i => .int (i : Nat)) := by
  show (if r62 0 (n : Int) = true then some (rgD 0 (n : Int)) else none) = _
  rw [if_pos (r62_nat h)]
  simp only [rgD, Int.sub_zero, Int.toNat_natCast, Int.zero_add]
theorem eLC_eq {vs : List Nat} {P : Pat} {I : IF} {Ft : TF} {Fe : EF} {η : Env} {M M1 M2 : Mem} {ds rs : List D} (hI : I η M = .ok ds M1) (hL : lcF (t1F P Ft Fe (wipeE η vs)) ds M1 = .ok rs M2) (hz : rs.length ≤ sizeLine) : eLC vs P I Ft Fe η M = .ok (.lst rs) M2 := by
  unfold eLC
  rw [hI, Res.bind_ok, hL, Res.only_ok, if_pos hz]
theorem iA_eq {f : List D → Option (List D)} {Fs : List EF} {η : Env} {M M1 : Mem} {ds its : List D} (hA : eArgs Fs η M = .ok ds M1) (hf : f ds = some its) : iA f Fs η M = .ok its M1 := by
  unfold iA
  rw [hA, Res.bind_ok, hf]
  rfl
theorem sFor_eq {I : IF} {P : Pat} {B : SF} {η : Env} {M M1 : Mem} {ds : List D} (hI : I η M = .ok ds M1) : sFor I P B η M = forF P B ds η M1 := by
  unfold sFor
  rw [hI, Res.bind_ok]
theorem eOp2_eq {f : D → D → Option D} {F G : EF} {η : Env} {M M1 M2 : Mem} {d1 d2 d : D} (h1 : F η M = .ok d1 M1) (h2 : G η M1 = .ok d2 M2) (h3 : f d1 d2 = some d) : eOp2 f F G η M = .ok d M2 := by
  unfold eOp2
  rw [h1, Res.bind_ok, h2, Res.bind_ok, h3]
  rfl
theorem eB_eq {f : List D → Option D} {Fs : List EF} {η : Env} {M M1 : Mem} {ds : List D} {d : D} (hA : eArgs Fs η M = .ok ds M1) (hf : f ds = some d) : eB f Fs η M = .ok d M1 := by
  unfold eB
  rw [hA, Res.bind_ok, hf]
  rfl
theorem sSet_eq {i : Nat} {F : EF} {η : Env} {M M1 : Mem} {d : D} (h : F η M = .ok d M1) : sSet i F η M = .ok (.nx (η.set i d)) M1 := by
  unfold sSet
  rw [h, Res.bind_ok]
theorem sSeq_eq {F G : SF} {η η1 : Env} {M M1 : Mem} {r : Res Ctl} (h : F η M = .ok (.nx η1) M1) (h2 : G η1 M1 = r) : sSeq F G η M = r := by
  unfold sSeq
  rw [h, Res.bind_ok]
  exact h2
theorem fnF_rt {n : Nat} {F : SF} {ds : List D} {M M1 : Mem} {d : D} (h : F (ds ++ List.replicate (n - ds.length) .und) M = .ok (.rt d) M1) : fnF n F ds M = .ok d M1 := by
  rw [fnF_eq, h]
  rfl
theorem eCall_eq {G : GF} {Fs : List EF} {η : Env} {M M1 : Mem} {ds : List D} {r : Res D} (hA : eArgs Fs η M = .ok ds M1) (hG : G ds M1 = r) : eCall G Fs η M = r := by
  unfold eCall
  rw [hA, Res.bind_ok]
  exact hG
theorem forF_cons {P : Pat} {B : SF} {d : D} {ds : List D} {η η1 η2 : Env} {M M2 : Mem} {r : Res Ctl} (h1 : bindP P d η = some η1) (h2 : B η1 M = .ok (.nx η2) M2) (h3 : forF P B ds η2 M2 = r) : forF P B (d :: ds) η M = r := by
  unfold forF onB
  rw [h1]
  show (B η1 M).bind _ = _
  rw [h2]
  exact h3
theorem sNil_eq {F : SF} {η η1 : Env} {M M1 : Mem} (h : F η M = .ok (.nx η1) M1) : sSeq F sNil η M = .ok (.nx η1) M1 := sSeq_eq h rfl
end Tn

set_option Elab.async false
set_option linter.all false
set_option maxRecDepth 100000
set_option maxHeartbeats 4000000
namespace Tn
open PySem PySem.Spec PyProof.Rows L2
/-! ## what is asked behind something that tells -/
/-- it tells, and what it tells has Q -/
inductive Res.wp {α : Type} (r : Res α) (Q : α → Mem → Prop) : Prop where
  | mk (a : α) (m : Mem) (e : r = .ok a m) (q : Q a m)
theorem Res.wp_ex {α : Type} {r : Res α} {Q : α → Mem → Prop} (h : r.wp Q) : ∃ a m, r = .ok a m ∧ Q a m := by
  obtain ⟨a, m, e, q⟩ := h
  exact ⟨a, m, e, q⟩
theorem Res.wp_of {α : Type} {r : Res α} {Q : α → Mem → Prop} {a : α} {m : Mem} (e : r = .ok a m) (h : Q a m) : r.wp Q := ⟨a, m, e, h⟩
@[simp] theorem Res.wp_ok {α : Type} {a : α} {m : Mem} {Q : α → Mem → Prop} : (Res.ok a m).wp Q ↔ Q a m :=
  ⟨fun ⟨_, _, e, q⟩ => by cases e; exact q, fun q => ⟨a, m, rfl, q⟩⟩
@[simp] theorem Res.wp_bind {α β : Type} {r : Res α} {k : α → Mem → Res β} {Q : β → Mem → Prop} : (r.bind k).wp Q ↔ r.wp fun a m => (k a m).wp Q := by
  constructor
  · rintro ⟨b, m, e, q⟩
    cases r with
    | ok a m2 => exact ⟨a, m2, rfl, b, m, e, q⟩
    | err c ns fs m2 => cases e
    | bad => cases e
  · rintro ⟨a, m, rfl, q⟩
    exact q
@[simp] theorem Res.wp_only {α β : Type} {r : Res α} {k : α → Mem → Res β} {Q : β → Mem → Prop} : (r.only k).wp Q ↔ r.wp fun a m => (k a m).wp Q := by
  constructor
  · rintro ⟨b, m, e, q⟩
    cases r with
    | ok a m2 => exact ⟨a, m2, rfl, b, m, e, q⟩
    | err c ns fs m2 => cases e
    | bad => cases e
  · rintro ⟨a, m, rfl, q⟩
    exact q
@[simp] theorem Res.wp_ite {α : Type} {c : Prop} [Decidable c] {x y : Res α} {Q : α → Mem → Prop} : (if c then x else y).wp Q ↔ if c then x.wp Q else y.wp Q := by split <;> exact Iff.rfl
theorem Res.wp_mono {α : Type} {r : Res α} {Q Q' : α → Mem → Prop} (h : r.wp Q) (hq : ∀ a m, Q a m → Q' a m) : r.wp Q' := by
  obtain ⟨a, m, e, q⟩ := h
  exact ⟨a, m, e, hq a m q⟩
theorem Res.wp_opt {α : Type} {o : Option α} {m : Mem} {Q : α → Mem → Prop} {a : α} (e : o = some a) (h : Q a m) : (Res.opt o m).wp Q := by
  rw [e]; exact ⟨a, m, rfl, h⟩
@[simp] theorem Res.wp_onBl {α : Type} {b : Bool} {t f : Res α} {Q : α → Mem → Prop} : (onBl (.bl b) t f).wp Q ↔ if b = true then t.wp Q else f.wp Q := by
  cases b <;> exact Iff.rfl
/-- fnF by what is asked -/
theorem fnF_wp {n : Nat} {F : SF} {ds : List D} {M : Mem} {Q : D → Mem → Prop} (h : (F (ds ++ List.replicate (n - ds.length) .und) M).wp fun c m => (fnK c m).wp Q) : (fnF n F ds M).wp Q := by
  rw [fnF_eq, Res.wp_bind]
  exact h
theorem wp_sSeq {F G : SF} {η : Env} {M : Mem} {Q : Ctl → Mem → Prop} {R : Env → Mem → Prop} (h : (F η M).wp fun c m => ∃ η', c = .nx η' ∧ R η' m) (h2 : ∀ η' m, R η' m → (G η' m).wp Q) : (sSeq F G η M).wp Q := by
  obtain ⟨c, m, e, η', rfl, h3⟩ := Res.wp_ex h
  unfold sSeq
  rw [e, Res.bind_ok]
  exact h2 _ _ h3
/-- a loop by an invariant -/
theorem wp_forF {P : Pat} {B : SF} {Inv : Nat → Env → Mem → Prop} {Q : Ctl → Mem → Prop} : ∀ {ds : List D} {η : Env} {M : Mem} {i : Nat}, Inv i η M →
    (∀ (j : Nat) (d : D) (η : Env) (M : Mem), ds[j]? = some d → Inv (i + j) η M → ∃ η1, bindP P d η = some η1 ∧ (B η1 M).wp fun c m => ∃ η2, (c = .nx η2 ∨ c = .ct η2) ∧ Inv (i + j + 1) η2 m) →
    (∀ η M, Inv (i + ds.length) η M → Q (.nx η) M) → (forF P B ds η M).wp Q
  | ds, η, M, i, h, hs, hq => by
    obtain ⟨η', M', e, h2⟩ := forF_nx (P := P) (B := B) (Inv := Inv) (ds := ds) h fun j d η M hj hi => by
      obtain ⟨η1, e1, w⟩ := hs j d η M hj hi
      obtain ⟨c, m, e2, η2, hc, hi2⟩ := Res.wp_ex w
      refine ⟨η1, η2, m, e1, ?_, hi2⟩
      rcases hc with rfl | rfl
      · exact .inl e2
      · exact .inr e2
    rw [e]
    exact Res.wp_ok.mpr (hq _ _ h2)
/-- a loop over an encoded list, told by a fold; γ: what nobody asks for -/
theorem forF_fold {P : Pat} {B : SF} {α σ γ : Type} {en : α → D} {E : σ → γ → Env} {step : σ → α → σ} {M : Mem} : ∀ {xs : List α} {s : σ} {g : γ}, (∀ x ∈ xs, ∀ s g, ∃ η1 g', bindP P (en x) (E s g) = some η1 ∧ B η1 M = .ok (.nx (E (step s x) g')) M) →
    ∃ g', forF P B (xs.map en) (E s g) M = .ok (.nx (E (xs.foldl step s) g')) M
  | [], s, g, _ => ⟨g, rfl⟩
  | x :: xs, s, g, h => by
    obtain ⟨η1, g1, e1, e2⟩ := h x List.mem_cons_self s g
    obtain ⟨g', e⟩ := forF_fold (xs := xs) (s := step s x) (g := g1) fun y hy => h y (List.mem_cons_of_mem _ hy)
    exact ⟨g', forF_cons e1 e2 e⟩
/-- the same with an invariant of the state -/
theorem forF_foldI {P : Pat} {B : SF} {α σ γ : Type} {en : α → D} {E : σ → γ → Env} {step : σ → α → σ} {I : σ → Prop} {M : Mem} : ∀ {xs : List α} {s : σ} {g : γ}, I s → (∀ x ∈ xs, ∀ s g, I s → I (step s x) ∧ ∃ η1 g', bindP P (en x) (E s g) = some η1 ∧ B η1 M = .ok (.nx (E (step s x) g')) M) →
    ∃ g', forF P B (xs.map en) (E s g) M = .ok (.nx (E (xs.foldl step s) g')) M ∧ I (xs.foldl step s)
  | [], s, g, hi, _ => ⟨g, rfl, hi⟩
  | x :: xs, s, g, hi, h => by
    obtain ⟨hi2, η1, g1, e1, e2⟩ := h x List.mem_cons_self s g hi
    obtain ⟨g', e, i3⟩ := forF_foldI (xs := xs) (s := step s x) (g := g1) hi2 fun y hy => h y (List.mem_cons_of_mem _ hy)
    exact ⟨g', forF_cons e1 e2 e, i3⟩
@[simp] theorem Res.wp_opt_some {α : Type} {o : α} {m : Mem} {Q : α → Mem → Prop} : (Res.opt (some o) m).wp Q ↔ Q o m := Res.wp_ok
theorem Res.eq_of_wp {α : Type} {r : Res α} {x : α} {M : Mem} (h : r.wp fun a m => a = x ∧ m = M) : r = .ok x M := by
  obtain ⟨a, m, e, rfl, rfl⟩ := Res.wp_ex h
  exact e
/-! statement by statement: what is behind is hidden -/
theorem wps {F G : SF} {η : Env} {M : Mem} {Q : Ctl → Mem → Prop} (h : ∀ K : Ctl → Mem → Prop, (∀ η m, (G η m).wp Q → K (.nx η) m) → (∀ d m, Q (.rt d) m → K (.rt d) m) → (F η M).wp K) : (sSeq F G η M).wp Q := by
  have := h (fun c m => (sNx G c m).wp Q) (fun η m h => h) (fun d m h => Res.wp_ok.mpr h)
  unfold sSeq
  rw [Res.wp_bind]
  exact this
theorem wpf {n : Nat} {F : SF} {ds : List D} {M : Mem} {Q : D → Mem → Prop} (h : ∀ K : Ctl → Mem → Prop, (∀ d m, Q d m → K (.rt d) m) → (∀ η m, Q .non m → K (.nx η) m) → (F (ds ++ List.replicate (n - ds.length) .und) M).wp K) : (fnF n F ds M).wp Q := by
  rw [fnF_eq, Res.wp_bind]
  exact h _ (fun d m h => Res.wp_ok.mpr h) (fun η m h => Res.wp_ok.mpr h)
theorem wpie {A : TF} {F G : SF} {η : Env} {M : Mem} {Q : Ctl → Mem → Prop} (h : ∀ T : Bool → Mem → Prop, (∀ m, (F η m).wp Q → T true m) → (∀ m, (G η m).wp Q → T false m) → (A η M).wp T) : (sIf A F G η M).wp Q := by
  have := h (fun b m => if b = true then (F η m).wp Q else (G η m).wp Q) (fun m h => h) (fun m h => h)
  unfold sIf
  rw [Res.wp_bind]
  simp only [Res.wp_ite]
  exact this
/-- the same where nothing is else -/
theorem wpi {A : TF} {F : SF} {η : Env} {M : Mem} {Q : Ctl → Mem → Prop} (h : ∀ T : Bool → Mem → Prop, (∀ m, (F η m).wp Q → T true m) → (∀ m, Q (.nx η) m → T false m) → (A η M).wp T) : (sIf A F sNil η M).wp Q :=
  wpie fun T t f => h T t fun m q => f m (Res.wp_ok.mpr q)
theorem wpfor {I : IF} {P : Pat} {B : SF} {η : Env} {M M1 : Mem} {ds : List D} {Q : Ctl → Mem → Prop} (hI : I η M = .ok ds M1) (Inv : Nat → Env → Mem → Prop) (h0 : Inv 0 η M1)
    (hs : ∀ (j : Nat) (d : D) (η : Env) (M : Mem), ds[j]? = some d → Inv j η M → ∃ η1, bindP P d η = some η1 ∧ ∀ K : Ctl → Mem → Prop, (∀ η2 m, Inv (j + 1) η2 m → K (.nx η2) m) → (∀ η2 m, Inv (j + 1) η2 m → K (.ct η2) m) → (B η1 M).wp K)
    (hq : ∀ η M, Inv ds.length η M → Q (.nx η) M) : (sFor I P B η M).wp Q := by
  rw [sFor_eq hI]
  refine wp_forF (i := 0) h0 (fun j d η M hj hi => ?_) fun η M h => hq η M (by rw [Nat.zero_add] at h; exact h)
  rw [Nat.zero_add] at hi ⊢
  obtain ⟨η1, e1, w⟩ := hs j d η M hj hi
  exact ⟨η1, e1, w _ (fun η2 m h => ⟨η2, .inl rfl, h⟩) fun η2 m h => ⟨η2, .inr rfl, h⟩⟩
theorem wptgt {P : Pat} {F : EF} {η : Env} {M : Mem} {Q : Ctl → Mem → Prop} (h : ∀ K : D → Mem → Prop, (∀ d m η', bindP P d η = some η' → Q (.nx η') m → K d m) → (F η M).wp K) : (sTgt P F η M).wp Q := by
  have := h (fun d m => ∃ η', bindP P d η = some η' ∧ Q (.nx η') m) fun d m η' e q => ⟨η', e, q⟩
  obtain ⟨d, m, e, η', e2, q⟩ := Res.wp_ex this
  unfold sTgt
  rw [e, Res.bind_ok]
  unfold onB
  rw [e2]
  exact Res.wp_ok.mpr q
theorem bindP_2 {i j : Nat} {d e : D} {η : Env} : bindP (.tup [.nm i, .nm j]) (.tup [d, e]) η = some ((η.set i d).set j e) := by simp only [bindP, bindP.bindPs, Option.bind_some]
theorem bindP_1 {i : Nat} {d : D} {η : Env} : bindP (.nm i) d η = some (η.set i d) := by simp only [bindP]
theorem bindP_3 {i j k : Nat} {d e f : D} {η : Env} : bindP (.tup [.nm i, .nm j, .nm k]) (.tup [d, e, f]) η = some (((η.set i d).set j e).set k f) := by simp only [bindP, bindP.bindPs, Option.bind_some]
theorem wpnil {η : Env} {M : Mem} {Q : Ctl → Mem → Prop} (h : Q (.nx η) M) : (sNil η M).wp Q := Res.wp_ok.mpr h
end Tn

set_option Elab.async false
set_option linter.all false
set_option maxRecDepth 100000
set_option maxHeartbeats 4000000
namespace Tn
open PySem PySem.Spec PyProof.Rows L2
/-! ## kinds of all that is in a value; how many things are in it -/
mutual
def kindL : D → List Str
  | .non => ["None"]
  | .bl b => [if b then "True" else "False"]
  | .int _ => ["number"]
  | .str _ => ["string"]
  | .tup ds => "tuple" :: kindLs ds
  | .lst ds => "list" :: kindLs ds
  | _ => ["other"]
def kindLs : List D → List Str
  | [] => []
  | d :: ds => kindLs ds ++ kindL d
end
mutual
def nod : D → Nat
  | .tup ds => nods ds + 1
  | .lst ds => nods ds + 1
  | _ => 1
def nods : List D → Nat
  | [] => 0
  | d :: ds => nod d + nods ds
end
theorem kindLs_app : ∀ (a b : List D), kindLs (a ++ b) = kindLs b ++ kindLs a
  | [], b => by simp [kindLs]
  | d :: a, b => by simp [kindLs, kindLs_app a b]
theorem nods_app : ∀ (a b : List D), nods (a ++ b) = nods a + nods b
  | [], b => by simp [nods]
  | d :: a, b => by simp [nods, nods_app a b]; omega
theorem flats_app : ∀ (a b : List D), flats (a ++ b) = (flats a && flats b)
  | [], b => by simp [flats]
  | d :: a, b => by simp [flats, flats_app a b, Bool.and_assoc]
theorem deps_app : ∀ (a b : List D), deps (a ++ b) = max (deps a) (deps b)
  | [], b => by simp [deps]
  | d :: a, b => by simp [deps, deps_app a b, Nat.max_assoc]
theorem nods_len : ∀ ds : List D, ds.length ≤ nods ds
  | [] => Nat.le_refl _
  | d :: ds => by
    have := nods_len ds
    have h : 1 ≤ nod d := by cases d <;> simp [nod]
    simp only [List.length_cons, nods]; omega
mutual
theorem kindL_len : ∀ d : D, (kindL d).length = nod d
  | .und => rfl
  | .non => rfl
  | .bl _ => rfl
  | .int _ => rfl
  | .str _ => rfl
  | .tup ds => by simp only [kindL, nod, List.length_cons, kindLs_len ds]
  | .lst ds => by simp only [kindL, nod, List.length_cons, kindLs_len ds]
  | .dct _ _ => rfl
  | .ref _ => rfl
  | .exc _ _ _ => rfl
  | .scr _ => rfl
theorem kindLs_len : ∀ ds : List D, (kindLs ds).length = nods ds
  | [] => rfl
  | d :: ds => by simp only [kindLs, nods, List.length_append, kindL_len d, kindLs_len ds]; omega
end
mutual
theorem kindL_ok : ∀ d : D, ∀ s ∈ kindL d, PyData.strOk s = true
  | .und, s, h => by have h : s ∈ (["other"] : List Str) := h; rw [List.mem_singleton] at h; subst h; decide +kernel
  | .non, s, h => by rw [kindL, List.mem_singleton] at h; subst h; decide +kernel
  | .bl b, s, h => by rw [kindL, List.mem_singleton] at h; subst h; cases b <;> decide +kernel
  | .int _, s, h => by rw [kindL, List.mem_singleton] at h; subst h; decide +kernel
  | .str _, s, h => by rw [kindL, List.mem_singleton] at h; subst h; decide +kernel
  | .tup ds, s, h => by
    rw [kindL, List.mem_cons] at h
    rcases h with rfl | h
    · decide +kernel
    · exact kindLs_ok ds s h
  | .lst ds, s, h => by
    rw [kindL, List.mem_cons] at h
    rcases h with rfl | h
    · decide +kernel
    · exact kindLs_ok ds s h
  | .dct _ _, s, h => by have h : s ∈ (["other"] : List Str) := h; rw [List.mem_singleton] at h; subst h; decide +kernel
  | .ref _, s, h => by have h : s ∈ (["other"] : List Str) := h; rw [List.mem_singleton] at h; subst h; decide +kernel
  | .exc _ _ _, s, h => by have h : s ∈ (["other"] : List Str) := h; rw [List.mem_singleton] at h; subst h; decide +kernel
  | .scr _, s, h => by have h : s ∈ (["other"] : List Str) := h; rw [List.mem_singleton] at h; subst h; decide +kernel
theorem kindLs_ok : ∀ ds : List D, ∀ s ∈ kindLs ds, PyData.strOk s = true
  | [], s, h => by cases h
  | d :: ds, s, h => by
    rw [kindLs, List.mem_append] at h
    rcases h with h | h
    · exact kindLs_ok ds s h
    · exact kindL_ok d s h
end
theorem flats_strs : ∀ l : List Str, (∀ s ∈ l, PyData.strOk s = true) → flats (l.map D.str) = true
  | [], _ => rfl
  | s :: l, h => by
    simp only [List.map_cons, flats, flat, h s List.mem_cons_self, Bool.true_and]
    exact flats_strs l fun x hx => h x (List.mem_cons_of_mem _ hx)
theorem deps_strs : ∀ l : List Str, deps (l.map D.str) = 0
  | [] => rfl
  | s :: l => by simp [deps, dep, deps_strs l]
theorem le_line {n : Nat} (h : n ≤ 1000000) : n ≤ sizeLine := Nat.le_trans h (by decide)
theorem lt_line {n : Nat} (h : n < 1000000) : n < sizeLine := Nat.lt_of_lt_of_le h (by decide)
end Tn

set_option Elab.async false
set_option linter.all false
set_option maxRecDepth 100000
set_option maxHeartbeats 4000000
namespace Tn
/-! ## walks over a finite list of ways -/
section
variable {α β : Type} [DecidableEq α] [DecidableEq β]
def b01 (b : Bool) : Int := if b = true then 1 else 0
def Nn (ws : List α) (f : α → α → Bool) (a : α) : Nat → α → Int
  | 0, b => if b = a then 1 else 0
  | t + 1, b => (ws.map fun c => Nn ws f a t c * b01 (f c b)).sum
def Tt (ws : List α) (f : α → α → Bool) (m : Nat) : Int := (ws.map fun a => Nn ws f a m a).sum
theorem sum_perm {l l' : List α} (h : l.Perm l') (g : α → Int) : (l.map g).sum = (l'.map g).sum := by
  induction h with
  | nil => rfl
  | cons x _ ih => simp only [List.map_cons, List.sum_cons, ih]
  | swap x y l => simp only [List.map_cons, List.sum_cons]; omega
  | trans _ _ h1 h2 => exact h1.trans h2
theorem Nn_perm {ws ws' : List α} (h : ws.Perm ws') (f : α → α → Bool) (a : α) : ∀ t b, Nn ws f a t b = Nn ws' f a t b
  | 0, b => rfl
  | t + 1, b => by
    show (ws.map _).sum = (ws'.map _).sum
    rw [sum_perm h]
    congr 1
    exact List.map_congr_left fun c _ => by rw [Nn_perm h f a t c]
theorem Tt_perm {ws ws' : List α} (h : ws.Perm ws') (f : α → α → Bool) (m : Nat) : Tt ws f m = Tt ws' f m := by
  unfold Tt
  rw [sum_perm h]
  congr 1
  exact List.map_congr_left fun a _ => Nn_perm h f a m a
theorem Nn_map {ws : List α} {f : α → α → Bool} {f' : β → β → Bool} {g : α → β} (hg : ∀ a ∈ ws, ∀ b ∈ ws, g a = g b → a = b) (hf : ∀ a ∈ ws, ∀ b ∈ ws, f' (g a) (g b) = f a b) {a : α} (ha : a ∈ ws) : ∀ t, ∀ b ∈ ws, Nn (ws.map g) f' (g a) t (g b) = Nn ws f a t b
  | 0, b, hb => by
    unfold Nn
    by_cases h : b = a
    · rw [if_pos h, if_pos (by rw [h])]
    · rw [if_neg h, if_neg fun z => h (hg b hb a ha z)]
  | t + 1, b, hb => by
    show ((ws.map g).map _).sum = (ws.map _).sum
    rw [List.map_map]
    congr 1
    refine List.map_congr_left fun c hc => ?_
    show Nn (ws.map g) f' (g a) t (g c) * b01 (f' (g c) (g b)) = _
    rw [Nn_map hg hf ha t c hc, hf c hc b hb]
theorem Tt_map {ws : List α} {f : α → α → Bool} {f' : β → β → Bool} {g : α → β} (hg : ∀ a ∈ ws, ∀ b ∈ ws, g a = g b → a = b) (hf : ∀ a ∈ ws, ∀ b ∈ ws, f' (g a) (g b) = f a b) (m : Nat) : Tt (ws.map g) f' m = Tt ws f m := by
  unfold Tt
  rw [List.map_map]
  congr 1
  exact List.map_congr_left fun a ha => Nn_map hg hf ha m a ha
/-- ways apart from each other -/
theorem Nn_apart {A B : List α} {f : α → α → Bool} (h : ∀ a ∈ A, ∀ b ∈ B, f b a = false ∧ f a b = false) {a : α} (ha : a ∈ A) (hn : a ∉ B) : ∀ t, (∀ b ∈ A, Nn (A ++ B) f a t b = Nn A f a t b) ∧ ∀ b ∈ B, Nn (A ++ B) f a t b = 0
  | 0 => ⟨fun b _ => rfl, fun b hb => if_neg fun z => hn (by rw [← z]; exact hb)⟩
  | t + 1 => by
    obtain ⟨h1, h2⟩ := Nn_apart h ha hn t
    have zs : ∀ (l : List α) (g : α → Int), (∀ x ∈ l, g x = 0) → (l.map g).sum = 0 := fun l g hz => by
      induction l with
      | nil => rfl
      | cons x l ih => rw [List.map_cons, List.sum_cons, hz x List.mem_cons_self, ih fun y hy => hz y (List.mem_cons_of_mem _ hy)]; rfl
    refine ⟨fun b hb => ?_, fun b hb => ?_⟩
    · show ((A ++ B).map _).sum = (A.map _).sum
      rw [List.map_append, List.sum_append, zs B _ fun c hc => by rw [h2 c hc, Int.zero_mul], Int.add_zero]
      congr 1
      exact List.map_congr_left fun c hc => by rw [h1 c hc]
    · show ((A ++ B).map _).sum = 0
      refine zs _ _ fun c hc => ?_
      rcases List.mem_append.mp hc with hc | hc
      · rw [(h c hc b hb).2]; simp [b01]
      · rw [h2 c hc, Int.zero_mul]
theorem Tt_apart {A B : List α} {f : α → α → Bool} (h : ∀ a ∈ A, ∀ b ∈ B, f b a = false ∧ f a b = false) (hd : ∀ a ∈ A, a ∉ B) (m : Nat) : Tt (A ++ B) f m = Tt A f m + Tt B f m := by
  have h2 : ∀ b ∈ B, Nn (A ++ B) f b m b = Nn B f b m b := fun b hb => by
    rw [Nn_perm List.perm_append_comm]
    exact (Nn_apart (fun x hx y hy => ⟨(h y hy x hx).2, (h y hy x hx).1⟩) hb (fun z => hd b z hb) m).1 b hb
  show ((A ++ B).map _).sum = _
  rw [List.map_append, List.sum_append]
  show _ = (A.map _).sum + (B.map _).sum
  congr 1
  · congr 1
    exact List.map_congr_left fun a ha => (Nn_apart h ha (hd a ha) m).1 a ha
  · congr 1
    exact List.map_congr_left fun b hb => h2 b hb
end
end Tn

set_option Elab.async false
set_option linter.all false
set_option maxRecDepth 100000
set_option maxHeartbeats 4000000
namespace Tn
open PySem PySem.Spec PyProof.Rows L2
open Builtin.Int (intBits)
variable {M : Mem} {p : Addr} {wh n m : Int} {cs : List Int} {Q : D → Mem → Prop}
def drK : List D := [.str "whole", .str "cells", .str "count"]
def drV (wh : Int) (cs : List Int) (n : Int) : List D := [.int wh, .lst (cs.map .int), .int n]
def drM (p : Addr) (M : Mem) (wh : Int) (cs : List Int) (n : Int) : Mem := M.set p (.dct drK (drV wh cs n))
@[simp] theorem drM_at : (drM p M wh cs n) p = some (.dct drK (drV wh cs n)) := Mem.set_same _ _ _
theorem drM_set {wh' n' : Int} : (drM p M wh cs n).set p (.dct drK (drV wh' cs n')) = drM p M wh' cs n' := Mem.set_set _ _ _ _
@[simp] theorem dr_whole : dIx (.dct drK (drV wh cs n)) (.str "whole") = some (.int wh) := by rfl
@[simp] theorem dr_cells : dIx (.dct drK (drV wh cs n)) (.str "cells") = some (.lst (cs.map .int)) := by rfl
@[simp] theorem dr_count : dIx (.dct drK (drV wh cs n)) (.str "count") = some (.int n) := by rfl
@[simp] theorem mPut_count {kont : Mem → Res Ctl} : mPut (drM p M wh cs n) (.ref p) (.str "count") (.int m) kont = kont (drM p M wh cs m) := by
  simp only [mPut, drM_at]
  rw [if_pos ⟨rfl, by show 3 < sizeLine; decide⟩]
  exact congrArg kont (drM_set (wh' := wh) (n' := m))
@[simp] theorem mPut_whole {kont : Mem → Res Ctl} : mPut (drM p M wh cs n) (.ref p) (.str "whole") (.int m) kont = kont (drM p M m cs n) := by
  simp only [mPut, drM_at]
  rw [if_pos ⟨rfl, by show 3 < sizeLine; decide⟩]
  exact congrArg kont (drM_set (wh' := m) (n' := n))
@[simp] theorem pow_10_18 : dPow (.int 10) (.int 18) = some (.int 1000000000000000000) := by rfl
@[simp] theorem pow_2_61 : dPow (.int 2) (.int 61) = some (.int 2305843009213693952) := by rfl
@[simp] theorem pow_2_17 : dPow (.int 2) (.int 17) = some (.int 131072) := by rfl
@[simp] theorem pow_2_50 : dPow (.int 2) (.int 50) = some (.int 1125899906842624) := by rfl
@[simp] theorem pow_10_20 : dPow (.int 10) (.int 20) = some (.int 100000000000000000000) := by rfl
theorem dMul_l {i j : Int} (h : Builtin.Int.intBits i ≤ 64) : dMul (.int i) (.int j) = some (.int (i * j)) := by
  simp [dMul, IntMulOk.of_left h]
theorem dMul_r {i j : Int} (h : Builtin.Int.intBits j ≤ 64) : dMul (.int i) (.int j) = some (.int (i * j)) := by
  simp [dMul, IntMulOk.of_right h]
theorem dDiv_s {i j : Int} (h : 0 < j) (h2 : j < 2 ^ 64) : dDiv (.int i) (.int j) = some (.int (i / j)) := by
  have hp : Builtin.divisionGoesByPylong i j = false := by
    unfold Builtin.divisionGoesByPylong
    have : j.natAbs.log2 < 64 := by
      rw [Nat.log2_lt (by omega)]
      omega
    have hj : (j == 0) = false := by simpa using (by omega : ¬ j = 0)
    simp only [hj]
    simp
    omega
  have hz : ¬ j = 0 := by omega
  simp [dDiv, hp, hz, fdiv_pos h]
theorem dMod_s {i j : Int} (h : 0 < j) : dMod (.int i) (.int j) = some (.int (i % j)) := by
  have hz : ¬ j = 0 := by omega
  simp [dMod, hz, fmod_pos h]
abbrev Web := Int × List (Int × Int)
def webD (w : Web) : D := .tup [.int w.1, .tup (w.2.map tieD)]
structure WebOk (w : Web) : Prop where
  p1 : 1 ≤ w.1
  p8 : w.1 ≤ 8
  t14 : w.2.length ≤ 14
  ties : ∀ t ∈ w.2, 0 ≤ t.1 ∧ t.1 ≤ t.2 ∧ t.2 < w.1
  srt : Srt w.2
theorem all_true : ∀ n : Nat, bAll [.lst (List.replicate n (.bl true))] = some (.bl true) := fun n => by
  have h : ∀ n : Nat, asBls (List.replicate n (.bl true)) = some (List.replicate n true) := fun n => by
    induction n with
    | zero => rfl
    | succ n ih => simp [List.replicate_succ, asBls, ih]
  simp [bAll, h]
@[simp] theorem isU_web (w : Web) : isU (webD w) = false := rfl
@[simp] theorem deref_web (M : Mem) (w : Web) : deref M (webD w) = webD w := rfl
@[simp] theorem web0 (w : Web) : dIx (webD w) (.int 0) = some (.int w.1) := dIx_tup0 _ _
@[simp] theorem web1 (w : Web) : dIx (webD w) (.int 1) = some (.tup (w.2.map tieD)) := dIx_tup1 _ _ _
/-- the ways, there and back -/
def waysL (ts : List (Int × Int)) : List (Int × Int) := ts.flatMap fun t => [t, (t.2, t.1)]
theorem waysL_len (ts : List (Int × Int)) : (waysL ts).length = 2 * ts.length := by
  induction ts with
  | nil => rfl
  | cons t ts ih => simp only [waysL, List.flatMap_cons, List.length_append, List.length_cons, List.length_nil] at *; omega
def bk (i : Nat) : Nat := if i % 2 = 0 then i + 1 else i - 1
/-- whether way j follows way i -/
def fol (ps : List (Int × Int)) (i j : Nat) : Bool := decide ((nth ps j).1 = (nth ps i).2) && !decide (j = bk i)
def folL (ps : List (Int × Int)) (i : Nat) : List Nat := (List.range ps.length).filter (fol ps i)
def natD (j : Nat) : D := .int (j : Nat)
def follD (ps : List (Int × Int)) : List D := (List.range ps.length).map fun i => .lst ((folL ps i).map natD)
theorem bk_int (i : Nat) : (if (i : Int) % 2 = 0 then (i : Int) + 1 else (i : Int) - 1) = (bk i : Nat) := by
  unfold bk
  split <;> split <;> omega
theorem ite_and {α : Type} {p q : Prop} [Decidable p] [Decidable q] (x y : α) : (if p then (if q then x else y) else y) = if p ∧ q then x else y := by
  by_cases hp : p <;> by_cases hq : q <;> simp [hp, hq]
theorem turn_x (ps : List (Int × Int)) (i : Nat) (w x3 x4 : D) (Fe : EF) (d : D) (h : Fe [w, .lst (ps.map tieD), .und, .int (i : Nat), tieD (nth ps i)] M = .ok d M) :
    t1F (.tup [.nm 3, .nm 4]) tNo Fe [w, .lst (ps.map tieD), .und, x3, x4] (.tup [.int (i : Nat), tieD (nth ps i)]) M = .ok [d] M := by
  simp only [t1F, onB, bindP, bindP.bindPs, Option.bind_some, List.set_cons_succ, List.set_cons_zero, elF, tNo, Res.only_ok, if_true, h]
def addAt (l : List Int) (j : Nat) (c : Int) : List Int := l.set j (nth l j + c)
def ledRow (l : List Int) (js : List Nat) (c : Int) : List Int := js.foldl (fun l j => addAt l j c) l
def ledL (n : Nat) (fs : Nat → List Nat) (cs : List Int) : List Int := (List.range cs.length).foldl (fun l i => ledRow l (fs i) (nth cs i)) (List.replicate n 0)
theorem addAt_len (l : List Int) (j : Nat) (c : Int) : (addAt l j c).length = l.length := by simp [addAt]
theorem ledRow_len (js : List Nat) (c : Int) : ∀ l : List Int, (ledRow l js c).length = l.length := by
  induction js with
  | nil => intro l; rfl
  | cons j js ih => intro l; show (ledRow (addAt l j c) js c).length = _; rw [ih, addAt_len]
theorem addAt_zero (l : List Int) (j : Nat) : addAt l j 0 = l := by
  unfold addAt
  by_cases h : j < l.length
  · simp [nth, h]
  · rw [List.set_eq_of_length_le (by omega)]
theorem ledRow_zero (js : List Nat) : ∀ l : List Int, ledRow l js 0 = l := by
  induction js with
  | nil => intro l; rfl
  | cons j js ih => intro l; show ledRow (addAt l j 0) js 0 = l; rw [addAt_zero, ih]
theorem put_nat {ds : List D} {j : Nat} {d : D} (h : j < ds.length) : dPutAt ds (.int (j : Nat)) d = some (ds.set j d) := by
  show (ixN ds.length (j : Int)).map _ = _
  rw [ixN_nat h]
  rfl
theorem ix_ints {l : List Int} {j : Nat} (h : j < l.length) : dIx (.lst (l.map .int)) (.int (j : Nat)) = some (.int (nth l j)) := dIx_lst (by rw [List.getElem?_map, nth_get h]; rfl)
theorem map_addAt {l : List Int} {j : Nat} {c : Int} : (l.map D.int).set j (.int (nth l j + c)) = (addAt l j c).map .int := by rw [addAt, List.map_set]
theorem aput (f cs iD : D) {l : List Int} {j : Nat} {c : Int} (h : j < l.length) : sAput 2 (eVar 5) (eVar 4) [f, cs, .lst (l.map .int), iD, .int c, .int (j : Nat)] M = .ok (.nx [f, cs, .lst ((addAt l j c).map .int), iD, .int c, .int (j : Nat)]) M := by
  have h1 := ix_ints h
  have h2 := put_nat (ds := l.map .int) (d := .int (nth l j + c)) (by simpa using h)
  rw [map_addAt] at h2
  simp [sAput, h1, onII, h2]
theorem row_on (f cs iD : D) {c : Int} : ∀ (js : List Nat) (l : List Int) (x : D), (∀ j ∈ js, j < l.length) → ∃ x', forF (.nm 5) (sSeq (sAput 2 (eVar 5) (eVar 4)) sNil) (js.map natD) [f, cs, .lst (l.map .int), iD, .int c, x] M = .ok (.nx [f, cs, .lst ((ledRow l js c).map .int), iD, .int c, x']) M
  | [], l, x, _ => ⟨x, rfl⟩
  | j :: js, l, x, h => by
    obtain ⟨x', e⟩ := row_on f cs iD js (addAt l j c) (.int (j : Nat)) fun k hk => by rw [addAt_len]; exact h k (List.mem_cons_of_mem _ hk)
    refine ⟨x', ?_⟩
    have e1 := aput (M := M) f cs iD (c := c) (h j List.mem_cons_self)
    show _ = Res.ok (Ctl.nx [f, cs, .lst ((ledRow (addAt l j c) js c).map .int), iD, .int c, x']) M
    rw [← e]
    simp [natD, e1]
theorem lput (f cs iD : D) {l : List Int} {j : Nat} {c : Int} (h : j < l.length) : sPut 2 (eVar 5) (eOp2 dAdd (eIx (eVar 2) (eVar 5)) (eVar 4)) [f, cs, .lst (l.map .int), iD, .int c, .int (j : Nat)] M = .ok (.nx [f, cs, .lst ((addAt l j c).map .int), iD, .int c, .int (j : Nat)]) M := by
  have h1 := ix_ints h
  have h2 := put_nat (ds := l.map .int) (d := .int (nth l j + c)) (by simpa using h)
  rw [map_addAt] at h2
  simp [sPut, h1, h2]
theorem lrow_on (f cs iD : D) {c : Int} : ∀ (js : List Nat) (l : List Int) (x : D), (∀ j ∈ js, j < l.length) → ∃ x', forF (.nm 5) (sSeq (sPut 2 (eVar 5) (eOp2 dAdd (eIx (eVar 2) (eVar 5)) (eVar 4))) sNil) (js.map natD) [f, cs, .lst (l.map .int), iD, .int c, x] M = .ok (.nx [f, cs, .lst ((ledRow l js c).map .int), iD, .int c, x']) M
  | [], l, x, _ => ⟨x, rfl⟩
  | j :: js, l, x, h => by
    obtain ⟨x', e⟩ := lrow_on f cs iD js (addAt l j c) (.int (j : Nat)) fun k hk => by rw [addAt_len]; exact h k (List.mem_cons_of_mem _ hk)
    refine ⟨x', ?_⟩
    have e1 := lput (M := M) f cs iD (c := c) (h j List.mem_cons_self)
    show _ = Res.ok (Ctl.nx [f, cs, .lst ((ledRow (addAt l j c) js c).map .int), iD, .int c, x']) M
    rw [← e]
    simp [natD, e1]
def folD (n : Nat) (fs : Nat → List Nat) : List D := (List.range n).map fun i => .lst ((fs i).map natD)
theorem ix_fol {n : Nat} {fs : Nat → List Nat} {i : Nat} (h : i < n) : dIx (.lst (folD n fs)) (.int (i : Nat)) = some (.lst ((fs i).map natD)) := dIx_lst (by simp [folD, h])
theorem nought {n : Nat} (h : n ≤ 1000) : dMul (.lst [.int 0]) (.int (n : Nat)) = some (.lst ((List.replicate n (0 : Int)).map .int)) := by
  have hz : n ≤ sizeLine := Nat.le_trans h (by decide)
  simp [dMul]
  exact ⟨by omega, hz⟩
theorem led_loop {n : Nat} {fs : Nat → List Nat} (hf : ∀ i < n, ∀ j ∈ fs i, j < n) (cs : List Int) (hc : ∀ i, 0 ≤ nth cs i) : ∀ (is : List Nat) (l : List Int) (x3 x4 x5 : D), l.length = n → (∀ i ∈ is, i < n) → ∃ y3 y4 y5,
    forF (.tup [.nm 3, .nm 4]) (sSeq (sIf (tOf dBl (eOp2 dGt (eVar 4) (eC (.int 0)))) (sSeq (sFor (iOf dLst (eIx (eVar 0) (eVar 3))) (.nm 5) (sSeq (sAput 2 (eVar 5) (eVar 4)) sNil)) sNil) sNil) sNil) (is.map fun i => .tup [.int (i : Nat), .int (nth cs i)]) [.lst (folD n fs), .lst (cs.map .int), .lst (l.map .int), x3, x4, x5] M
      = .ok (.nx [.lst (folD n fs), .lst (cs.map .int), .lst ((is.foldl (fun l i => ledRow l (fs i) (nth cs i)) l).map .int), y3, y4, y5]) M
  | [], l, x3, x4, x5, _, _ => ⟨x3, x4, x5, rfl⟩
  | i :: is, l, x3, x4, x5, hl, hi => by
    have hin := hi i List.mem_cons_self
    by_cases h0 : 0 < nth cs i
    · obtain ⟨x', e1⟩ := row_on (M := M) (.lst (folD n fs)) (.lst (cs.map .int)) (.int (i : Nat)) (c := nth cs i) (fs i) l x5 fun j hj => by rw [hl]; exact hf i hin j hj
      obtain ⟨y3, y4, y5, e⟩ := led_loop hf cs hc is (ledRow l (fs i) (nth cs i)) (.int (i : Nat)) (.int (nth cs i)) x' (by rw [ledRow_len, hl]) fun k hk => hi k (List.mem_cons_of_mem _ hk)
      refine ⟨y3, y4, y5, ?_⟩
      rw [List.foldl_cons, ← e]
      simp [h0, ix_fol hin, e1]
    · have hz : nth cs i = 0 := by have := hc i; omega
      obtain ⟨y3, y4, y5, e⟩ := led_loop hf cs hc is l (.int (i : Nat)) (.int (nth cs i)) x5 hl fun k hk => hi k (List.mem_cons_of_mem _ hk)
      refine ⟨y3, y4, y5, ?_⟩
      rw [List.foldl_cons, hz, ledRow_zero, ← e]
      simp [hz]
theorem lled_loop {n : Nat} {fs : Nat → List Nat} (hf : ∀ i < n, ∀ j ∈ fs i, j < n) (cs : List Int) : ∀ (is : List Nat) (l : List Int) (x3 x4 x5 : D), l.length = n → (∀ i ∈ is, i < n) → ∃ y3 y4 y5,
    forF (.tup [.nm 3, .nm 4]) (sSeq (sFor (iOf dLst (eIx (eVar 0) (eVar 3))) (.nm 5) (sSeq (sPut 2 (eVar 5) (eOp2 dAdd (eIx (eVar 2) (eVar 5)) (eVar 4))) sNil)) sNil) (is.map fun i => .tup [.int (i : Nat), .int (nth cs i)]) [.lst (folD n fs), .lst (cs.map .int), .lst (l.map .int), x3, x4, x5] M
      = .ok (.nx [.lst (folD n fs), .lst (cs.map .int), .lst ((is.foldl (fun l i => ledRow l (fs i) (nth cs i)) l).map .int), y3, y4, y5]) M
  | [], l, x3, x4, x5, _, _ => ⟨x3, x4, x5, rfl⟩
  | i :: is, l, x3, x4, x5, hl, hi => by
    have hin := hi i List.mem_cons_self
    obtain ⟨x', e1⟩ := lrow_on (M := M) (.lst (folD n fs)) (.lst (cs.map .int)) (.int (i : Nat)) (c := nth cs i) (fs i) l x5 fun j hj => by rw [hl]; exact hf i hin j hj
    obtain ⟨y3, y4, y5, e⟩ := lled_loop hf cs is (ledRow l (fs i) (nth cs i)) (.int (i : Nat)) (.int (nth cs i)) x' (by rw [ledRow_len, hl]) fun k hk => hi k (List.mem_cons_of_mem _ hk)
    refine ⟨y3, y4, y5, ?_⟩
    rw [List.foldl_cons, ← e]
    simp [ix_fol hin, e1]
theorem hI1 {n : Nat} {fD x : D} (cs : List Int) (hl : cs.length = n) : iA rEn1 [(eVar 1)] [fD, .lst (cs.map .int), x, .und, .und, .und] M = .ok ((List.range n).map fun j => .tup [.int (j : Nat), .int (nth cs j)]) M := by
  subst hl
  refine iA_eq (ds := [.lst (cs.map .int)]) (by simp) ?_
  show some (enD 0 (cs.map .int)) = _
  rw [enD_map]
theorem e11 {n : Nat} {fs : Nat → List Nat} {x : D} (hn : n ≤ 1000) : sSet 2 (eOp2 dMul (eLst [(eC (.int 0))]) (eB bLen [(eVar 0)])) [.lst (folD n fs), x, .und, .und, .und, .und] M = .ok (.nx [.lst (folD n fs), x, .lst ((List.replicate n (0 : Int)).map .int), .und, .und, .und]) M := by
  have hlen : (folD n fs).length = n := by simp [folD]
  have hb : bLen [.lst (folD n fs)] = some (.int (n : Nat)) := by rw [bLen_lst, hlen]
  exact sSet_eq (eOp2_eq (M1 := M) (M2 := M) (d1 := .lst [.int 0]) (d2 := .int (n : Nat)) (by simp) (eB_eq (ds := [.lst (folD n fs)]) (by simp) hb) (nought hn))
theorem ledL_len {n : Nat} {fs : Nat → List Nat} (cs : List Int) : (ledL n fs cs).length = n := by
  unfold ledL
  have : ∀ (is : List Nat) (l : List Int), (is.foldl (fun l i => ledRow l (fs i) (nth cs i)) l).length = l.length := fun is => by
    induction is with
    | nil => intro l; rfl
    | cons i is ih => intro l; rw [List.foldl_cons, ih, ledRow_len]
  rw [this]; simp
theorem nth_addAt {l : List Int} {j k : Nat} {c : Int} (h : j < l.length) : nth (addAt l j c) k = if j = k then nth l j + c else nth l k := by
  unfold addAt nth
  simp only [List.getD_eq_getElem?_getD, List.getElem?_set]
  by_cases e : j = k
  · subst e; simp [h]
  · simp [e]
theorem addAt_out {l : List Int} {j : Nat} {c : Int} (h : ¬ j < l.length) : addAt l j c = l := by
  unfold addAt
  rw [List.set_eq_of_length_le (by omega)]
theorem addAt_pos {l : List Int} {j : Nat} {c : Int} (hc : 0 ≤ c) (h : ∀ i, 0 ≤ nth l i) (i : Nat) : 0 ≤ nth (addAt l j c) i := by
  by_cases hj : j < l.length
  · rw [nth_addAt hj]
    split
    · have := h j; omega
    · exact h i
  · rw [addAt_out hj]; exact h i
theorem ledRow_pos {c : Int} (hc : 0 ≤ c) : ∀ (js : List Nat) {l : List Int}, (∀ i, 0 ≤ nth l i) → ∀ i, 0 ≤ nth (ledRow l js c) i
  | [], l, h, i => h i
  | j :: js, l, h, i => ledRow_pos hc js (l := addAt l j c) (fun k => addAt_pos hc h k) i
theorem ledL_pos {n : Nat} {fs : Nat → List Nat} {cs : List Int} (hc : ∀ i, 0 ≤ nth cs i) (i : Nat) : 0 ≤ nth (ledL n fs cs) i := by
  unfold ledL
  have : ∀ (is : List Nat) (l : List Int), (∀ i, 0 ≤ nth l i) → ∀ i, 0 ≤ nth (is.foldl (fun l i => ledRow l (fs i) (nth cs i)) l) i := fun is => by
    induction is with
    | nil => intro l h i; exact h i
    | cons i is ih => intro l h k; exact ih _ (fun k => ledRow_pos (hc i) _ h k) k
  refine this _ _ (fun i => ?_) i
  unfold nth
  simp only [List.getD_eq_getElem?_getD, List.getElem?_replicate]
  split <;> simp
/-- counts and found, behind the lengths ats -/
def stp (n : Nat) (fs : Nat → List Nat) (way : Nat) (s : List Int × List Int) (at_ : Nat) : List Int × List Int := (ledL n fs s.1, addAt s.2 at_ (nth (ledL n fs s.1) way))
/-- all counts 0, but 1 at the way -/
def unit (n way : Nat) : List Int := (List.range n).map fun j => if j = way then 1 else 0
def rounds (n : Nat) (fs : Nat → List Nat) (most : Nat) (ways : List Nat) (found : List Int) : List Int := ways.foldl (fun f way => ((List.range most).foldl (stp n fs way) (unit n way, f)).2) found
theorem stp_len {n : Nat} {fs : Nat → List Nat} {way : Nat} : ∀ (ats : List Nat) (s : List Int × List Int), (ats.foldl (stp n fs way) s).2.length = s.2.length
  | [], s => rfl
  | t :: ats, s => by rw [List.foldl_cons, stp_len ats]; exact addAt_len _ _ _
theorem unit_len (n way : Nat) : (unit n way).length = n := by simp [unit]
theorem unit_pos (n way i : Nat) : 0 ≤ nth (unit n way) i := by
  unfold nth unit
  simp only [List.getD_eq_getElem?_getD, List.getElem?_map]
  by_cases h : i < n
  · simp [h]; split <;> omega
  · simp [h]
theorem iR1 {n : Nat} {i : Nat} {η : Env} (h : n ≤ 1000000) (hv : eVar i η M = .ok (.int (n : Nat)) M) : iA rR1 [eVar i] η M = .ok ((List.range n).map natD) M :=
  iA_eq (ds := [.int (n : Nat)]) (by simp only [eArgs, hv, Res.bind_ok]) (rR1_nat h)
theorem iR1l {n : Nat} {i : Nat} {l : List D} {η : Env} (h : n ≤ 1000000) (hv : eVar i η M = .ok (.lst l) M) (hl : l.length = n) : iA rR1 [eB bLen [eVar i]] η M = .ok ((List.range n).map natD) M := by
  subst hl
  exact iA_eq (ds := [.int (l.length : Nat)]) (by simp only [eArgs, eB_eq (ds := [.lst l]) (f := bLen) (M := M) (M1 := M) (η := η) (Fs := [eVar i]) (by simp only [eArgs, hv, Res.bind_ok]) (bLen_lst), Res.bind_ok]) (rR1_nat h)
theorem folD_len (n : Nat) (fs : Nat → List Nat) : (folD n fs).length = n := by simp [folD]
theorem unit_lc {n way : Nat} {fs : Nat → List Nat} (hn : n ≤ 1000) (w most f c x6 x7 : D) : eLC [7] (.nm 7) (iA rR1 [(eB bLen [(eVar 3)])]) tNo (eIf (tOf dBl (eOp2 dEq (eVar 7) (eVar 2))) (eC (.int 1)) (eC (.int 0))) [w, most, natD way, .lst (folD n fs), f, c, x6, x7] M = .ok (.lst ((unit n way).map .int)) M := by
  refine eLC_eq (iR1l (by omega) rfl (folD_len n fs)) ?_ (by simp [unit]; exact Nat.le_trans hn (by decide))
  rw [unit, List.map_map]
  refine lcF_map fun j _ => ?_
  simp [t1F, elF, tNo, natD, wipeE]
  by_cases h : j = way
  · simp [h]
  · have h2 : ¬ (j : Int) = (way : Nat) := by omega
    simp [h, h2]
theorem unit_set {n way : Nat} (h : way < n) : (List.replicate n (0 : Int)).set way 1 = unit n way := by
  apply List.ext_getElem
  · simp [unit]
  · intro i h1 h2
    simp only [List.length_set, List.length_replicate] at h1
    simp only [unit, List.getElem_set, List.getElem_replicate, List.getElem_map, List.getElem_range]
    by_cases e : way = i
    · subst e; simp
    · simp [e, show ¬ i = way from fun z => e z.symm]
/-- the round walks of length m -/
def rcL (w : Web) (m : Nat) : Int := nth (rounds (waysL w.2).length (folL (waysL w.2)) m (List.range (waysL w.2).length) (List.replicate m 0)) (m - 1)
theorem rounds_len {n m : Nat} {fs : Nat → List Nat} : ∀ (ways : List Nat) (found : List Int), (rounds n fs m ways found).length = found.length
  | [], _ => rfl
  | way :: ways, found => by
    show (rounds n fs m ways _).length = _
    rw [rounds_len ways, stp_len]
theorem ix_last {l : List Int} (h : 0 < l.length) : dIx (.lst (l.map .int)) (.int (-1)) = some (.int (nth l (l.length - 1))) := by
  show (ixN (l.map D.int).length (-1)).bind _ = _
  have : ixN (l.map D.int).length (-1) = some (l.length - 1) := by
    unfold ixN
    rw [List.length_map, if_neg (by omega), if_pos (by omega)]
    congr 1
    omega
  rw [this]
  show (l.map D.int)[l.length - 1]? = _
  rw [List.getElem?_map, nth_get (show l.length - 1 < l.length by omega)]
  rfl
theorem neg1 (η : Env) : eNeg (eC (.int 1)) η M = .ok (.int (-1)) M := rfl
theorem eIx_eq {F G : EF} {η : Env} {M M1 M2 : Mem} {l : List D} {k d : D} (h1 : F η M = .ok (.lst l) M1) (h2 : G η M1 = .ok k M2) (h3 : dIx (.lst l) k = some d) : eIx F G η M = .ok d M2 := by
  unfold eIx
  rw [h1, Res.bind_ok, h2, Res.bind_ok]
  show Res.opt (dIx (.lst l) k) M2 = _
  rw [h3]
  rfl
theorem last_counts {F : EF} {η : Env} {w : Web} {m : Nat} (hm1 : 1 ≤ m) (h : F η M = .ok (.lst ((rounds (waysL w.2).length (folL (waysL w.2)) m (List.range (waysL w.2).length) (List.replicate m 0)).map .int)) M) : eIx F (eNeg (eC (.int 1))) η M = .ok (.int (rcL w m)) M := by
  have hlen : (rounds (waysL w.2).length (folL (waysL w.2)) m (List.range (waysL w.2).length) (List.replicate m 0)).length = m := by rw [rounds_len, List.length_replicate]
  refine eIx_eq h (neg1 η) ?_
  rw [ix_last (by rw [hlen]; omega), hlen]
  rfl
def sumR (n : Nat) (f : Nat → Int) : Int := ((List.range n).map f).sum
theorem nth_ledRow {c : Int} {k : Nat} : ∀ (js : List Nat) (l : List Int), (∀ j ∈ js, j < l.length) → nth (ledRow l js c) k = nth l k + c * (js.count k : Nat)
  | [], l, _ => by simp [ledRow]
  | j :: js, l, h => by
    have hj := h j List.mem_cons_self
    show nth (ledRow (addAt l j c) js c) k = _
    rw [nth_ledRow js _ (fun i hi => by rw [addAt_len]; exact h i (List.mem_cons_of_mem _ hi)), nth_addAt hj, List.count_cons]
    by_cases e : j = k
    · subst e
      simp only [if_true, beq_self_eq_true]
      rw [Int.natCast_add, Int.mul_add]
      simp; omega
    · simp [e]
theorem nth_fold {n : Nat} {fs : Nat → List Nat} {cs : List Int} {k : Nat} (hf : ∀ i < n, ∀ j ∈ fs i, j < n) : ∀ (is : List Nat) (l : List Int), l.length = n → (∀ i ∈ is, i < n) → nth (is.foldl (fun l i => ledRow l (fs i) (nth cs i)) l) k = nth l k + (is.map fun i => nth cs i * ((fs i).count k : Nat)).sum
  | [], l, _, _ => by simp
  | i :: is, l, hl, hi => by
    have hin := hi i List.mem_cons_self
    rw [List.foldl_cons, nth_fold hf is _ (by rw [ledRow_len, hl]) (fun j hj => hi j (List.mem_cons_of_mem _ hj)), nth_ledRow _ _ (fun j hj => by rw [hl]; exact hf i hin j hj), List.map_cons, List.sum_cons]
    omega
theorem nth_rep (n k : Nat) : nth (List.replicate n (0 : Int)) k = 0 := by
  unfold nth
  simp only [List.getD_eq_getElem?_getD, List.getElem?_replicate]
  split <;> rfl
theorem nth_ledL {n : Nat} {fs : Nat → List Nat} {cs : List Int} (hf : ∀ i < n, ∀ j ∈ fs i, j < n) (hl : cs.length = n) (k : Nat) : nth (ledL n fs cs) k = sumR n fun i => nth cs i * ((fs i).count k : Nat) := by
  unfold ledL sumR
  rw [nth_fold hf _ _ (by simp) (fun i hi => by rw [← hl]; exact List.mem_range.mp hi), nth_rep, hl, Int.zero_add]
/-- ways of t steps from way -/
def vec (n : Nat) (fs : Nat → List Nat) (way : Nat) : Nat → List Int
  | 0 => unit n way
  | t + 1 => ledL n fs (vec n fs way t)
theorem vec_len (n : Nat) (fs : Nat → List Nat) (way : Nat) : ∀ t, (vec n fs way t).length = n
  | 0 => unit_len n way
  | t + 1 => ledL_len _
theorem stp_vec {n : Nat} {fs : Nat → List Nat} {way : Nat} : ∀ (m : Nat) (f : List Int), ((List.range m).foldl (stp n fs way) (unit n way, f)).1 = vec n fs way m ∧ (f.length = f.length) ∧ ∀ k, k < f.length → nth ((List.range m).foldl (stp n fs way) (unit n way, f)).2 k = nth f k + if k < m then nth (vec n fs way (k + 1)) way else 0
  | 0, f => ⟨rfl, rfl, fun k _ => by simp⟩
  | m + 1, f => by
    obtain ⟨h1, _, h3⟩ := stp_vec (n := n) (fs := fs) (way := way) m f
    rw [List.range_succ, List.foldl_append]
    refine ⟨?_, rfl, fun k hk => ?_⟩
    · show ledL n fs ((List.range m).foldl (stp n fs way) (unit n way, f)).1 = _
      rw [h1]; rfl
    · show nth (addAt ((List.range m).foldl (stp n fs way) (unit n way, f)).2 m (nth (ledL n fs ((List.range m).foldl (stp n fs way) (unit n way, f)).1) way)) k = _
      rw [h1]
      by_cases hm : m < f.length
      · rw [nth_addAt (by rw [stp_len]; exact hm)]
        by_cases e : m = k
        · subst e
          rw [if_pos rfl, h3 m hm, if_neg (by omega), if_pos (by omega)]
          show _ = nth f m + nth (ledL n fs (vec n fs way m)) way
          omega
        · rw [if_neg e, h3 k hk]
          by_cases h : k < m
          · rw [if_pos h, if_pos (by omega)]
          · rw [if_neg h, if_neg (by omega)]
      · rw [addAt_out (by rw [stp_len]; exact hm), h3 k hk, if_pos (by omega), if_pos (by omega)]
theorem nth_rounds {n m : Nat} {fs : Nat → List Nat} {k : Nat} (hk : k < m) : ∀ (ways : List Nat) (f : List Int), k < f.length → nth (rounds n fs m ways f) k = nth f k + (ways.map fun way => nth (vec n fs way (k + 1)) way).sum
  | [], f, _ => by simp [rounds]
  | way :: ways, f, hf => by
    show nth (rounds n fs m ways ((List.range m).foldl (stp n fs way) (unit n way, f)).2) k = _
    rw [nth_rounds hk ways _ (by rw [stp_len]; exact hf), (stp_vec m f).2.2 k hf, if_pos hk, List.map_cons, List.sum_cons]
    omega
/-- whether j follows i, as a number -/
def B (ps : List (Int × Int)) (i j : Nat) : Int := if fol ps i j = true then 1 else 0
def V (ps : List (Int × Int)) (way : Nat) : Nat → Nat → Int
  | 0, j => if j = way then 1 else 0
  | t + 1, j => sumR ps.length fun i => V ps way t i * B ps i j
def tr (ps : List (Int × Int)) (m : Nat) : Int := sumR ps.length fun way => V ps way m way
theorem sumR_congr {n : Nat} {f g : Nat → Int} (h : ∀ i < n, f i = g i) : sumR n f = sumR n g := by
  unfold sumR
  congr 1
  exact List.map_congr_left fun i hi => h i (List.mem_range.mp hi)
theorem count_folL {ps : List (Int × Int)} {i j : Nat} (hj : j < ps.length) : ((folL ps i).count j : Int) = B ps i j := by
  unfold folL B
  by_cases h : fol ps i j = true
  · rw [List.count_filter h, if_pos h, List.Nodup.count List.nodup_range, if_pos (List.mem_range.mpr hj)]
    rfl
  · rw [if_neg h, List.count_eq_zero_of_not_mem (fun z => h (List.mem_filter.mp z).2)]
    rfl
theorem vec_V {ps : List (Int × Int)} {way : Nat} : ∀ t j, j < ps.length → nth (vec ps.length (folL ps) way t) j = V ps way t j
  | 0, j, hj => by
    simp only [vec, V, unit, nth, List.getD_eq_getElem?_getD, List.getElem?_map, List.getElem?_range hj]
    rfl
  | t + 1, j, hj => by
    have hf : ∀ i < ps.length, ∀ j ∈ folL ps i, j < ps.length := fun i _ j hj => List.mem_range.mp (List.mem_filter.mp hj).1
    show nth (ledL ps.length (folL ps) (vec ps.length (folL ps) way t)) j = _
    rw [nth_ledL hf (vec_len _ _ _ _)]
    exact sumR_congr fun i hi => by rw [vec_V t i hi, count_folL hj]
theorem rcL_tr (w : Web) {m : Nat} (h : 1 ≤ m) : rcL w m = tr (waysL w.2) m := by
  unfold rcL tr
  rw [nth_rounds (by omega) _ _ (by simp; omega), nth_rep, Int.zero_add]
  show sumR _ _ = _
  exact sumR_congr fun way hw => by rw [show m - 1 + 1 = m by omega, vec_V m way hw]
abbrev W := Nat × Int × Int × Bool
def fo (a b : W) : Bool := decide (b.2.1 = a.2.2.1) && !(decide (b.1 = a.1) && decide (b.2.2.2 ≠ a.2.2.2))
def two (q : Nat × Int × Int) : List W := [(q.1, q.2.1, q.2.2, false), (q.1, q.2.2, q.2.1, true)]
def wl (qs : List (Nat × Int × Int)) : List W := qs.flatMap two
def g0 (ps : List (Int × Int)) (i : Nat) : W := (i / 2, (nth ps i).1, (nth ps i).2, decide (i % 2 = 1))
theorem tr_Tt (ps : List (Int × Int)) (m : Nat) : tr ps m = Tt (List.range ps.length) (fol ps) m := by
  have h : ∀ way t j, V ps way t j = Nn (List.range ps.length) (fol ps) way t j := fun way t => by
    induction t with
    | zero => intro j; rfl
    | succ t ih =>
      intro j
      show sumR _ _ = (List.map _ _).sum
      unfold sumR
      congr 1
      exact List.map_congr_left fun i _ => by rw [ih i]; rfl
  unfold tr sumR Tt
  congr 1
  exact List.map_congr_left fun i _ => h i m i
theorem fo_g0 (ps : List (Int × Int)) (i j : Nat) : fo (g0 ps i) (g0 ps j) = fol ps i j := by
  have h : (decide (j / 2 = i / 2) && decide (decide (j % 2 = 1) ≠ decide (i % 2 = 1))) = decide (j = bk i) := by
    unfold bk
    by_cases h1 : i % 2 = 0
    · rw [if_pos h1]
      by_cases h2 : j = i + 1
      · have a1 : j / 2 = i / 2 := by omega
        have a2 : j % 2 = 1 := by omega
        have a3 : ¬ i % 2 = 1 := by omega
        simp [h2, a1, a2, a3]
        omega
      · by_cases a1 : j / 2 = i / 2
        · have a2 : ¬ j % 2 = 1 := by omega
          have a3 : ¬ i % 2 = 1 := by omega
          simp [h2, a2, a3]
        · simp [h2, a1]
    · rw [if_neg h1]
      by_cases h2 : j = i - 1
      · have a1 : j / 2 = i / 2 := by omega
        have a2 : ¬ j % 2 = 1 := by omega
        have a3 : i % 2 = 1 := by omega
        have a4 : (i - 1) / 2 = i / 2 := by omega
        have a5 : (i - 1) % 2 = 0 := by omega
        simp [h2, a3, a4, a5]
      · by_cases a1 : j / 2 = i / 2
        · have a2 : j % 2 = 1 := by omega
          have a3 : i % 2 = 1 := by omega
          simp [h2, a2, a3]
        · simp [h2, a1]
  unfold fo fol g0
  simp only
  rw [h]
theorem range_two : ∀ (ts : List (Int × Int)) (k : Nat), (List.range (waysL ts).length).map (fun i => ((k + i / 2 : Nat), (nth (waysL ts) i).1, (nth (waysL ts) i).2, decide (i % 2 = 1))) = wl ((List.range' k ts.length).zip ts)
  | [], k => rfl
  | t :: ts, k => by
    have hw : waysL (t :: ts) = t :: (t.2, t.1) :: waysL ts := rfl
    have ih := range_two ts (k + 1)
    rw [hw, List.length_cons, List.length_cons, List.range_succ_eq_map, List.map_cons, List.map_map, List.range_succ_eq_map, List.map_cons, List.map_map]
    show _ = wl ((k :: List.range' (k + 1) ts.length).zip (t :: ts))
    rw [List.zip_cons_cons]
    show _ = two (k, t) ++ wl ((List.range' (k + 1) ts.length).zip ts)
    rw [← ih]
    show _ :: _ :: _ = (k, t.1, t.2, false) :: (k, t.2, t.1, true) :: _
    congr 1
    congr 1
    refine List.map_congr_left fun i _ => ?_
    have h1 : (i + 1 + 1) / 2 = i / 2 + 1 := by omega
    have h2 : (i + 1 + 1) % 2 = i % 2 := by omega
    have h3 : nth (t :: (t.2, t.1) :: waysL ts) (i + 1 + 1) = nth (waysL ts) i := rfl
    simp only [Function.comp, Nat.succ_eq_add_one, h1, h2, h3]
    congr 1
    omega
theorem tr_wl (ts : List (Int × Int)) (m : Nat) : tr (waysL ts) m = Tt (wl ((List.range' 0 ts.length).zip ts)) fo m := by
  rw [tr_Tt, ← range_two ts 0]
  have e : (fun i : Nat => ((0 + i / 2 : Nat), (nth (waysL ts) i).1, (nth (waysL ts) i).2, decide (i % 2 = 1))) = g0 (waysL ts) := by
    funext i
    unfold g0
    rw [Nat.zero_add]
  rw [e]
  refine (Tt_map (fun i _ j _ h => ?_) (fun i _ j _ => fo_g0 _ i j) m).symm
  unfold g0 at h
  have h1 := congrArg (·.1) h
  have h2 := congrArg (·.2.2.2) h
  simp only at h1 h2
  have h3 : (i % 2 = 1) ↔ (j % 2 = 1) := by simpa using h2
  omega
def trT (ts : List (Int × Int)) (m : Nat) : Int := Tt (wl ((List.range' 0 ts.length).zip ts)) fo m
theorem wl_map {g : Nat → Nat} (qs : List (Nat × Int × Int)) : (wl qs).map (fun w => (g w.1, w.2)) = wl (qs.map fun q => (g q.1, q.2)) := by
  unfold wl
  rw [List.map_flatMap, List.flatMap_map]
  rfl
theorem mem_wl {qs : List (Nat × Int × Int)} {w : W} (h : w ∈ wl qs) : ∃ q ∈ qs, w.1 = q.1 ∧ ((w.2.1 = q.2.1 ∧ w.2.2.1 = q.2.2 ∧ w.2.2.2 = false) ∨ (w.2.1 = q.2.2 ∧ w.2.2.1 = q.2.1 ∧ w.2.2.2 = true)) := by
  obtain ⟨q, hq, hw⟩ := List.mem_flatMap.mp h
  refine ⟨q, hq, ?_⟩
  simp only [two, List.mem_cons, List.not_mem_nil, or_false] at hw
  rcases hw with rfl | rfl
  · exact ⟨rfl, .inl ⟨rfl, rfl, rfl⟩⟩
  · exact ⟨rfl, .inr ⟨rfl, rfl, rfl⟩⟩
theorem zip_ids (ids : List Nat) (ts : List (Int × Int)) (hl : ids.length = ts.length) : ((List.range' 0 ts.length).zip ts).map (fun q => (ids.getD q.1 0, q.2)) = ids.zip ts := by
  apply List.ext_getElem
  · simp [hl]
  · intro i h1 h2
    simp only [List.length_map, List.length_zip, List.length_range'] at h1
    have h3 : i < ids.length := by omega
    simp [h3]
theorem Tt_ids {ids : List Nat} {ts : List (Int × Int)} (hl : ids.length = ts.length) (hd : ids.Nodup) (m : Nat) : Tt (wl (ids.zip ts)) fo m = trT ts m := by
  unfold trT
  have e : wl (ids.zip ts) = (wl ((List.range' 0 ts.length).zip ts)).map (fun w : W => (ids.getD w.1 0, w.2)) := by rw [wl_map (g := fun k => ids.getD k 0), zip_ids ids ts hl]
  have lt : ∀ w ∈ wl ((List.range' 0 ts.length).zip ts), w.1 < ids.length := fun w hw => by
    obtain ⟨q, hq, h1, _⟩ := mem_wl hw
    have := (List.of_mem_zip hq).1
    rw [h1]
    simp at this
    omega
  have inj : ∀ a ∈ wl ((List.range' 0 ts.length).zip ts), ∀ b ∈ wl ((List.range' 0 ts.length).zip ts), ids.getD a.1 0 = ids.getD b.1 0 → a.1 = b.1 := fun a ha b hb h => by
    have h1 := lt a ha
    have h2 := lt b hb
    simp only [List.getD_eq_getElem?_getD, List.getElem?_eq_getElem h1, List.getElem?_eq_getElem h2, Option.getD_some] at h
    rcases Nat.lt_trichotomy a.1 b.1 with z | z | z
    · exact absurd h (List.pairwise_iff_getElem.mp hd _ _ h1 h2 z)
    · exact z
    · exact absurd h.symm (List.pairwise_iff_getElem.mp hd _ _ h2 h1 z)
  rw [e]
  refine Tt_map (fun a ha b hb h => ?_) (fun a ha b hb => ?_) m
  · have h1 := congrArg (·.1) h
    have h2 := congrArg (·.2) h
    simp only at h1 h2
    exact Prod.ext (inj a ha b hb h1) h2
  · unfold fo
    simp only
    by_cases h : b.1 = a.1
    · simp only [h, decide_true]
    · have : ¬ ids.getD b.1 0 = ids.getD a.1 0 := fun z => h (inj b hb a ha z)
      simp only [h, this, decide_false]
theorem zip_perm {ts ts' : List (Int × Int)} (h : ts.Perm ts') : ∀ ids : List Nat, ids.length = ts.length → ∃ ids' : List Nat, ids'.Perm ids ∧ (ids.zip ts).Perm (ids'.zip ts') := by
  induction h with
  | nil => exact fun ids _ => ⟨ids, .refl _, .refl _⟩
  | cons x h ih =>
    intro ids hl
    cases ids with
    | nil => simp at hl
    | cons i is =>
      obtain ⟨is', h1, h2⟩ := ih is (by simpa using hl)
      exact ⟨i :: is', h1.cons i, h2.cons _⟩
  | swap x y l =>
    intro ids hl
    cases ids with
    | nil => simp at hl
    | cons i is =>
      cases is with
      | nil => simp at hl
      | cons j is => exact ⟨j :: i :: is, .swap _ _ _, .swap _ _ _⟩
  | trans h1 h2 ih1 ih2 =>
    intro ids hl
    obtain ⟨is', a1, a2⟩ := ih1 ids hl
    obtain ⟨is'', b1, b2⟩ := ih2 is' (by rw [a1.length_eq, hl, h1.length_eq])
    exact ⟨is'', b1.trans a1, a2.trans b2⟩
theorem wl_perm {qs qs' : List (Nat × Int × Int)} (h : qs.Perm qs') : (wl qs).Perm (wl qs') := List.Perm.flatMap_right _ h
theorem trT_perm {ts ts' : List (Int × Int)} (h : ts.Perm ts') (m : Nat) : trT ts m = trT ts' m := by
  obtain ⟨ids', h1, h2⟩ := zip_perm h (List.range' 0 ts.length) (by simp)
  have hd : ids'.Nodup := h1.nodup_iff.mpr List.nodup_range'
  rw [← Tt_ids (ids := ids') (ts := ts') (by rw [h1.length_eq, List.length_range', h.length_eq]) hd m]
  exact Tt_perm (wl_perm h2) fo m
/-- both ends by sp, the less one ahead -/
def reT (sp : Int → Int) (t : Int × Int) : Int × Int := if sp t.1 ≤ sp t.2 then (sp t.1, sp t.2) else (sp t.2, sp t.1)
/-- whether the tie of a way is turned by sp -/
def turnd (sp : Int → Int) (w : W) : Bool := if w.2.2.2 = false then !decide (sp w.2.1 ≤ sp w.2.2.1) else !decide (sp w.2.2.1 ≤ sp w.2.1)
def gR (sp : Int → Int) (w : W) : W := (w.1, sp w.2.1, sp w.2.2.1, Bool.xor w.2.2.2 (turnd sp w))
theorem two_gR (sp : Int → Int) (k : Nat) (t : Int × Int) : ((two (k, t)).map (gR sp)).Perm (two (k, reT sp t)) := by
  obtain ⟨x, y⟩ := t
  by_cases h : sp x ≤ sp y
  · have e : (two (k, (x, y))).map (gR sp) = two (k, reT sp (x, y)) := by simp [two, gR, turnd, reT, h]
    rw [e]
  · have e : (two (k, (x, y))).map (gR sp) = [(k, sp x, sp y, true), (k, sp y, sp x, false)] := by simp [two, gR, turnd, h]
    have e2 : two (k, reT sp (x, y)) = [(k, sp y, sp x, false), (k, sp x, sp y, true)] := by simp [two, reT, h]
    rw [e, e2]
    exact .swap _ _ _
theorem wl_gR (sp : Int → Int) : ∀ (ids : List Nat) (ts : List (Int × Int)), ((wl (ids.zip ts)).map (gR sp)).Perm (wl (ids.zip (ts.map (reT sp))))
  | [], _ => .refl _
  | _ :: _, [] => .refl _
  | k :: ids, t :: ts => by
    show ((two (k, t) ++ wl (ids.zip ts)).map (gR sp)).Perm (two (k, reT sp t) ++ wl (ids.zip (ts.map (reT sp))))
    rw [List.map_append]
    exact (two_gR sp k t).append (wl_gR sp ids ts)
theorem same_tie {ts : List (Int × Int)} {a b : W} (ha : a ∈ wl ((List.range' 0 ts.length).zip ts)) (hb : b ∈ wl ((List.range' 0 ts.length).zip ts)) (h : a.1 = b.1) : ∃ t ∈ ts, ((a.2.1 = t.1 ∧ a.2.2.1 = t.2 ∧ a.2.2.2 = false) ∨ (a.2.1 = t.2 ∧ a.2.2.1 = t.1 ∧ a.2.2.2 = true)) ∧ ((b.2.1 = t.1 ∧ b.2.2.1 = t.2 ∧ b.2.2.2 = false) ∨ (b.2.1 = t.2 ∧ b.2.2.1 = t.1 ∧ b.2.2.2 = true)) := by
  obtain ⟨q, hq, h1, h2⟩ := mem_wl ha
  obtain ⟨q', hq', h3, h4⟩ := mem_wl hb
  have key : ∀ q ∈ (List.range' 0 ts.length).zip ts, ts[q.1]? = some q.2 := fun q hq => by
    obtain ⟨i, hi, e⟩ := List.getElem_of_mem hq
    rw [← e]
    simp only [List.length_zip, List.length_range'] at hi
    simp
  have e1 := key q hq
  have e2 := key q' hq'
  rw [← h1, h] at e1
  rw [← h3] at e2
  rw [e1] at e2
  have e3 : q.2 = q'.2 := Option.some.inj e2
  refine ⟨q.2, (List.of_mem_zip hq).2, h2, ?_⟩
  rw [e3]
  exact h4
theorem trT_re {sp : Int → Int} {ts : List (Int × Int)} {n : Int} (hp : ∀ t ∈ ts, (0 ≤ t.1 ∧ t.1 < n) ∧ 0 ≤ t.2 ∧ t.2 < n) (hs : ∀ x y, 0 ≤ x → x < n → 0 ≤ y → y < n → sp x = sp y → x = y) (m : Nat) : trT (ts.map (reT sp)) m = trT ts m := by
  unfold trT
  rw [List.length_map, ← Tt_perm (wl_gR sp (List.range' 0 ts.length) ts)]
  have ends : ∀ a ∈ wl ((List.range' 0 ts.length).zip ts), (0 ≤ a.2.1 ∧ a.2.1 < n) ∧ 0 ≤ a.2.2.1 ∧ a.2.2.1 < n := fun a ha => by
    obtain ⟨q, hq, _, h⟩ := mem_wl ha
    have := hp q.2 (List.of_mem_zip hq).2
    rcases h with ⟨h1, h2, _⟩ | ⟨h1, h2, _⟩ <;> rw [h1, h2]
    · exact this
    · exact ⟨this.2, this.1⟩
  have turn_same : ∀ a ∈ wl ((List.range' 0 ts.length).zip ts), ∀ b ∈ wl ((List.range' 0 ts.length).zip ts), a.1 = b.1 → turnd sp a = turnd sp b := fun a ha b hb h => by
    obtain ⟨t, _, h1, h2⟩ := same_tie ha hb h
    unfold turnd
    rcases h1 with ⟨a1, a2, a3⟩ | ⟨a1, a2, a3⟩ <;> rcases h2 with ⟨b1, b2, b3⟩ | ⟨b1, b2, b3⟩ <;> simp [a1, a2, a3, b1, b2, b3]
  refine Tt_map (fun a ha b hb h => ?_) (fun a ha b hb => ?_) m
  · have h1 := congrArg (·.1) h
    have h2 := congrArg (·.2.1) h
    have h3 := congrArg (·.2.2.1) h
    have h4 := congrArg (·.2.2.2) h
    simp only [gR] at h1 h2 h3 h4
    obtain ⟨⟨a1, a2⟩, a3, a4⟩ := ends a ha
    obtain ⟨⟨b1, b2⟩, b3, b4⟩ := ends b hb
    have e2 := hs _ _ a1 a2 b1 b2 h2
    have e3 := hs _ _ a3 a4 b3 b4 h3
    rw [turn_same a ha b hb h1] at h4
    have e4 : a.2.2.2 = b.2.2.2 := by
      cases x : a.2.2.2 <;> cases y : b.2.2.2 <;> cases z : turnd sp b <;> simp [x, y, z] at h4 <;> rfl
    exact Prod.ext h1 (Prod.ext e2 (Prod.ext e3 e4))
  · obtain ⟨⟨a1, a2⟩, a3, a4⟩ := ends a ha
    obtain ⟨⟨b1, b2⟩, b3, b4⟩ := ends b hb
    have e1 : decide (sp b.2.1 = sp a.2.2.1) = decide (b.2.1 = a.2.2.1) := by
      by_cases z : b.2.1 = a.2.2.1
      · simp [z]
      · have : ¬ sp b.2.1 = sp a.2.2.1 := fun q => z (hs _ _ b1 b2 a3 a4 q)
        simp [z, this]
    unfold fo gR
    simp only [e1]
    by_cases h : b.1 = a.1
    · rw [turn_same b hb a ha h]
      cases a.2.2.2 <;> cases b.2.2.2 <;> cases turnd sp a <;> simp [h]
    · simp [h]
def shf (k : Int) (t : Int × Int) : Int × Int := (t.1 + k, t.2 + k)
theorem reT_shf {k : Int} {t : Int × Int} (h : t.1 ≤ t.2) : reT (· + k) t = shf k t := by
  unfold reT shf
  simp only
  rw [if_pos (by omega)]
theorem wl_app (a b : List (Nat × Int × Int)) : wl (a ++ b) = wl a ++ wl b := List.flatMap_append
theorem trT_side {ts ts2 : List (Int × Int)} {k n : Int} (h1 : ∀ t ∈ ts, t.1 < k ∧ t.2 < k) (h2 : ∀ t ∈ ts2, 0 ≤ t.1 ∧ t.1 ≤ t.2 ∧ t.2 < n) (m : Nat) : trT (ts ++ ts2.map (shf k)) m = trT ts m + trT ts2 m := by
  have e : (List.range' 0 (ts ++ ts2.map (shf k)).length).zip (ts ++ ts2.map (shf k)) = (List.range' 0 ts.length).zip ts ++ (List.range' ts.length ts2.length).zip (ts2.map (shf k)) := by
    have := List.range'_append_1 (s := 0) (m := ts.length) (n := ts2.length)
    rw [Nat.zero_add] at this
    rw [List.length_append, List.length_map, ← this, List.zip_append (by simp)]
  have ends : ∀ (ids : List Nat) (l : List (Int × Int)) (w : W), w ∈ wl (ids.zip l) → ∃ t ∈ l, (w.2.1 = t.1 ∧ w.2.2.1 = t.2) ∨ (w.2.1 = t.2 ∧ w.2.2.1 = t.1) := fun ids l w hw => by
    obtain ⟨q, hq, _, h⟩ := mem_wl hw
    refine ⟨q.2, (List.of_mem_zip hq).2, ?_⟩
    rcases h with ⟨a1, a2, _⟩ | ⟨a1, a2, _⟩
    · exact .inl ⟨a1, a2⟩
    · exact .inr ⟨a1, a2⟩
  have eA : ∀ w ∈ wl ((List.range' 0 ts.length).zip ts), w.2.1 < k ∧ w.2.2.1 < k := fun w hw => by
    obtain ⟨t, ht, h⟩ := ends _ _ w hw
    have := h1 t ht
    rcases h with ⟨a1, a2⟩ | ⟨a1, a2⟩ <;> rw [a1, a2] <;> omega
  have eB : ∀ w ∈ wl ((List.range' ts.length ts2.length).zip (ts2.map (shf k))), k ≤ w.2.1 ∧ k ≤ w.2.2.1 := fun w hw => by
    obtain ⟨t, ht, h⟩ := ends _ _ w hw
    obtain ⟨t', ht', rfl⟩ := List.mem_map.mp ht
    have := h2 t' ht'
    unfold shf at h
    rcases h with ⟨a1, a2⟩ | ⟨a1, a2⟩ <;> rw [a1, a2] <;> simp only <;> omega
  have ap : trT (ts ++ ts2.map (shf k)) m = trT ts m + Tt (wl ((List.range' ts.length ts2.length).zip (ts2.map (shf k)))) fo m := by
    unfold trT
    rw [e, wl_app, Tt_apart (fun a ha b hb => ?_) (fun a ha hb => ?_) m]
    · have := eA a ha
      have := eB b hb
      unfold fo
      refine ⟨?_, ?_⟩
      · rw [decide_eq_false (by omega)]; rfl
      · rw [decide_eq_false (by omega)]; rfl
    · have := eA a ha
      have := eB a hb
      omega
  rw [ap, Tt_ids (by simp) List.nodup_range']
  congr 1
  have e3 : ts2.map (shf k) = ts2.map (reT (· + k)) := List.map_congr_left fun t ht => (reT_shf (h2 t ht).2.1).symm
  rw [e3]
  exact trT_re (n := n) (fun t ht => by have := h2 t ht; omega) (fun x y _ _ _ _ h => by omega) m
theorem sumR_one {n : Nat} {way : Nat} {g : Nat → Int} (h : way < n) : sumR n (fun i => (if i = way then 1 else 0) * g i) = g way := by
  unfold sumR
  induction n with
  | zero => omega
  | succ n ih =>
    rw [List.range_succ, List.map_append, List.sum_append]
    by_cases e : way = n
    · subst e
      have z : ((List.range way).map fun i => (if i = way then (1 : Int) else 0) * g i).sum = 0 := by
        have : ((List.range way).map fun i => (if i = way then (1 : Int) else 0) * g i) = (List.range way).map fun _ => (0 : Int) := List.map_congr_left fun i hi => by
          have := List.mem_range.mp hi
          rw [if_neg (by omega), Int.zero_mul]
        rw [this]
        generalize List.range way = l
        induction l with
        | nil => rfl
        | cons x l ih => rw [List.map_cons, List.sum_cons, ih]; rfl
      rw [z]; simp
    · rw [ih (by omega)]
      simp [show ¬ n = way from fun z => e z.symm]
theorem bk_ne (i : Nat) : ¬ i = bk i := by unfold bk; split <;> omega
theorem tr_1 (ps : List (Int × Int)) : tr ps 1 = ((ps.filter fun t => decide (t.1 = t.2)).length : Nat) := by
  have h1 : tr ps 1 = sumR ps.length fun i => if (nth ps i).1 = (nth ps i).2 then 1 else 0 := by
    unfold tr
    refine sumR_congr fun i hi => ?_
    show sumR ps.length (fun c => (if c = i then 1 else 0) * B ps c i) = _
    rw [sumR_one hi]
    unfold B fol
    by_cases h : (nth ps i).1 = (nth ps i).2
    · simp [h, bk_ne i]
    · simp [h]
  rw [h1]
  unfold sumR
  clear h1
  induction ps with
  | nil => rfl
  | cons p ps ih =>
    rw [List.length_cons, List.range_succ_eq_map, List.map_cons, List.map_map, List.sum_cons]
    have e : (List.range ps.length).map ((fun i => if (nth (p :: ps) i).1 = (nth (p :: ps) i).2 then (1 : Int) else 0) ∘ Nat.succ) = (List.range ps.length).map fun i => if (nth ps i).1 = (nth ps i).2 then 1 else 0 := rfl
    rw [e, ih]
    show (if p.1 = p.2 then (1 : Int) else 0) + _ = _
    by_cases h : p.1 = p.2
    · simp [h]; omega
    · simp [h]
theorem tr_loops (ts : List (Int × Int)) : tr (waysL ts) 1 = 2 * ((ts.filter fun t => decide (t.1 = t.2)).length : Nat) := by
  rw [tr_1]
  induction ts with
  | nil => rfl
  | cons t ts ih =>
    have hw : waysL (t :: ts) = t :: (t.2, t.1) :: waysL ts := rfl
    rw [hw]
    rw [List.filter_cons, List.filter_cons, List.filter_cons]
    by_cases h : t.1 = t.2
    · have h' : t.2 = t.1 := h.symm
      rw [if_pos (by simpa using h), if_pos (by simpa using h'), if_pos (by simpa using h), List.length_cons, List.length_cons, List.length_cons]
      omega
    · have h' : ¬ t.2 = t.1 := fun z => h z.symm
      rw [if_neg (by simpa using h), if_neg (by simpa using h'), if_neg (by simpa using h)]
      exact ih
def kA : TF := (tOf dBl (eOp2 dNe (eVar 2) (eLst [])))
def kB : SF := (sSeq (sPop 2 3) (sSeq (sIf (tOo (tOf dTru (eIsi "bool" (eVar 3))) (tOf dBl (eOp2 dIs (eVar 3) (eC .non)))) (sSeq (sApp 1 (eB bRepr [(eVar 3)])) sNil) (sSeq (sIf (tOf dTru (eIsi "int" (eVar 3))) (sSeq (sApp 1 (eC (.str "number"))) sNil) (sSeq (sIf (tOf dTru (eIsi "str" (eVar 3))) (sSeq (sApp 1 (eC (.str "string"))) sNil) (sSeq (sIf (tOo (tOf dTru (eIsi "list" (eVar 3))) (tOf dTru (eIsi "tuple" (eVar 3)))) (sSeq (sApp 1 (eIf (tOf dTru (eIsi "list" (eVar 3))) (eC (.str "list")) (eC (.str "tuple")))) (sSeq (sSet 2 (eOp2 dAdd (eVar 2) (eB bList [(eVar 3)]))) sNil)) (sSeq (sIf (tOf dTru (eIsi "dict" (eVar 3))) (fun _ _ => .bad) (sSeq (sApp 1 (eC (.str "other"))) sNil)) sNil)) sNil)) sNil)) sNil)) sNil))
theorem kinds_loop : ∀ (n : Nat) (line : List D) (found : List Str) (th x3 x4 : D), nods line ≤ n → found.length + nods line ≤ 100000 → flats line = true → deps line ≤ 63 → ∃ y3 y4,
    whileF kA kB (n + 1) [th, .lst (found.map .str), .lst line, x3, x4] M = .ok (.nx [th, .lst ((found ++ kindLs line).map .str), .lst [], y3, y4]) M := by
  intro n
  induction n with
  | zero =>
    intro line found th x3 x4 h1 h2 h3 h4
    cases line with
    | cons d l => exact absurd (Nat.le_trans (nods_len (d :: l)) h1) (by simp)
    | nil =>
      refine ⟨x3, x4, ?_⟩
      have e : dNe (.lst []) (.lst []) = some (.bl false) := by rfl
      simp [whileF, kA, e, kindLs]
  | succ n ih =>
    intro line found th x3 x4 h1 h2 h3 h4
    rcases List.eq_nil_or_concat line with rfl | ⟨l, d, rfl⟩
    · refine ⟨x3, x4, ?_⟩
      have e : dNe (.lst []) (.lst []) = some (.bl false) := by rfl
      simp [whileF, kA, e, kindLs]
    · simp only [List.concat_eq_append] at *
      rw [nods_app] at h1 h2
      rw [flats_app] at h3
      rw [deps_app] at h4
      simp only [flats, nods, deps, Bool.and_true, Bool.and_eq_true, Nat.add_zero, Nat.max_zero] at h1 h2 h3 h4
      have h4a : deps l ≤ 63 := Nat.le_trans (Nat.le_max_left _ _) h4
      have h4b : dep d ≤ 63 := Nat.le_trans (Nat.le_max_right _ _) h4
      have hne : dNe (.lst (l ++ [d])) (.lst []) = some (.bl true) := by
        have h5 : flat (.lst (l ++ [d])) = true := by simp [flat, flats_app, flats, h3]
        have h6 : dep (.lst (l ++ [d])) ≤ 64 := by
          simp only [dep, deps_app, deps, Nat.max_zero]
          have := Nat.max_le.mpr ⟨h4a, h4b⟩
          omega
        have h7 : eqD (.lst (l ++ [d])) (.lst []) = false := by
          cases l <;> simp [eqD, eqDs]
        have h8 : cmpOk (.lst (l ++ [d])) (.lst []) = true := by
          simp only [cmpOk, h5, h6, decide_true, Bool.true_and]
          rfl
        simp only [dNe, h8, if_true, h7, Bool.not_false]
      have hk : kindLs (l ++ [d]) = kindL d ++ kindLs l := by rw [kindLs_app]; simp [kindLs]
      have hf : ∀ k : Str, found.map D.str ++ [D.str k] = (found ++ [k]).map D.str := fun k => by simp
      have hz : found.length < sizeLine := lt_line (by omega)
      have nd : 1 ≤ nod d := by cases d <;> simp [nod]
      have fin : ∀ (k : Str) (ds : List D), nods ds + 1 ≤ nod d → flats ds = true → deps ds ≤ 63 → kindL d = k :: kindLs ds → ∀ x3 x4, ∃ y3 y4,
          whileF kA kB (n + 1) [th, .lst ((found ++ [k]).map .str), .lst (l ++ ds), x3, x4] M = .ok (.nx [th, .lst ((found ++ (kindL d ++ kindLs l)).map .str), .lst [], y3, y4]) M := fun k ds q1 q2 q3 q4 x3 x4 => by
        obtain ⟨y3, y4, e2⟩ := ih (l ++ ds) (found ++ [k]) th x3 x4 (by rw [nods_app]; omega) (by rw [nods_app, List.length_append, List.length_singleton]; omega) (by rw [flats_app, h3.1, q2]; rfl) (by rw [deps_app]; exact Nat.max_le.mpr ⟨h4a, q3⟩)
        refine ⟨y3, y4, ?_⟩
        rw [e2, kindLs_app, q4]
        simp
      have fin0 : ∀ (k : Str), kindL d = [k] → ∀ x3 x4, ∃ y3 y4,
          whileF kA kB (n + 1) [th, .lst ((found ++ [k]).map .str), .lst l, x3, x4] M = .ok (.nx [th, .lst ((found ++ (kindL d ++ kindLs l)).map .str), .lst [], y3, y4]) M := fun k q4 x3 x4 => by
        have := fin k [] (by simpa [nods] using nd) rfl (by simp [deps]) (by simpa [kindLs] using q4) x3 x4
        simpa using this
      rw [hk]
      have go : ∀ {η' : Env} {r : Res Ctl}, kB [th, .lst (found.map .str), .lst (l ++ [d]), x3, x4] M = .ok (.nx η') M → whileF kA kB (n + 1) η' M = r → whileF kA kB (n + 1 + 1) [th, .lst (found.map .str), .lst (l ++ [d]), x3, x4] M = r := fun e1 e2 => by
        have ea : kA [th, .lst (found.map .str), .lst (l ++ [d]), x3, x4] M = .ok true M := by simp [kA, hne]
        rw [whileF, ea, Res.bind_ok, if_pos rfl, e1, Res.bind_ok]
        exact e2
      have hget : (l ++ [d])[(l ++ [d]).length - 1]? = some d := by simp
      cases d with
      | und => simp [flat] at h3
      | dct _ _ => simp [flat] at h3
      | ref _ => simp [flat] at h3
      | exc _ _ _ => simp [flat] at h3
      | scr _ => simp [flat] at h3
      | non =>
        obtain ⟨y3, y4, e2⟩ := fin0 "None" rfl .non x4
        refine ⟨y3, y4, go ?_ e2⟩
        simp [kB, sPop, sApp, hz, bRepr, dIs, isNon]
      | bl b =>
        obtain ⟨y3, y4, e2⟩ := fin0 (if b then "True" else "False") rfl (.bl b) x4
        refine ⟨y3, y4, go ?_ e2⟩
        simp [kB, sPop, sApp, hz, bRepr, dIs, isNon]
      | int i =>
        obtain ⟨y3, y4, e2⟩ := fin0 "number" rfl (.int i) x4
        refine ⟨y3, y4, go ?_ e2⟩
        simp [kB, sPop, sApp, hz, bRepr, dIs, isNon]
      | str s =>
        obtain ⟨y3, y4, e2⟩ := fin0 "string" rfl (.str s) x4
        refine ⟨y3, y4, go ?_ e2⟩
        simp [kB, sPop, sApp, hz, bRepr, dIs, isNon]
      | tup ds =>
        simp only [nod] at h1 h2
        simp only [flat] at h3
        simp only [dep] at h4b
        obtain ⟨y3, y4, e2⟩ := fin "tuple" ds (by simp [nod]) h3.2 (by omega) rfl (.tup ds) x4
        refine ⟨y3, y4, go ?_ e2⟩
        have hz2 : l.length + ds.length ≤ sizeLine := by
          have a1 := nods_len l
          have a2 := nods_len ds
          exact le_line (by omega)
        simp [kB, sPop, sApp, hz, bRepr, dIs, isNon, bList, hz2]
      | lst ds =>
        simp only [nod] at h1 h2
        simp only [flat] at h3
        simp only [dep] at h4b
        obtain ⟨y3, y4, e2⟩ := fin "list" ds (by simp [nod]) h3.2 (by omega) rfl (.lst ds) x4
        refine ⟨y3, y4, go ?_ e2⟩
        have hz2 : l.length + ds.length ≤ sizeLine := by
          have a1 := nods_len l
          have a2 := nods_len ds
          exact le_line (by omega)
        simp [kB, sPop, sApp, hz, bRepr, dIs, isNon, bList, hz2]
theorem begun_loop : ∀ (ns : List Int) (s d : D) (wh : Int) (cs : List Int) (k : Nat), intBits wh ≤ k * 1048600 → k + ns.length ≤ 63 → cs.length + ns.length ≤ 63 → (∀ z ∈ ns, intBits z ≤ 1048576) → ∃ wh' d',
    forF (.nm 1) (sSeq (sIf (tOf dTru (eIsi "int" (eVar 1))) (sSeq (sIf (tOf dBl (eOp2 dGe (eVar 1) (eOp2 dPow (eC (.int 10)) (eC (.int 18))))) (sSeq (sSet 2 (eOp2 dAdd (eOp2 dMul (eVar 2) (eOp2 dAdd (eOp2 dSub (eVar 1) (eOp2 dPow (eC (.int 10)) (eC (.int 18)))) (eC (.int 1)))) (eOp2 dSub (eVar 1) (eOp2 dPow (eC (.int 10)) (eC (.int 18)))))) sNil) sNil) (sSeq (sApp 3 (eVar 1)) sNil)) sNil) sNil) (ns.map .int) [s, d, .int wh, .lst (cs.map .int)] M = .ok (.nx [s, d', .int wh', .lst ((cs ++ ns).map .int)]) M
  | [], s, d, wh, cs, k, _, _, _, _ => ⟨wh, d, by simp [forF]⟩
  | z :: ns, s, d, wh, cs, k, h1, h2, h3, h4 => by
    have hz := h4 z List.mem_cons_self
    simp only [List.length_cons] at h2 h3
    have hl : cs.length < sizeLine := lt_line (by omega)
    by_cases hg : 1000000000000000000 ≤ z
    · have b1 : intBits (z - 1000000000000000000) ≤ 1048577 := Nat.le_trans (intBits_sub_le hz (show intBits 1000000000000000000 ≤ 64 by decide)) (by decide)
      have b2 : intBits (z - 1000000000000000000 + 1) ≤ 1048578 := Nat.le_trans (intBits_add_le b1 (show intBits 1 ≤ 64 by decide)) (by decide)
      have b3 : IntMulOk wh (z - 1000000000000000000 + 1) := IntMulOk.of_le h1 b2 (by omega)
      have b4 : intBits (wh * (z - 1000000000000000000 + 1) + (z - 1000000000000000000)) ≤ (k + 1) * 1048600 := by
        refine Nat.le_trans (intBits_add_le (intBits_mul_le h1 b2) b1) ?_
        omega
      obtain ⟨wh', d', e⟩ := begun_loop ns s (.int z) (wh * (z - 1000000000000000000 + 1) + (z - 1000000000000000000)) (cs ++ [z]) (k + 1) b4 (by omega) (by simp; omega) fun x hx => h4 x (List.mem_cons_of_mem _ hx)
      refine ⟨wh', d', ?_⟩
      rw [List.append_assoc, List.singleton_append] at e
      rw [← e]
      simp [hg, dMul, b3, sApp, hl]
    · obtain ⟨wh', d', e⟩ := begun_loop ns s (.int z) wh (cs ++ [z]) (k + 1) (Nat.le_trans h1 (Nat.mul_le_mul_right _ (Nat.le_succ k))) (by omega) (by simp; omega) fun x hx => h4 x (List.mem_cons_of_mem _ hx)
      refine ⟨wh', d', ?_⟩
      rw [List.append_assoc, List.singleton_append] at e
      rw [← e]
      simp [hg, sApp, hl]
theorem r62_int {i j : Int} (h1 : -1000000 ≤ i) (h2 : i ≤ 1000000) (h3 : -1000000 ≤ j) (h4 : j ≤ 1000000) : r62 i j = true := by
  unfold r62
  simp only [Bool.and_eq_true, decide_eq_true_eq]
  have e : (2 : Int) ^ 62 = 4611686018427387904 := by decide
  rw [e]
  refine ⟨⟨⟨?_, ?_⟩, ?_⟩, ?_⟩ <;> omega
theorem rR1_int {i : Int} (h1 : -1000000 ≤ i) (h2 : i ≤ 1000000) : rR1 [.int i] = some ((List.range i.toNat).map natD) := by
  show (if r62 0 i = true then some (rgD 0 i) else none) = _
  rw [if_pos (r62_int (by omega) (by omega) h1 h2)]
  simp only [rgD, Int.sub_zero, Int.zero_add]
  rfl
theorem rR2_int {i j : Int} (h1 : -1000000 ≤ i) (h2 : i ≤ 1000000) (h3 : -1000000 ≤ j) (h4 : j ≤ 1000000) : rR2 [.int i, .int j] = some ((List.range (j - i).toNat).map fun (k : Nat) => .int (i + (k : Nat))) := by
  show (if r62 i j = true then some (rgD i j) else none) = _
  rw [if_pos (r62_int h1 h2 h3 h4)]
  rfl
theorem rR3_int {i j : Int} (h1 : -1000000 ≤ i) (h2 : i ≤ 1000000) (h3 : -1000000 ≤ j) (h4 : j ≤ 1000000) : rR3 [.int i, .int j, .int (-1)] = some (stD i (-1) (i - j).toNat) := by
  show (if (r62 i j && decide ((-1 : Int) = -1)) = true then some (stD i (-1) (i - j).toNat) else none) = _
  rw [if_pos (by rw [r62_int h1 h2 h3 h4]; rfl)]
def TiesIn (n : Int) (ts : List (Int × Int)) : Prop := ∀ t ∈ ts, 0 ≤ t.1 ∧ t.1 ≤ t.2 ∧ t.2 < n
theorem tle_merge_ok {n : Int} {ts : List (Int × Int)} (h1 : 1 ≤ n) (h8 : n ≤ 8) (h14 : ts.length ≤ 14) (h : TiesIn n ts) : WebOk (n, ts.mergeSort tle) :=
  ⟨h1, h8, by simpa [List.length_mergeSort] using h14, fun t ht => h t (List.mem_mergeSort.mp ht), srt_merge ts⟩
theorem ties_sorted {ts : List (Int × Int)} : bSorted [.lst (ts.map tieD)] = some (.lst ((ts.mergeSort tle).map tieD)) := sorted_ties ts
/-- a drawn tie more, a lap of the law's draws -/
theorem ring_ok {pl : Int} (h1 : 2 < pl) (h2 : pl ≤ 5) {η : Env} (h0 : eVar 3 η M = .ok (.int pl) M) (h7 : 7 < η.length) : ∃ ts : List (Int × Int), TiesIn pl ts ∧ (ts.length : Int) = pl ∧
    eOp2 dAdd (eLC [7] (.nm 7) (iA rR2 [(eC (.int 1)), (eVar 3)]) tNo (eTup [(eOp2 dSub (eVar 7) (eC (.int 1))), (eVar 7)])) (eLst [(eTup [(eC (.int 0)), (eOp2 dSub (eVar 3) (eC (.int 1)))])]) η M = .ok (.lst (ts.map tieD)) M := by
  refine ⟨((List.range (pl - 1).toNat).map fun (k : Nat) => ((1 + (k : Int) - 1, 1 + (k : Int)) : Int × Int)) ++ [(0, pl - 1)], fun t ht => ?_, by simp; omega, ?_⟩
  · rcases List.mem_append.mp ht with ht | ht
    · obtain ⟨k, hk, rfl⟩ := List.mem_map.mp ht
      have := List.mem_range.mp hk
      simp only
      omega
    · rw [List.mem_singleton.mp ht]
      simp only
      omega
  · have hr := rR2_int (i := 1) (j := pl) (by omega) (by omega) (by omega) (by omega)
    have e1 : eLC [7] (.nm 7) (iA rR2 [(eC (.int 1)), (eVar 3)]) tNo (eTup [(eOp2 dSub (eVar 7) (eC (.int 1))), (eVar 7)]) η M = .ok (.lst ((List.range (pl - 1).toNat).map fun (k : Nat) => tieD (1 + (k : Int) - 1, 1 + (k : Int)))) M := by
      refine eLC_eq (iA_eq (M1 := M) (ds := [.int 1, .int pl]) (by simp [h0]) hr) ?_ (by rw [List.length_map, List.length_range]; exact le_line (by omega))
      refine lcF_map fun k _ => ?_
      have hv : eVar 7 ((wipeE η [7]).set 7 (.int (1 + (k : Nat)))) M = .ok (.int (1 + (k : Nat))) M := by
        rw [eVar_at]
        simp [wipeE, List.getElem?_set, h7]
      simp [t1F, elF, tNo, hv, tieD]
    have e2 : eLst [(eTup [(eC (.int 0)), (eOp2 dSub (eVar 3) (eC (.int 1)))])] η M = .ok (.lst [tieD (0, pl - 1)]) M := by
      simp [h0, tieD]
    refine eOp2_eq e1 e2 ?_
    rw [dAdd_lst, if_pos (by simp; exact le_line (by omega))]
    simp
theorem dNe_ties (ts : List (Int × Int)) : dNe (.lst (ts.map tieD)) (.lst []) = some (.bl (!ts.isEmpty)) := by
  have h1 : flat (.lst (ts.map tieD)) = true := by simp only [flat]; exact flats_map flat_tie ts
  have h2 : dep (.lst (ts.map tieD)) ≤ 64 := by
    have := deps_map (f := tieD) (k := 1) (fun x => Nat.le_of_eq (dep_tie x)) ts
    simp only [dep]; omega
  have h3 : cmpOk (.lst (ts.map tieD)) (.lst []) = true := by
    simp only [cmpOk, h1, h2, decide_true, Bool.true_and]; rfl
  simp only [dNe, h3, if_true]
  cases ts <;> simp [eqD, eqDs]
theorem put_at {ds : List D} {j : Nat} {d : D} (h : j < ds.length) : dPutAt ds (.int (j : Nat)) d = some (ds.set j d) := put_nat h
/-- what is no number from lo to hi -/
def NoNum (lo hi : Int) (d : D) : Prop := (∃ i, d = .int i ∧ (i < lo ∨ hi < i)) ∨ (isTy "int" d = some (.bl false) ∨ ∃ b, d = .bl b)
def shT (k : Int) (t : Int × Int) : Int × Int := (t.1 + k, t.2 + k)
def lay (w v : Web) : Web := (w.1 + v.1, w.2 ++ v.2.map (shT w.1))
theorem tle_iff {p q : Int × Int} : tle p q = true ↔ (p.1 < q.1 ∨ (p.1 = q.1 ∧ p.2 ≤ q.2)) := decide_eq_true_iff
theorem map_shT (k : Int) (ts : List (Int × Int)) : (ts.map fun t => D.tup [.int (t.1 + k), .int (t.2 + k)]) = (ts.map (shT k)).map tieD := by
  rw [List.map_map]; rfl
theorem lay_ok {w v : Web} (h1 : WebOk w) (h2 : WebOk v) (h3 : (lay w v).1 ≤ 8) (h4 : (lay w v).2.length ≤ 14) : WebOk (lay w v) := by
  refine ⟨by have := h1.p1; have := h2.p1; simp only [lay]; omega, h3, h4, fun t ht => ?_, ?_⟩
  · have q1 := h1.p1
    have q2 := h2.p1
    rcases List.mem_append.mp ht with ht | ht
    · have := h1.ties t ht
      simp only [lay]; omega
    · obtain ⟨u, hu, rfl⟩ := List.mem_map.mp ht
      have := h2.ties u hu
      simp only [lay, shT]; omega
  · refine List.pairwise_append.mpr ⟨h1.srt, List.pairwise_map.mpr (h2.srt.imp fun {x y} h => ?_), fun x hx y hy => ?_⟩
    · have h := tle_iff.mp h
      refine tle_iff.mpr ?_
      simp only [shT]; omega
    · obtain ⟨u, hu, rfl⟩ := List.mem_map.mp hy
      have q1 := h1.ties x hx
      have q2 := h2.ties u hu
      refine tle_iff.mpr ?_
      simp only [shT]; omega
theorem keyB_ints (l : List Int) (x : Int) : ((l.map D.int).any fun k => keyB k (.int x)) = l.contains x := by
  induction l with
  | nil => rfl
  | cons y l ih =>
    have e : keyB (.int y) (.int x) = (y == x) := rfl
    have e2 : (x == y) = (y == x) := BEq.comm
    rw [List.map_cons, List.any_cons, ih, e, List.contains_cons, e2]
theorem spots_loop (η0 : Env) (h3 : 4 < η0.length) : ∀ (l l0 : List Int), (l0 ++ l).Nodup → (l0 ++ l).length ≤ 1000 → dcF (.tup [.nm 3, .nm 4]) tNo (eVar 4) (eVar 3) η0 (enD (l0.length : Nat) (l.map .int)) (l0.map .int) ((List.range l0.length).map natD) M = .ok ((l0 ++ l).map .int, (List.range (l0 ++ l).length).map natD) M
  | [], l0, _, _ => by simp [enD, dcF]
  | x :: l, l0, hn, hl => by
    have ih := spots_loop η0 h3 l (l0 ++ [x]) (by simpa using hn) (by simpa using hl)
    have e1 : eVar 4 ((η0.set 3 (.int (l0.length : Nat))).set 4 (.int x)) M = .ok (.int x) M := by
      rw [eVar_at]; simp [List.getElem?_set, h3]
    have e2 : eVar 3 ((η0.set 3 (.int (l0.length : Nat))).set 4 (.int x)) M = .ok (.int (l0.length : Nat)) M := by
      have : 3 < η0.length := by omega
      rw [eVar_at]; simp [List.getElem?_set, this]
    have hx : x ∉ l0 := fun h => by
      have := (List.nodup_append.mp hn).2.2 x h x List.mem_cons_self
      exact this rfl
    have hk : ((l0.map D.int).any fun k => keyB k (.int x)) = false := by
      rw [keyB_ints]; simpa using hx
    have hz : l0.length < sizeLine := lt_line (by simp at hl; omega)
    have hlen : ((l0 ++ [x]).length : Int) = (l0.length : Int) + 1 := by simp
    rw [hlen] at ih
    have ev : (List.range (l0 ++ [x]).length).map natD = (List.range l0.length).map natD ++ [natD l0.length] := by
      rw [List.length_append, List.length_singleton, List.range_succ, List.map_append]; rfl
    rw [ev, List.map_append, List.append_assoc, List.singleton_append] at ih
    rw [List.map_cons, enD, dcF]
    simp only [onB, bindP, bindP.bindPs, Option.bind_some, tNo, Res.only_ok, if_true, e1, e2, asKey, Option.isSome_some, List.length_map, hz, and_self, dPutK, dPutV, hk, Bool.false_eq_true, if_false]
    exact ih
theorem look_spot : ∀ (l : List Int) (k : Nat) (x : Int), x ∈ l → dLook (l.map .int) ((List.range' k l.length).map natD) (.int x) = some (.int ((k + l.idxOf x : Nat) : Int))
  | [], _, _, h => by cases h
  | y :: l, k, x, h => by
    rw [List.length_cons, List.range'_succ, List.map_cons, List.map_cons, dLook]
    have e : keyB (.int y) (.int x) = (y == x) := rfl
    rw [e]
    by_cases hy : y = x
    · subst hy
      simp [natD]
    · have hx : x ∈ l := by
        rcases List.mem_cons.mp h with h | h
        · exact absurd h.symm hy
        · exact h
      have := look_spot l (k + 1) x hx
      have hy2 : (y == x) = false := by simpa using hy
      rw [hy2, this, List.idxOf_cons, hy2]
      simp only [Bool.false_eq_true, if_false, cond_false]
      congr 2
      omega
def spL (l : List Int) (x : Int) : Int := (l.idxOf x : Nat)
theorem ix_spot {l : List Int} {x : Int} (h : x ∈ l) : dIx (.dct (l.map .int) ((List.range l.length).map natD)) (.int x) = some (.int (spL l x)) := by
  show ((asKey (.int x)).bind fun _ => dLook (l.map .int) ((List.range l.length).map natD) (.int x)) = _
  rw [asKey, Option.bind_some, List.range_eq_range', look_spot l 0 x h, Nat.zero_add]
  rfl
theorem sort2 (i j : Int) : [i, j].mergeSort (fun i j => decide (i ≤ j)) = if i ≤ j then [i, j] else [j, i] := by
  by_cases h : i ≤ j
  · rw [if_pos h]
    exact List.mergeSort_of_pairwise (by simp [h])
  · rw [if_neg h]
    have h2 : [j, i].mergeSort (fun i j => decide (i ≤ j)) = [j, i] := List.mergeSort_of_pairwise (by simp; omega)
    rw [← h2]
    refine List.Perm.eq_of_pairwise (le := fun i j : Int => i ≤ j) (fun x y _ _ h1 h2 => by omega) ?_ ?_ ?_
    · exact (List.pairwise_mergeSort (le := fun i j : Int => decide (i ≤ j)) (fun a b c h1 h2 => by simp at *; omega) (fun a b => by simp; omega) _).imp fun h => by simpa using h
    · exact (List.pairwise_mergeSort (le := fun i j : Int => decide (i ≤ j)) (fun a b c h1 h2 => by simp at *; omega) (fun a b => by simp; omega) _).imp fun h => by simpa using h
    · exact ((List.mergeSort_perm _ _).trans (.swap _ _ _)).trans (List.mergeSort_perm _ _).symm
theorem sort_range {l : List Int} {n : Nat} (h : l.Perm ((List.range n).map fun (i : Nat) => (i : Int))) : l.mergeSort (fun i j => decide (i ≤ j)) = (List.range n).map fun (i : Nat) => (i : Int) := by
  refine List.Perm.eq_of_pairwise (le := fun i j : Int => i ≤ j) (fun x y _ _ h1 h2 => by omega) ?_ ?_ ((List.mergeSort_perm _ _).trans h)
  · exact (List.pairwise_mergeSort (le := fun i j : Int => decide (i ≤ j)) (fun a b c h1 h2 => by simp at *; omega) (fun a b => by simp; omega) _).imp fun h => by simpa using h
  · exact List.pairwise_map.mpr (List.pairwise_lt_range.imp fun h => by omega)
def ren (l : List Int) (w : Web) : Web := (w.1, (w.2.map (reT (spL l))).mergeSort tle)
theorem dNe_refl {d : D} (h : flat d = true) (h2 : dep d ≤ 64) : dNe d d = some (.bl false) := by
  simp [dNe, cmpOk, h, h2, eqD_refl d h]
theorem flats_ints : ∀ l : List Int, flats (l.map .int) = true := fun l => flats_map (fun _ => rfl) l
theorem deps_ints : ∀ l : List Int, deps (l.map .int) ≤ 0 := fun l => deps_map (f := D.int) (k := 0) (fun _ => Nat.le_refl 0) l
theorem rgD_nat (n : Nat) : rgD 0 (n : Int) = ((List.range n).map fun (i : Nat) => (i : Int)).map .int := by
  simp [rgD]
theorem rgOk_nat {n : Nat} (h : n ≤ 1000) : rgOk 0 (n : Int) = true := by
  simp only [rgOk, Bool.and_eq_true, decide_eq_true_eq]
  have e : (2 : Int) ^ 62 = 4611686018427387904 := by decide
  rw [e]
  refine ⟨⟨⟨⟨by omega, by omega⟩, by omega⟩, by omega⟩, ?_⟩
  have e2 : (2 : Nat) ^ 24 = 16777216 := by decide
  rw [e2]
  omega
theorem eRg1_eq {mk : List D → D} {F : EF} {η : Env} {M1 : Mem} {i : Int} (h : F η M = .ok (.int i) M1) (ho : rgOk 0 i = true) : eRg1 mk F η M = .ok (mk (rgD 0 i)) M1 := by
  unfold eRg1
  rw [h, Res.bind_ok]
  simp only
  rw [if_pos ho]
theorem rc_trT (w : Web) {m : Nat} (h : 1 ≤ m) : rcL w m = trT w.2 m := by rw [rcL_tr w h, tr_wl]; rfl
theorem rc_ren {w : Web} (hw : WebOk w) {l : List Int} {n : Nat} (hn : w.1 = (n : Int)) (h : l.Perm ((List.range n).map fun (i : Nat) => (i : Int))) {m : Nat} (hm : 1 ≤ m) : rcL (ren l w) m = rcL w m := by
  have hmem : ∀ x : Int, 0 ≤ x → x < w.1 → x ∈ l := fun x h1 h2 => h.mem_iff.mpr (List.mem_map.mpr ⟨x.toNat, List.mem_range.mpr (by omega), by omega⟩)
  rw [rc_trT _ hm, rc_trT _ hm]
  show trT ((w.2.map (reT (spL l))).mergeSort tle) m = _
  rw [trT_perm (List.mergeSort_perm _ _)]
  refine trT_re (n := w.1) (fun t ht => ?_) (fun x y h1 h2 h3 h4 e => ?_) m
  · have := hw.ties t ht
    omega
  · have i1 := hmem x h1 h2
    have i2 := hmem y h3 h4
    unfold spL at e
    have e2 : l.idxOf x = l.idxOf y := by omega
    have g1 := List.getElem_idxOf (List.idxOf_lt_length_of_mem i1)
    have g2 := List.getElem_idxOf (List.idxOf_lt_length_of_mem i2)
    rw [← g1, ← g2]
    congr 1
theorem rc_lay {w v : Web} (hw : WebOk w) (hv : WebOk v) {m : Nat} (hm : 1 ≤ m) : rcL (lay w v) m = rcL w m + rcL v m := by
  rw [rc_trT _ hm, rc_trT _ hm, rc_trT _ hm]
  exact trT_side (k := w.1) (n := v.1) (fun t ht => by have := hw.ties t ht; omega) (fun t ht => hv.ties t ht) m
theorem rc_one (w : Web) : rcL w 1 = 2 * ((w.2.filter fun t => decide (t.1 = t.2)).length : Nat) := by rw [rcL_tr w (Nat.le_refl _), tr_loops]
theorem ren_ok {w : Web} (hw : WebOk w) {l : List Int} {n : Nat} (hn : w.1 = (n : Int)) (h : l.Perm ((List.range n).map fun (i : Nat) => (i : Int))) : WebOk (ren l w) := by
  have hlen : l.length = n := by rw [h.length_eq]; simp
  have hmem : ∀ x : Int, 0 ≤ x → x < w.1 → x ∈ l := fun x h1 h2 => h.mem_iff.mpr (List.mem_map.mpr ⟨x.toNat, List.mem_range.mpr (by omega), by omega⟩)
  have hsp : ∀ x : Int, 0 ≤ x → x < w.1 → 0 ≤ spL l x ∧ spL l x < w.1 := fun x h1 h2 => by
    have := List.idxOf_lt_length_of_mem (hmem x h1 h2)
    unfold spL
    omega
  refine tle_merge_ok hw.p1 hw.p8 (by rw [List.length_map]; exact hw.t14) fun t ht => ?_
  obtain ⟨u, hu, rfl⟩ := List.mem_map.mp ht
  obtain ⟨q1, q2, q3⟩ := hw.ties u hu
  have h1 := hsp u.1 q1 (by omega)
  have h2 := hsp u.2 (by omega) q3
  unfold reT
  split <;> simp only <;> omega
theorem dMul_rep {d : D} {k : Nat} (h : k ≤ 1000) : dMul (.lst [d]) (.int (k : Nat)) = some (.lst (List.replicate k d)) := by
  have hz : k ≤ sizeLine := le_line (by omega)
  have e : (List.replicate k [d]).flatten = List.replicate k d := by
    induction k with
    | zero => rfl
    | succ n ih => rw [List.replicate_succ, List.flatten_cons, ih (by omega) (le_line (by omega))]; rfl
  simp only [dMul, List.length_singleton, Nat.one_mul, Int.toNat_natCast, e]
  rw [if_pos]
  have e1 : (2 : Int) ^ 63 = 9223372036854775808 := by decide
  rw [e1]
  exact ⟨by omega, by omega, hz⟩
end Tn

set_option Elab.async false
set_option linter.all false
set_option maxRecDepth 100000
set_option maxHeartbeats 4000000
namespace Tn
open PySem PySem.Spec PyProof.Rows L2
/-! ## comprehensions, told from the goal -/
section
variable {vs : List Nat} {P : Pat} {I : IF} {Ft : TF} {Fe : EF} {η : Env} {M : Mem} {α : Type} {xs : List α} {en g : α → D} {Q : D → Mem → Prop}
theorem wpLC (hI : I η M = .ok (xs.map en) M) (hz : xs.length ≤ 1000000) (h : ∀ x ∈ xs, ∃ η1, bindP P (en x) (wipeE η vs) = some η1 ∧ ∀ K : D → Mem → Prop, K (g x) M → (Fe η1 M).wp K) (hQ : Q (.lst (xs.map g)) M) : (eLC vs P I tNo Fe η M).wp Q := by
  have e : lcF (t1F P tNo Fe (wipeE η vs)) (xs.map en) M = .ok (xs.map g) M := lcF_map fun x hx => by
    obtain ⟨η1, e1, k⟩ := h x hx
    obtain ⟨d, m, e2, rfl, rfl⟩ := Res.wp_ex (k (fun d m => d = g x ∧ m = M) ⟨rfl, rfl⟩)
    unfold t1F onB elF tNo
    rw [e1]
    simp only [Res.only_ok, if_true, e2]
  rw [eLC_eq hI e (by rw [List.length_map]; exact le_line hz)]
  exact Res.wp_ok.mpr hQ
theorem wpLCf {p : α → Bool} (hI : I η M = .ok (xs.map en) M) (hz : xs.length ≤ 1000000) (h : ∀ x ∈ xs, ∃ η1, bindP P (en x) (wipeE η vs) = some η1 ∧ Ft η1 M = .ok (p x) M ∧ (p x = true → ∀ K : D → Mem → Prop, K (g x) M → (Fe η1 M).wp K)) (hQ : Q (.lst ((xs.filter p).map g)) M) : (eLC vs P I Ft Fe η M).wp Q := by
  have e : lcF (t1F P Ft Fe (wipeE η vs)) (xs.map en) M = .ok ((xs.filter p).map g) M := lcF_flt fun x hx => by
    obtain ⟨η1, e1, e3, k⟩ := h x hx
    unfold t1F onB elF
    rw [e1]
    simp only [e3, Res.only_ok]
    by_cases hp : p x = true
    · obtain ⟨d, m, e2, rfl, rfl⟩ := Res.wp_ex (k hp (fun d m => d = g x ∧ m = M) ⟨rfl, rfl⟩)
      simp only [hp, if_true, e2, Res.only_ok]
    · simp only [hp, if_false]
      rfl
  rw [eLC_eq hI e (by rw [List.length_map]; exact le_line (Nat.le_trans (List.length_filter_le _ _) hz))]
  exact Res.wp_ok.mpr hQ
/-- a def's tells, from the goal -/
theorem wpc {G : GF} {ds : List D} {d : D} {K : D → Mem → Prop} (e : G ds M = .ok d M) (h : K d M) : (G ds M).wp K := Res.wp_of e h
end
theorem beqI (i j : Int) : (i == j) = decide (i = j) := by by_cases h : i = j <;> simp [h]
@[simp] theorem bInt_bl (b : Bool) : bInt [.bl b] = some (.int (if b then 1 else 0)) := rfl
@[simp] theorem bInt_int (i : Int) : bInt [.int i] = some (.int i) := rfl
@[simp] theorem bList_l (ds : List D) : bList [.lst ds] = some (.lst ds) := rfl
@[simp] theorem bList_t (ds : List D) : bList [.tup ds] = some (.lst ds) := rfl
@[simp] theorem bTuple_l (ds : List D) : bTuple [.lst ds] = some (.tup ds) := rfl
@[simp] theorem bTuple_t (ds : List D) : bTuple [.tup ds] = some (.tup ds) := rfl
theorem zipD_map {α β : Type} (f : α → D) (g : β → D) : ∀ (xs : List α) (ys : List β), zipD (xs.map f) (ys.map g) = (xs.zip ys).map fun p => .tup [f p.1, g p.2]
  | [], ys => by cases ys <;> simp [zipD]
  | x :: xs, [] => by simp [zipD]
  | x :: xs, y :: ys => by simp [zipD, zipD_map f g xs ys]
theorem rZip_map {α β : Type} (f : α → D) (g : β → D) (xs : List α) (ys : List β) : rZip [.lst (xs.map f), .lst (ys.map g)] = some ((xs.zip ys).map fun p => .tup [f p.1, g p.2]) := by
  simp only [rZip, dSeq_lst, Option.bind_some, Option.map_some, zipD_map]
theorem rZip_mapT {α β : Type} (f : α → D) (g : β → D) (xs : List α) (ys : List β) : rZip [.tup (xs.map f), .tup (ys.map g)] = some ((xs.zip ys).map fun p => .tup [f p.1, g p.2]) := by
  simp only [rZip, dSeq_tup, Option.bind_some, Option.map_some, zipD_map]
theorem asInts_ints : ∀ l : List Int, asInts (l.map .int) = some l
  | [] => rfl
  | x :: l => by simp [asInts, asInts_ints l]
theorem bSum_ints (l : List Int) : bSum [.lst (l.map .int)] = some (.int l.sum) := by simp [bSum, asInts_ints]
theorem asBls_bls : ∀ l : List Bool, asBls (l.map .bl) = some l
  | [] => rfl
  | x :: l => by simp [asBls, asBls_bls l]
theorem bAll_bls (l : List Bool) : bAll [.lst (l.map .bl)] = some (.bl (l.all id)) := by simp [bAll, asBls_bls]
theorem bAny_bls (l : List Bool) : bAny [.lst (l.map .bl)] = some (.bl (l.any id)) := by simp [bAny, asBls_bls]
theorem zip_self {α : Type} (l : List α) : l.zip l = l.map fun x => (x, x) := by
  induction l with
  | nil => rfl
  | cons x l ih => simp [ih]
theorem rZip_self {α : Type} (f g : α → D) (l : List α) : rZip [.lst (l.map f), .lst (l.map g)] = some (l.map fun x => .tup [f x, g x]) := by
  rw [rZip_map, zip_self, List.map_map]; rfl
theorem bSum_map {α : Type} (h : α → Int) (l : List α) : bSum [.lst (l.map fun x => .int (h x))] = some (.int (l.map h).sum) := by
  rw [← bSum_ints, List.map_map]; rfl
theorem ix_range {n k : Nat} (h : k < n) (f : Nat → D) : dIx (.lst ((List.range n).map f)) (.int (k : Nat)) = some (f k) := dIx_lst (by simp [h])
/-! tables of whole numbers -/
def tabD (t : List (List Int)) : D := .lst (t.map fun r => .lst (r.map .int))
def tab (n : Nat) (f : Nat → Nat → Int) : List (List Int) := (List.range n).map fun i => (List.range n).map fun j => f i j
@[simp] theorem isU_tabD (t : List (List Int)) : isU (tabD t) = false := rfl
@[simp] theorem deref_tabD (M : Mem) (t : List (List Int)) : deref M (tabD t) = tabD t := rfl
theorem tabD_tab (n : Nat) (f : Nat → Nat → Int) : tabD (tab n f) = .lst ((List.range n).map fun i => .lst ((List.range n).map fun j => .int (f i j))) := by
  simp [tabD, tab]
theorem tab_congr {n : Nat} {f g : Nat → Nat → Int} (h : ∀ i < n, ∀ j < n, f i j = g i j) : tab n f = tab n g :=
  List.map_congr_left fun i hi => List.map_congr_left fun j hj => h i (List.mem_range.mp hi) j (List.mem_range.mp hj)
theorem eA {F : EF} {Fs : List EF} {η : Env} {M M1 M2 : Mem} {d : D} {ds : List D} (h1 : F η M = .ok d M1) (h2 : eArgs Fs η M1 = .ok ds M2) : eArgs (F :: Fs) η M = .ok (d :: ds) M2 := by
  simp only [eArgs, h1, h2, Res.bind_ok]
theorem eA0 {η : Env} {M : Mem} : eArgs [] η M = .ok [] M := rfl
/-! what is refused -/
theorem wp_refused {cl : Addr} {l : List Addr} {F : EF} {η : Env} {M M' : Mem} {T : Bool → Mem → Prop} (h : F η M = .err cl [] [] M') (hc : l.contains cl = true) (k : T false M') : (tNt (tOf dTru (eIsX cl (eCaught l F))) η M).wp T := by
  have e : eCaught l F η M = .ok (.exc cl [] []) M' := by
    unfold eCaught
    rw [h]
    simp only [hc, if_true]
  have e2 : eIsX cl (eCaught l F) η M = .ok (.bl true) M' := by
    unfold eIsX
    rw [e, Res.bind_ok, bIsX, if_pos rfl]
    rfl
  unfold tNt tOf
  rw [e2]
  simp only [Res.bind_ok, dTru_bl, Res.opt_some, Bool.not_true]
  exact Res.wp_ok.mpr k
theorem wpset {i : Nat} {G : GF} {Fs : List EF} {η : Env} {M M1 M2 : Mem} {ds : List D} {d : D} {K : Ctl → Mem → Prop} (e : G ds M1 = .ok d M2) (hA : eArgs Fs η M = .ok ds M1) (k : K (.nx (η.set i d)) M2) : (sSet i (eCall G Fs) η M).wp K := by
  rw [sSet_eq (eCall_eq hA e)]
  exact Res.wp_ok.mpr k
theorem wpsetE {i : Nat} {F : EF} {η : Env} {M M2 : Mem} {d : D} {K : Ctl → Mem → Prop} (e : F η M = .ok d M2) (k : K (.nx (η.set i d)) M2) : (sSet i F η M).wp K := by
  rw [sSet_eq e]
  exact Res.wp_ok.mpr k
/-- a test of two things that are unlike, where they are one -/
theorem wp_ne {F G : EF} {η : Env} {M M1 M2 : Mem} {d : D} {T : Bool → Mem → Prop} (h1 : F η M = .ok d M1) (h2 : G η M1 = .ok d M2) (hf : flat d = true) (hd : dep d ≤ 64) (k : T false M2) : (tOf dBl (eOp2 dNe F G) η M).wp T := by
  unfold tOf
  rw [eOp2_eq h1 h2 (dNe_refl hf hd), Res.bind_ok, dBl_b]
  exact Res.wp_ok.mpr k
/-- a test of what is told, where it is just what is due -/
theorem wp_nsays {G : GF} {F1 F2 : EF} {η : Env} {M M1 M2 : Mem} {d : D} {T : Bool → Mem → Prop} (e : ∀ M, G [d, d] M = .ok (.bl true) M) (h1 : F1 η M = .ok d M1) (h2 : F2 η M1 = .ok d M2) (k : T false M2) : (tNt (tOf dTru (eCall G [F1, F2])) η M).wp T := by
  unfold tNt tOf
  rw [eCall_eq (ds := [d, d]) (M1 := M2) (by simp only [eArgs, h1, h2, Res.bind_ok]) (e M2)]
  simp only [Res.bind_ok, dTru_bl, Res.opt_some, Bool.not_true]
  exact Res.wp_ok.mpr k
/-! flat things -/
theorem flat_tabD (t : List (List Int)) : flat (tabD t) = true := by
  simp only [tabD, flat]
  exact flats_map (fun r => by simp only [flat]; exact flats_ints r) t
theorem dep_tabD (t : List (List Int)) : dep (tabD t) ≤ 2 := by
  have : deps (t.map fun r => D.lst (r.map .int)) ≤ 1 := deps_map (fun r => by have := deps_ints r; simp only [dep]; omega) t
  simp only [tabD, dep]; omega
theorem nods_ints : ∀ l : List Int, nods (l.map .int) = l.length
  | [] => rfl
  | x :: l => by simp [nods, nod, nods_ints l]; omega
end Tn

set_option Elab.async false
set_option linter.all false
set_option maxRecDepth 100000
set_option maxHeartbeats 4000000
namespace Tn
/-! ## sums; ways and their backs; the rule of three steps -/
theorem sumR_zero (f : Nat → Int) : sumR 0 f = 0 := rfl
theorem sumR_succ (n : Nat) (f : Nat → Int) : sumR (n + 1) f = sumR n f + f n := by
  unfold sumR
  rw [List.range_succ, List.map_append, List.sum_append]
  simp
theorem sumR_add (n : Nat) (f g : Nat → Int) : sumR n (fun i => f i + g i) = sumR n f + sumR n g := by
  induction n with
  | zero => rfl
  | succ n ih => simp only [sumR_succ, ih]; omega
theorem sumR_sub (n : Nat) (f g : Nat → Int) : sumR n (fun i => f i - g i) = sumR n f - sumR n g := by
  induction n with
  | zero => rfl
  | succ n ih => simp only [sumR_succ, ih]; omega
theorem sumR_mul (n : Nat) (c : Int) (f : Nat → Int) : sumR n (fun i => c * f i) = c * sumR n f := by
  induction n with
  | zero => simp [sumR_zero]
  | succ n ih => simp only [sumR_succ, ih, Int.mul_add]
theorem sumR_mulr (n : Nat) (c : Int) (f : Nat → Int) : sumR n (fun i => f i * c) = sumR n f * c := by
  induction n with
  | zero => simp [sumR_zero]
  | succ n ih => simp only [sumR_succ, ih, Int.add_mul]
theorem sumR_nought (n : Nat) : sumR n (fun _ => 0) = 0 := by
  induction n with
  | zero => rfl
  | succ n ih => rw [sumR_succ, ih]; rfl
theorem sumR_swap (n m : Nat) (f : Nat → Nat → Int) : sumR n (fun i => sumR m fun j => f i j) = sumR m fun j => sumR n fun i => f i j := by
  induction n with
  | zero => simp only [sumR_zero, sumR_nought]
  | succ n ih => rw [sumR_succ, ih, ← sumR_add]; exact sumR_congr fun j _ => (sumR_succ n _).symm
/-- along one index -/
theorem sumR_at {n k : Nat} (h : k < n) (f : Nat → Int) : sumR n (fun i => if i = k then f i else 0) = f k := by
  induction n with
  | zero => omega
  | succ n ih =>
    rw [sumR_succ]
    by_cases hk : k = n
    · subst hk
      have : sumR k (fun i => if i = k then f i else 0) = 0 := by
        exact (sumR_congr fun i hi => by rw [if_neg (by omega)]).trans (sumR_nought k)
      rw [this, if_pos rfl, Int.zero_add]
    · rw [ih (by omega), if_neg (fun z => hk z.symm), Int.add_zero]
theorem bk_bk (i : Nat) : bk (bk i) = i := by
  unfold bk
  split
  · rw [if_neg (by omega)]; omega
  · rw [if_pos (by omega)]; omega
theorem bk_lt {i k : Nat} (h : i < 2 * k) : bk i < 2 * k := by unfold bk; split <;> omega
theorem sumR_bk (k : Nat) (f : Nat → Int) : sumR (2 * k) (fun i => f (bk i)) = sumR (2 * k) f := by
  induction k with
  | zero => rfl
  | succ k ih =>
    rw [show 2 * (k + 1) = 2 * k + 1 + 1 by omega, sumR_succ, sumR_succ, sumR_succ, sumR_succ, ih]
    have h1 : bk (2 * k) = 2 * k + 1 := by unfold bk; rw [if_pos (by omega)]
    have h2 : bk (2 * k + 1) = 2 * k := by unfold bk; rw [if_neg (by omega)]; omega
    rw [h1, h2]
    omega
/-- ways that come in pairs, a back behind or ahead of each -/
structure Wy (ps : List (Int × Int)) (k : Nat) : Prop where
  len : ps.length = 2 * k
  bk1 : ∀ j, j < 2 * k → (nth ps (bk j)).1 = (nth ps j).2
  bk2 : ∀ j, j < 2 * k → (nth ps (bk j)).2 = (nth ps j).1
theorem wy_ways (ts : List (Int × Int)) : Wy (waysL ts) ts.length := by
  have key : ∀ (ts : List (Int × Int)) (j : Nat), j < 2 * ts.length → nth (waysL ts) (bk j) = ((nth (waysL ts) j).2, (nth (waysL ts) j).1) := by
    intro ts
    induction ts with
    | nil => intro j hj; simp at hj
    | cons t ts ih =>
      intro j hj
      have e : waysL (t :: ts) = t :: (t.2, t.1) :: waysL ts := rfl
      rw [List.length_cons] at hj
      rw [e]
      match j, hj with
      | 0, _ => rfl
      | 1, _ => rfl
      | j + 2, hj =>
        have hb : bk (j + 2) = bk j + 2 := by
          unfold bk
          by_cases h : j % 2 = 0
          · rw [if_pos h, if_pos (by omega)]
          · rw [if_neg h, if_neg (by omega)]; omega
        rw [hb]
        show nth (waysL ts) (bk j) = ((nth (waysL ts) j).2, (nth (waysL ts) j).1)
        exact ih j (by omega)
  exact ⟨waysL_len ts, fun j hj => by rw [key ts j hj], fun j hj => by rw [key ts j hj]⟩
theorem fol_bk {ps : List (Int × Int)} {k : Nat} (h : Wy ps k) {i j : Nat} (hi : i < 2 * k) (hj : j < 2 * k) : fol ps (bk j) (bk i) = fol ps i j := by
  unfold fol
  rw [h.bk1 i hi, h.bk2 j hj, bk_bk]
  have e1 : decide ((nth ps i).2 = (nth ps j).1) = decide ((nth ps j).1 = (nth ps i).2) := by
    by_cases e : (nth ps i).2 = (nth ps j).1
    · simp [e]
    · have e' : ¬ (nth ps j).1 = (nth ps i).2 := fun z => e z.symm
      simp [e, e']
  have e2 : decide (bk i = j) = decide (j = bk i) := by
    by_cases e : bk i = j
    · simp [e]
    · have e' : ¬ j = bk i := fun z => e z.symm
      simp [e, e']
  rw [e1, e2]
theorem B_bk {ps : List (Int × Int)} {k : Nat} (h : Wy ps k) {i j : Nat} (hi : i < 2 * k) (hj : j < 2 * k) : B ps (bk j) (bk i) = B ps i j := by
  unfold B; rw [fol_bk h hi hj]
/-- from the left -/
theorem V_left {ps : List (Int × Int)} {i : Nat} (hi : i < ps.length) : ∀ (t j : Nat), j < ps.length → V ps i (t + 1) j = sumR ps.length fun c => B ps i c * V ps c t j
  | 0, j, hj => by
    show sumR ps.length (fun c => (if c = i then 1 else 0) * B ps c j) = _
    have e1 : (fun c => (if c = i then (1 : Int) else 0) * B ps c j) = fun c => if c = i then B ps c j else 0 := by
      funext c; split <;> simp
    rw [e1, sumR_at hi]
    show _ = sumR ps.length (fun c => B ps i c * (if j = c then 1 else 0))
    have e2 : (fun c => B ps i c * (if j = c then (1 : Int) else 0)) = fun c => if c = j then B ps i c else 0 := by
      funext c
      by_cases h : c = j
      · rw [if_pos h, if_pos h.symm, Int.mul_one]
      · rw [if_neg h, if_neg (fun z => h z.symm), Int.mul_zero]
    rw [e2, sumR_at hj]
  | t + 1, j, hj => by
    show sumR ps.length (fun c => V ps i (t + 1) c * B ps c j) = _
    have e1 : sumR ps.length (fun c => V ps i (t + 1) c * B ps c j) = sumR ps.length fun c => sumR ps.length fun d => B ps i d * (V ps d t c * B ps c j) := sumR_congr fun c hc => by
      rw [V_left hi t c hc, ← sumR_mulr]
      exact sumR_congr fun d _ => Int.mul_assoc _ _ _
    rw [e1, sumR_swap]
    exact sumR_congr fun d _ => sumR_mul _ _ _
theorem V_bk {ps : List (Int × Int)} {k : Nat} (h : Wy ps k) : ∀ (t i j : Nat), i < 2 * k → j < 2 * k → V ps i t j = V ps (bk j) t (bk i)
  | 0, i, j, hi, hj => by
    show (if j = i then (1 : Int) else 0) = if bk i = bk j then 1 else 0
    by_cases e : j = i
    · rw [if_pos e, if_pos (by rw [e])]
    · rw [if_neg e, if_neg fun z => e (by rw [← bk_bk j, ← z, bk_bk])]
  | t + 1, i, j, hi, hj => by
    rw [V_left (by rw [h.len]; exact bk_lt hj) t (bk i) (by rw [h.len]; exact bk_lt hi), h.len, ← sumR_bk]
    show sumR ps.length _ = _
    rw [h.len]
    exact sumR_congr fun c hc => by rw [V_bk h t i c hi hc, B_bk h hc hj, Int.mul_comm]
/-! walks from a place -/
def at01 (c : Prop) [Decidable c] : Int := if c then 1 else 0
/-- walks of t + 1 ways from place s that end in way j -/
def Cw (ps : List (Int × Int)) (s : Int) : Nat → Nat → Int
  | 0, j => if (nth ps j).1 = s then 1 else 0
  | t + 1, j => sumR ps.length fun i => Cw ps s t i * B ps i j
/-- walks from place s to place g -/
def wc (ps : List (Int × Int)) (s g : Int) : Nat → Int
  | 0 => if s = g then 1 else 0
  | t + 1 => sumR ps.length fun j => if (nth ps j).2 = g then Cw ps s t j else 0
def Aw (ps : List (Int × Int)) (s g : Int) : Int := sumR ps.length fun j => if (nth ps j).1 = s ∧ (nth ps j).2 = g then 1 else 0
def dgw (ps : List (Int × Int)) (s : Int) : Int := sumR ps.length fun j => if (nth ps j).1 = s then 1 else 0
theorem Cw_V {ps : List (Int × Int)} {s : Int} : ∀ (t j : Nat), j < ps.length → Cw ps s t j = sumR ps.length fun i => if (nth ps i).1 = s then V ps i t j else 0
  | 0, j, hj => by
    have e : (fun i => if (nth ps i).1 = s then V ps i 0 j else 0) = fun i => if i = j then (if (nth ps i).1 = s then (1 : Int) else 0) else 0 := by
      funext i
      show (if (nth ps i).1 = s then (if j = i then (1 : Int) else 0) else 0) = _
      by_cases h : i = j
      · subst h; simp
      · have h' : ¬ j = i := fun z => h z.symm
        simp [h, h']
    rw [e, sumR_at hj]
    rfl
  | t + 1, j, hj => by
    show sumR ps.length (fun c => Cw ps s t c * B ps c j) = _
    have e1 : sumR ps.length (fun c => Cw ps s t c * B ps c j) = sumR ps.length fun c => sumR ps.length fun i => if (nth ps i).1 = s then V ps i t c * B ps c j else 0 := sumR_congr fun c hc => by
      rw [Cw_V t c hc, ← sumR_mulr]
      exact sumR_congr fun i _ => by split <;> simp
    rw [e1, sumR_swap]
    refine sumR_congr fun i _ => ?_
    by_cases h : (nth ps i).1 = s
    · simp only [h, if_true]; rfl
    · simp only [h, if_false, sumR_nought]
theorem wc_V {ps : List (Int × Int)} {s g : Int} (t : Nat) : wc ps s g (t + 1) = sumR ps.length fun j => sumR ps.length fun i => if (nth ps j).2 = g ∧ (nth ps i).1 = s then V ps i t j else 0 := by
  show sumR ps.length _ = _
  refine sumR_congr fun j hj => ?_
  by_cases h : (nth ps j).2 = g
  · simp only [h, if_true, true_and]; exact Cw_V t j hj
  · simp only [h, if_false, false_and, sumR_nought]
/-- as many walks back -/
theorem wc_sym {ps : List (Int × Int)} {k : Nat} (h : Wy ps k) (s g : Int) (L : Nat) : wc ps s g L = wc ps g s L := by
  cases L with
  | zero =>
    show (if s = g then (1 : Int) else 0) = if g = s then 1 else 0
    by_cases e : s = g
    · simp [e]
    · have e' : ¬ g = s := fun z => e z.symm
      simp [e, e']
  | succ t =>
    rw [wc_V, wc_V, h.len, ← sumR_bk]
    have e : sumR (2 * k) (fun j => sumR (2 * k) fun i => if (nth ps (bk j)).2 = g ∧ (nth ps i).1 = s then V ps i t (bk j) else 0) = sumR (2 * k) fun j => sumR (2 * k) fun i => if (nth ps i).2 = s ∧ (nth ps j).1 = g then V ps j t i else 0 := sumR_congr fun j hj => by
      rw [← sumR_bk]
      refine sumR_congr fun i hi => ?_
      rw [h.bk2 j hj, h.bk1 i hi]
      have hv := V_bk h t j i hj hi
      rw [hv]
      by_cases c1 : (nth ps j).1 = g <;> by_cases c2 : (nth ps i).2 = s <;> simp [c1, c2]
    rw [e, sumR_swap]
/-- B by ends less the back -/
theorem B_split {ps : List (Int × Int)} {k : Nat} (h : Wy ps k) {i j : Nat} (hi : i < 2 * k) : B ps i j = (if (nth ps j).1 = (nth ps i).2 then 1 else 0) - (if j = bk i then 1 else 0) := by
  unfold B fol
  by_cases e : j = bk i
  · subst e
    rw [h.bk1 i hi]
    simp
  · by_cases e2 : (nth ps j).1 = (nth ps i).2 <;> simp [e, e2]
theorem Cw_step {ps : List (Int × Int)} {k : Nat} (h : Wy ps k) (s : Int) (t : Nat) {j : Nat} (hj : j < 2 * k) : Cw ps s (t + 1) j = wc ps s (nth ps j).1 (t + 1) - Cw ps s t (bk j) := by
  show sumR ps.length (fun i => Cw ps s t i * B ps i j) = sumR ps.length (fun i => if (nth ps i).2 = (nth ps j).1 then Cw ps s t i else 0) - _
  rw [h.len]
  have e : sumR (2 * k) (fun i => Cw ps s t i * B ps i j) = sumR (2 * k) fun i => (if (nth ps i).2 = (nth ps j).1 then Cw ps s t i else 0) - (if i = bk j then Cw ps s t i else 0) := sumR_congr fun i hi => by
    rw [B_split h hi]
    have e1 : (j = bk i) ↔ (i = bk j) := ⟨fun z => by rw [z, bk_bk], fun z => by rw [z, bk_bk]⟩
    by_cases c1 : (nth ps j).1 = (nth ps i).2
    · have c1' := c1.symm
      by_cases c2 : i = bk j
      · have c3 := e1.mpr c2
        rw [if_pos c1, if_pos c3, if_pos c1', if_pos c2]
        simp
      · have c3 : ¬ j = bk i := fun z => c2 (e1.mp z)
        simp [c1', c2, c3]
    · have c1' : ¬ (nth ps i).2 = (nth ps j).1 := fun z => c1 z.symm
      by_cases c2 : i = bk j
      · subst c2
        exact absurd (h.bk2 j hj) c1'
      · have c3 : ¬ j = bk i := fun z => c2 (e1.mp z)
        simp [c1, c1', c2, c3]
  rw [e, sumR_sub, sumR_at (bk_lt hj)]
/-- walks that end in ways that begin at g -/
def Uw (ps : List (Int × Int)) (s g : Int) (t : Nat) : Int := sumR ps.length fun i => if (nth ps i).1 = g then Cw ps s t i else 0
theorem Uw_0 {ps : List (Int × Int)} (s g : Int) : Uw ps s g 0 = if s = g then dgw ps g else 0 := by
  unfold Uw dgw
  by_cases h : s = g
  · rw [if_pos h]
    exact sumR_congr fun i _ => by
      show (if _ then (if (nth ps i).1 = s then (1 : Int) else 0) else 0) = _
      rw [h]; split <;> simp [*]
  · rw [if_neg h]
    refine (sumR_congr fun i _ => ?_).trans (sumR_nought _)
    show (if _ then (if (nth ps i).1 = s then (1 : Int) else 0) else 0) = _
    by_cases e : (nth ps i).1 = g
    · rw [if_pos e, if_neg fun z => h (by rw [← z, e])]
    · rw [if_neg e]
theorem Uw_s {ps : List (Int × Int)} {k : Nat} (h : Wy ps k) (s g : Int) (t : Nat) : Uw ps s g (t + 1) = (dgw ps g - 1) * wc ps s g (t + 1) := by
  unfold Uw
  have e : sumR ps.length (fun i => if (nth ps i).1 = g then Cw ps s (t + 1) i else 0) = sumR ps.length fun i => (if (nth ps i).1 = g then 1 else 0) * wc ps s g (t + 1) - (if (nth ps (bk i)).2 = g then Cw ps s t (bk i) else 0) := sumR_congr fun i hi => by
    rw [h.len] at hi
    rw [h.bk2 i hi]
    by_cases c : (nth ps i).1 = g
    · rw [if_pos c, if_pos c, if_pos c, Cw_step h s t hi, c, Int.one_mul]
    · rw [if_neg c, if_neg c, if_neg c, Int.zero_mul, Int.sub_zero]
  rw [e, sumR_sub, sumR_mulr, h.len, sumR_bk (f := fun i => if (nth ps i).2 = g then Cw ps s t i else 0)]
  have e2 : sumR (2 * k) (fun i => if (nth ps i).2 = g then Cw ps s t i else 0) = wc ps s g (t + 1) := by rw [← h.len]; rfl
  have e3 : sumR (2 * k) (fun i => if (nth ps i).1 = g then (1 : Int) else 0) = dgw ps g := by rw [← h.len]; rfl
  rw [e2, e3, Int.sub_mul, Int.one_mul]
theorem wc_step {ps : List (Int × Int)} {k n : Nat} (h : Wy ps k) (hn : ∀ j, j < 2 * k → 0 ≤ (nth ps j).1 ∧ (nth ps j).1 < n) (s g : Int) (t : Nat) : wc ps s g (t + 2) = (sumR n fun c => wc ps s c (t + 1) * Aw ps c g) - Uw ps s g t := by
  have e1 : wc ps s g (t + 2) = (sumR (2 * k) fun j => if (nth ps j).2 = g then wc ps s (nth ps j).1 (t + 1) else 0) - sumR (2 * k) fun j => if (nth ps (bk j)).1 = g then Cw ps s t (bk j) else 0 := by
    show sumR ps.length (fun j => if (nth ps j).2 = g then Cw ps s (t + 1) j else 0) = _
    rw [h.len, ← sumR_sub]
    refine sumR_congr fun j hj => ?_
    rw [h.bk1 j hj]
    by_cases c : (nth ps j).2 = g
    · rw [if_pos c, if_pos c, if_pos c, Cw_step h s t hj]
    · rw [if_neg c, if_neg c, if_neg c]; rfl
  have e2 : sumR (2 * k) (fun j => if (nth ps (bk j)).1 = g then Cw ps s t (bk j) else 0) = Uw ps s g t := by
    rw [sumR_bk (f := fun j => if (nth ps j).1 = g then Cw ps s t j else 0), ← h.len]; rfl
  have e3 : (sumR n fun c => wc ps s c (t + 1) * Aw ps c g) = sumR (2 * k) fun j => if (nth ps j).2 = g then wc ps s (nth ps j).1 (t + 1) else 0 := by
    have q1 : (sumR n fun c => wc ps s c (t + 1) * Aw ps c g) = sumR n fun c => sumR (2 * k) fun j => if (nth ps j).1 = (c : Int) ∧ (nth ps j).2 = g then wc ps s c (t + 1) else 0 := sumR_congr fun c _ => by
      unfold Aw
      rw [← sumR_mul, h.len]
      exact sumR_congr fun j _ => by split <;> simp
    rw [q1, sumR_swap]
    refine sumR_congr fun j hj => ?_
    obtain ⟨h1, h2⟩ := hn j hj
    obtain ⟨c, hc⟩ : ∃ c : Nat, (nth ps j).1 = (c : Int) := ⟨(nth ps j).1.toNat, by omega⟩
    have hcn : c < n := by omega
    have q2 : (fun (i : Nat) => if (nth ps j).1 = (i : Int) ∧ (nth ps j).2 = g then wc ps s i (t + 1) else 0) = fun (i : Nat) => if i = c then (if (nth ps j).2 = g then wc ps s i (t + 1) else 0) else 0 := by
      funext i
      rw [hc]
      by_cases e : i = c
      · subst e; simp
      · have e' : ¬ ((c : Int) = (i : Int)) := fun z => e (by omega)
        simp only [e', false_and, if_false, e]
    rw [q2, sumR_at hcn, hc]
  rw [e1, e2, e3]
/-- the rule of three steps -/
theorem wc_three {ps : List (Int × Int)} {k n : Nat} (h : Wy ps k) (hn : ∀ j, j < 2 * k → 0 ≤ (nth ps j).1 ∧ (nth ps j).1 < n) (s g : Int) (t : Nat) : wc ps s g (t + 3) = (sumR n fun c => wc ps s c (t + 2) * Aw ps c g) - (dgw ps g - 1) * wc ps s g (t + 1) := by
  rw [wc_step h hn s g (t + 1), Uw_s h]
theorem wc_two {ps : List (Int × Int)} {k n : Nat} (h : Wy ps k) (hn : ∀ j, j < 2 * k → 0 ≤ (nth ps j).1 ∧ (nth ps j).1 < n) (s g : Int) : wc ps s g 2 = (sumR n fun c => Aw ps s c * Aw ps c g) - if s = g then dgw ps g else 0 := by
  have e : ∀ c, wc ps s c 1 = Aw ps s c := fun c => sumR_congr fun j _ => by
    show (if (nth ps j).2 = c then (if (nth ps j).1 = s then (1 : Int) else 0) else 0) = _
    by_cases c1 : (nth ps j).2 = c <;> by_cases c2 : (nth ps j).1 = s <;> simp [c1, c2]
  rw [wc_step h hn s g 0, Uw_0]
  congr 1
  exact sumR_congr fun c _ => by rw [e]
theorem wc_one {ps : List (Int × Int)} (s c : Int) : wc ps s c 1 = Aw ps s c := sumR_congr fun j _ => by
  show (if (nth ps j).2 = c then (if (nth ps j).1 = s then (1 : Int) else 0) else 0) = _
  by_cases c1 : (nth ps j).2 = c <;> by_cases c2 : (nth ps j).1 = s <;> simp [c1, c2]
theorem sumR_front (n : Nat) (f : Nat → Int) : sumR (n + 1) f = f 0 + sumR n fun i => f (i + 1) := by
  unfold sumR
  rw [List.range_succ_eq_map, List.map_cons, List.sum_cons, List.map_map]
  rfl
theorem sum_nth (l : List Int) : l.sum = sumR l.length (nth l) := by
  induction l with
  | nil => rfl
  | cons x l ih => rw [List.sum_cons, List.length_cons, sumR_front, ih]; rfl
theorem sum_zip {α : Type} [Inhabited α] (p : α → Bool) : ∀ (xs : List Int) (ys : List α), xs.length = ys.length → (((xs.zip ys).filter fun z => p z.2).map fun z => z.1).sum = sumR ys.length fun j => if p (nth ys j) = true then nth xs j else 0
  | [], [], _ => rfl
  | [], _ :: _, h => by simp at h
  | _ :: _, [], h => by simp at h
  | x :: xs, y :: ys, h => by
    have ih := sum_zip p xs ys (by simpa using h)
    rw [List.length_cons, sumR_front, List.zip_cons_cons, List.filter_cons]
    show _ = (if p y = true then x else 0) + sumR ys.length (fun j => if p (nth ys j) = true then nth xs j else 0)
    rw [← ih]
    by_cases hp : p y = true
    · simp only [hp, if_true, List.map_cons, List.sum_cons]
    · simp only [hp, if_false]; simp
theorem folL_lt {ps : List (Int × Int)} {i k : Nat} (h : k ∈ folL ps i) : k < ps.length := List.mem_range.mp (List.mem_filter.mp h).1
/-- the counts, as a list by ways -/
def stL (ps : List (Int × Int)) (s : Int) : List Int := ps.map fun q => if q.1 = s then 1 else 0
def cntL (ps : List (Int × Int)) (s : Int) : Nat → List Int
  | 0 => stL ps s
  | t + 1 => ledL ps.length (folL ps) (cntL ps s t)
theorem cntL_len (ps : List (Int × Int)) (s : Int) : ∀ t, (cntL ps s t).length = ps.length
  | 0 => by simp [cntL, stL]
  | t + 1 => ledL_len _
theorem nth_map {α : Type} [Inhabited α] {l : List α} {f : α → Int} {j : Nat} (h : j < l.length) : nth (l.map f) j = f (nth l j) := by
  unfold nth
  simp [h]
theorem cntL_Cw {ps : List (Int × Int)} {s : Int} : ∀ t j, j < ps.length → nth (cntL ps s t) j = Cw ps s t j
  | 0, j, hj => by rw [cntL, stL, nth_map hj]; rfl
  | t + 1, j, hj => by
    rw [cntL, nth_ledL (fs := folL ps) (fun i _ k hk => folL_lt hk) (cntL_len ps s t)]
    exact sumR_congr fun i hi => by rw [cntL_Cw t i hi, count_folL hj]
theorem wc_list {ps : List (Int × Int)} {s g : Int} (t : Nat) : ((((cntL ps s t).zip ps).filter fun z => decide (z.2.2 = g)).map fun z => z.1).sum = wc ps s g (t + 1) := by
  rw [sum_zip (fun z : Int × Int => decide (z.2 = g)) _ _ (cntL_len ps s t)]
  exact sumR_congr fun j hj => by
    rw [cntL_Cw t j hj]
    by_cases h : (nth ps j).2 = g <;> simp [h]
theorem stL_pos (ps : List (Int × Int)) (s : Int) (i : Nat) : 0 ≤ nth (stL ps s) i := by
  by_cases h : i < ps.length
  · rw [stL, nth_map h]; split <;> decide
  · unfold nth stL
    simp [show ps.length ≤ i by omega]
theorem cntL_pos (ps : List (Int × Int)) (s : Int) : ∀ t i, 0 ≤ nth (cntL ps s t) i
  | 0, i => stL_pos ps s i
  | t + 1, i => ledL_pos (cntL_pos ps s t) i
theorem sum_mid {n j t i : Nat} (hj : j < n) (ps : List (Int × Int)) : (sumR n fun c => wc ps i c (t + 1) * if c = j then dgw ps c - 1 else 0) = (dgw ps j - 1) * wc ps i j (t + 1) := by
  have e : (fun c : Nat => wc ps i c (t + 1) * if c = j then dgw ps c - 1 else 0) = fun c => if c = j then wc ps i c (t + 1) * (dgw ps c - 1) else 0 := by
    funext c
    by_cases h : c = j
    · rw [if_pos h, if_pos h]
    · rw [if_neg h, if_neg h, Int.mul_zero]
  rw [e, sumR_at hj, Int.mul_comm]
theorem wc_two' {ps : List (Int × Int)} {k n : Nat} (h : Wy ps k) (hn : ∀ j, j < 2 * k → 0 ≤ (nth ps j).1 ∧ (nth ps j).1 < n) (i j : Nat) : wc ps i j 2 = (sumR n fun c => Aw ps i c * Aw ps c j) - if i = j then dgw ps i else 0 := by
  rw [wc_two h hn]
  by_cases h : i = j
  · subst h; rw [if_pos rfl, if_pos rfl]
  · rw [if_neg h, if_neg (by omega)]
end Tn

set_option Elab.async false
set_option linter.all false
set_option maxRecDepth 100000
set_option maxHeartbeats 4000000
noncomputable section
namespace Tn
open PySem PySem.Spec PyProof.Rows L2
namespace K02
def top (i : Nat) : Stmt := PySem.Challenge.pw_turnless_k02_whole_walks_counted.main.body.getD i (.Pass ⟨0, 0, 0, 0⟩)
def TT : List (Addr × Str) := []
structure Ad where
  BadGoal : Addr
  BadLength : Addr
  BadOne : Addr
  BadOther : Addr
  BadStart : Addr
  BadWeb : Addr
  TurnError : Addr
def cls_l (a : Ad) : List Addr := [a.BadGoal, a.BadLength, a.BadOne, a.BadOther, a.BadStart, a.BadWeb]
structure Tx (K : PySem.W.Frag) (mg : Str → Option Value) (a : Ad) : Prop where
  x_BadGoal : Xc K mg "BadGoal" a.BadGoal
  x_BadLength : Xc K mg "BadLength" a.BadLength
  x_BadOne : Xc K mg "BadOne" a.BadOne
  x_BadOther : Xc K mg "BadOther" a.BadOther
  x_BadStart : Xc K mg "BadStart" a.BadStart
  x_BadWeb : Xc K mg "BadWeb" a.BadWeb
  x_TurnError : Xc K mg "TurnError" a.TurnError
  f_is_whole : Df K mg "is_whole" (top 11) ["thing"]
  f_is_tie_of : Df K mg "is_tie_of" (top 12) ["places", "thing"]
  f_is_web_of : Df K mg "is_web_of" (top 13) ["thing"]
  f_need_web : Df K mg "need_web" (top 14) ["web", "word"]
  f_is_place_of : Df K mg "is_place_of" (top 15) ["web", "thing"]
  f_ways_by : Df K mg "ways_by" (top 16) ["web"]
  f_back_of : Df K mg "back_of" (top 19) ["way"]
  f_follows_by : Df K mg "follows_by" (top 20) ["web"]
  f_need_length : Df K mg "need_length" (top 21) ["length", "low", "high"]
  f_led_on : Df K mg "led_on" (top 22) ["follows", "counts"]
  f_count_by : Df K mg "count_by" (top 23) ["web", "start", "goal", "length"]
  f_need_asked : Df K mg "need_asked" (top 24) ["web", "start", "goal", "length"]
  f_walk_count : Df K mg "walk_count" (top 25) ["web", "start", "goal", "length"]
  f__law_begun : Df K mg "_law_begun" (top 27) ["script"]
  f__law_mixed : Df K mg "_law_mixed" (top 28) ["draw"]
  f__law_take : Df K mg "_law_take" (top 29) ["draw", "amount"]
  f__law_pick : Df K mg "_law_pick" (top 30) ["draw", "items"]
  f__law_kinds : Df K mg "_law_kinds" (top 32) ["thing"]
  f__law_says : Df K mg "_law_says" (top 33) ["told", "due"]
  f__law_web : Df K mg "_law_web" (top 34) ["draw"]
  f__law_great_web : Df K mg "_law_great_web" (top 35) ["draw"]
  f__law_no_number : Df K mg "_law_no_number" (top 36) ["draw", "low", "high"]
  f__law_back : Df K mg "_law_back" (top 37) ["way"]
  f__law_pairs : Df K mg "_law_pairs" (top 38) ["web"]
  f__law_follows : Df K mg "_law_follows" (top 39) ["web"]
  f__law_degrees : Df K mg "_law_degrees" (top 40) ["web"]
  f__law_ties_table : Df K mg "_law_ties_table" (top 41) ["web"]
  f__law_led : Df K mg "_law_led" (top 42) ["follows", "counts"]
  f__law_walk_count : Df K mg "_law_walk_count" (top 43) ["web", "start", "goal", "length"]
  f__law_told_table : Df K mg "_law_told_table" (top 44) ["web", "length"]
  f__law_product : Df K mg "_law_product" (top 45) ["one", "other"]
  f__law_less : Df K mg "_law_less" (top 46) ["one", "other"]
  f__law_middle : Df K mg "_law_middle" (top 47) ["numbers"]
  f__law_caught : Df K mg "_law_caught" (top 31) ["work"]
  i_BadGoal : Xi K a.BadGoal
  i_BadLength : Xi K a.BadLength
  i_BadStart : Xi K a.BadStart
  caughtOk : ∀ c ∈ cls_l a, PySem.W.exmOne K (.ref c) (.ref a.TurnError) = some true
  b_all : mg "all" = none
  b_bool : mg "bool" = none
  b_dict : mg "dict" = none
  b_enumerate : mg "enumerate" = none
  b_int : mg "int" = none
  b_isinstance : mg "isinstance" = none
  b_len : mg "len" = none
  b_list : mg "list" = none
  b_max : mg "max" = none
  b_min : mg "min" = none
  b_range : mg "range" = none
  b_repr : mg "repr" = none
  b_sorted : mg "sorted" = none
  b_str : mg "str" = none
  b_sum : mg "sum" = none
  b_tuple : mg "tuple" = none
  b_zip : mg "zip" = none
  c_MOST_LENGTH : ∃ t, mg "MOST_LENGTH" = some (.int 60 t)
  c_MOST_PLACES : ∃ t, mg "MOST_PLACES" = some (.int 8 t)
  c_MOST_TIES : ∃ t, mg "MOST_TIES" = some (.int 14 t)
section
variable {P : Program} {w : World} {K : PySem.W.Frag} {mg : Str → Option Value} {base : Heap} {a : Ad}
def F_is_whole (a : Ad) : SF := (sRet (eAn (eIsi "int" (eVar 0)) (eNt (eIsi "bool" (eVar 0)))))
def G_is_whole (a : Ad) : GF := fnF 1 (F_is_whole a)
theorem ok_is_whole (T : Tx K mg a) : Pm P w K mg base "is_whole" 1 (top 11) ["thing"] TT [.st] .stable (G_is_whole a) :=
  Pm.of T.f_is_whole fun f fd F => def_ok (FF := F_is_whole a) (N := ["thing"]) (o' := []) (lo := []) F ⟨rfl, rfl, rfl, by decide +kernel, rfl, by decide +kernel, by decide +kernel⟩ rfl (ws_ok rfl) fun cdv A outer s H M E hr => by
    have hu := us_of hr
    have tk : Takes (cnOf P w K mg base TT ["thing"] "is_whole" (top 11) f cdv A outer s H H M E).X (cnOf P w K mg base TT ["thing"] "is_whole" (top 11) f cdv A outer s H H M E).W := takes_of rfl rfl rfl rfl
    have hp : PassesOwn (model (cnOf P w K mg base TT ["thing"] "is_whole" (top 11) f cdv A outer s H H M E).X.prog (cnOf P w K mg base TT ["thing"] "is_whole" (top 11) f cdv A outer s H H M E).X.w) (cnOf P w K mg base TT ["thing"] "is_whole" (top 11) f cdv A outer s H H M E).X.A (cnOf P w K mg base TT ["thing"] "is_whole" (top 11) f cdv A outer s H H M E).X.env (cnOf P w K mg base TT ["thing"] "is_whole" (top 11) f cdv A outer s H H M E).X.xe := passes_of rfl
    have hc : (cnOf P w K mg base TT ["thing"] "is_whole" (top 11) f cdv A outer s H H M E).X.calm = true := rfl
    have hN : (cnOf P w K mg base TT ["thing"] "is_whole" (top 11) f cdv A outer s H H M E).X.N.Nodup := (by decide +kernel : (["thing"] : List Str).Nodup)
    exact (dss_one (ds_ret (de_and (asV (de_isi (T := "int") (de_vs 0 (pv 0)) rfl (by rfl) rfl T.b_isinstance (by rfl) rfl T.b_int)) (de_one (de_not (asV (de_isi (T := "bool") (de_vs 0 (pv 0)) rfl (by rfl) rfl T.b_isinstance (by rfl) rfl T.b_bool)))))))
def F_is_tie_of (a : Ad) : SF := (sSeq (sIf (tOo (tNt (tOf dTru (eIsi "tuple" (eVar 1)))) (tOo (tOf dBl (eOp2 dNe (eB bLen [(eVar 1)]) (eC (.int 2)))) (tOo (tNt (tOf dTru (eCall (G_is_whole a) [(eIx (eVar 1) (eC (.int 0)))]))) (tNt (tOf dTru (eCall (G_is_whole a) [(eIx (eVar 1) (eC (.int 1)))])))))) (sRet (eC (.bl false))) sNil) (sRet (eCh3 dLe dLe dLt (eC (.int 0)) (eIx (eVar 1) (eC (.int 0))) (eIx (eVar 1) (eC (.int 1))) (eVar 0))))
def G_is_tie_of (a : Ad) : GF := fnF 2 (F_is_tie_of a)
theorem ok_is_tie_of (T : Tx K mg a) : Pm P w K mg base "is_tie_of" 2 (top 12) ["places", "thing"] TT [.st, .st] .stable (G_is_tie_of a) :=
  Pm.of T.f_is_tie_of fun f fd F => def_ok (FF := F_is_tie_of a) (N := ["places", "thing"]) (o' := []) (lo := []) F ⟨rfl, rfl, rfl, by decide +kernel, rfl, by decide +kernel, by decide +kernel⟩ rfl (ws_ok rfl) fun cdv A outer s H M E hr => by
    have hu := us_of hr
    have tk : Takes (cnOf P w K mg base TT ["places", "thing"] "is_tie_of" (top 12) f cdv A outer s H H M E).X (cnOf P w K mg base TT ["places", "thing"] "is_tie_of" (top 12) f cdv A outer s H H M E).W := takes_of rfl rfl rfl rfl
    have hp : PassesOwn (model (cnOf P w K mg base TT ["places", "thing"] "is_tie_of" (top 12) f cdv A outer s H H M E).X.prog (cnOf P w K mg base TT ["places", "thing"] "is_tie_of" (top 12) f cdv A outer s H H M E).X.w) (cnOf P w K mg base TT ["places", "thing"] "is_tie_of" (top 12) f cdv A outer s H H M E).X.A (cnOf P w K mg base TT ["places", "thing"] "is_tie_of" (top 12) f cdv A outer s H H M E).X.env (cnOf P w K mg base TT ["places", "thing"] "is_tie_of" (top 12) f cdv A outer s H H M E).X.xe := passes_of rfl
    have hc : (cnOf P w K mg base TT ["places", "thing"] "is_tie_of" (top 12) f cdv A outer s H H M E).X.calm = true := rfl
    have hN : (cnOf P w K mg base TT ["places", "thing"] "is_tie_of" (top 12) f cdv A outer s H H M E).X.N.Nodup := (by decide +kernel : (["places", "thing"] : List Str).Nodup)
    have d_is_whole : Dn (cnOf P w K mg base TT ["places", "thing"] "is_tie_of" (top 12) f cdv A outer s H H M E) "is_whole" [.st] .stable (G_is_whole a) := (ok_is_whole T).dn (hr.mono (by decide))
    exact (dss_cons (ds_if (DW.pt (dw_or (dt_not (dt_val (asV (de_isi (T := "tuple") (de_vs 1 (pv 1)) rfl (by rfl) rfl T.b_isinstance (by rfl) rfl T.b_tuple)))) (dw_or (dt_cmp (od_ne hu.c) (asV (de_b cd_len rfl T.b_len (by rfl) (dv_cons (de_vs 1 (pv 1)) dv_nil))) (asV de_int) rfl) (dw_or (dt_not (dt_val (de_call tk d_is_whole rfl (dr_cons .st (de_ix hu.b (de_vs 1 (pv 1)) (asV de_int)) dr_nil)))) (dw_or1 (dt_not (dt_val (de_call tk d_is_whole rfl (dr_cons .st (de_ix hu.b (de_vs 1 (pv 1)) (asV de_int)) dr_nil))))))))) (dss_one (ds_ret de_bl)) dss_nil) (dss_one (ds_ret (de_ch3 od_le od_le od_lt (asV de_int) (de_ix hu.b (de_vs 1 (pv 1)) (asV de_int)) (de_ix hu.b (de_vs 1 (pv 1)) (asV de_int)) (de_vs 0 (pv 0))))))
def F_is_web_of (a : Ad) : SF := (sSeq (sIf (tOo (tNt (tOf dTru (eIsi "tuple" (eVar 0)))) (tOf dBl (eOp2 dNe (eB bLen [(eVar 0)]) (eC (.int 2))))) (sRet (eC (.bl false))) sNil) (sSeq (sTgt (.tup [(.nm 1), (.nm 2)]) (eVar 0)) (sSeq (sIf (tOo (tNt (tOf dTru (eCall (G_is_whole a) [(eVar 1)]))) (tNt (tOf dBl (eChain dLe dLe (eC (.int 1)) (eVar 1) (eC (.int 8)))))) (sRet (eC (.bl false))) sNil) (sSeq (sIf (tOo (tNt (tOf dTru (eIsi "tuple" (eVar 2)))) (tOo (tOf dBl (eOp2 dGt (eB bLen [(eVar 2)]) (eC (.int 14)))) (tNt (tOf dTru (eB bAll [(eLC [3] (.nm 3) (iOf dTup (eVar 2)) tNo (eCall (G_is_tie_of a) [(eVar 1), (eVar 3)]))]))))) (sRet (eC (.bl false))) sNil) (sRet (eOp2 dEq (eB bList [(eVar 2)]) (eB bSorted [(eVar 2)])))))))
def G_is_web_of (a : Ad) : GF := fnF 4 (F_is_web_of a)
theorem ok_is_web_of (T : Tx K mg a) : Pm P w K mg base "is_web_of" 3 (top 13) ["thing"] TT [.st] .stable (G_is_web_of a) :=
  Pm.of T.f_is_web_of fun f fd F => def_ok (FF := F_is_web_of a) (N := ["thing", "places", "ties", "tie"]) (o' := []) (lo := []) F ⟨rfl, rfl, rfl, by decide +kernel, rfl, by decide +kernel, by decide +kernel⟩ rfl (ws_ok rfl) fun cdv A outer s H M E hr => by
    have hu := us_of hr
    have tk : Takes (cnOf P w K mg base TT ["thing", "places", "ties", "tie"] "is_web_of" (top 13) f cdv A outer s H H M E).X (cnOf P w K mg base TT ["thing", "places", "ties", "tie"] "is_web_of" (top 13) f cdv A outer s H H M E).W := takes_of rfl rfl rfl rfl
    have hp : PassesOwn (model (cnOf P w K mg base TT ["thing", "places", "ties", "tie"] "is_web_of" (top 13) f cdv A outer s H H M E).X.prog (cnOf P w K mg base TT ["thing", "places", "ties", "tie"] "is_web_of" (top 13) f cdv A outer s H H M E).X.w) (cnOf P w K mg base TT ["thing", "places", "ties", "tie"] "is_web_of" (top 13) f cdv A outer s H H M E).X.A (cnOf P w K mg base TT ["thing", "places", "ties", "tie"] "is_web_of" (top 13) f cdv A outer s H H M E).X.env (cnOf P w K mg base TT ["thing", "places", "ties", "tie"] "is_web_of" (top 13) f cdv A outer s H H M E).X.xe := passes_of rfl
    have hc : (cnOf P w K mg base TT ["thing", "places", "ties", "tie"] "is_web_of" (top 13) f cdv A outer s H H M E).X.calm = true := rfl
    have hN : (cnOf P w K mg base TT ["thing", "places", "ties", "tie"] "is_web_of" (top 13) f cdv A outer s H H M E).X.N.Nodup := (by decide +kernel : (["thing", "places", "ties", "tie"] : List Str).Nodup)
    have d_is_whole : Dn (cnOf P w K mg base TT ["thing", "places", "ties", "tie"] "is_web_of" (top 13) f cdv A outer s H H M E) "is_whole" [.st] .stable (G_is_whole a) := (ok_is_whole T).dn (hr.mono (by decide))
    have d_is_tie_of : Dn (cnOf P w K mg base TT ["thing", "places", "ties", "tie"] "is_web_of" (top 13) f cdv A outer s H H M E) "is_tie_of" [.st, .st] .stable (G_is_tie_of a) := (ok_is_tie_of T).dn (hr.mono (by decide))
    exact (dss_cons (ds_if (DW.pt (dw_or (dt_not (dt_val (asV (de_isi (T := "tuple") (de_vs 0 (pv 0)) rfl (by rfl) rfl T.b_isinstance (by rfl) rfl T.b_tuple)))) (dw_or1 (dt_cmp (od_ne hu.c) (asV (de_b cd_len rfl T.b_len (by rfl) (dv_cons (de_vs 0 (pv 0)) dv_nil))) (asV de_int) rfl)))) (dss_one (ds_ret de_bl)) dss_nil) (dss_cons (ds_tgt (de_vs 0 (pv 0)) (dg_tup rfl (dgs_cons (dg_nm 1 hN rfl (.inr rfl)) (dgs_cons (dg_nm 2 hN rfl (.inl rfl)) dgs_nil)))) (dss_cons (ds_if (DW.pt (dw_or (dt_not (dt_val (de_call tk d_is_whole rfl (dr_cons .st (de_vs 1 (pv 1)) dr_nil)))) (dw_or1 (dt_not (dt_chain od_le od_le (asV de_int) (de_vs 1 (pv 1)) (asV (de_gi rfl T.c_MOST_PLACES))))))) (dss_one (ds_ret de_bl)) dss_nil) (dss_cons (ds_if (DW.pt (dw_or (dt_not (dt_val (asV (de_isi (T := "tuple") (de_vs 2 (pv 2)) rfl (by rfl) rfl T.b_isinstance (by rfl) rfl T.b_tuple)))) (dw_or (dt_cmp od_gt (asV (de_b cd_len rfl T.b_len (by rfl) (dv_cons (de_vs 2 (pv 2)) dv_nil))) (asV (de_gi rfl T.c_MOST_TIES)) rfl) (dw_or1 (dt_not (dt_val (asV (de_b (cd_all hc) rfl T.b_all (by rfl) (dv_cons (de_lc (ow := [("tie", 3)]) (P := (.nm 3)) rfl hN (di_tup (de_vs 2 (pv 2))) (blkOk_by (by kernel_rfl)) (by decide) (fun s1 H1 Cc1 cl1 fp1 => ⟨(dg_nm 3 hN rfl (.inl rfl)), dts_nil, (de_call tk0 d_is_tie_of.blk rfl (dr_cons .st (de_vs 1 (pv 1)) (dr_cons .st (de_vs 3 (pv 3)) dr_nil)))⟩)) dv_nil))))))))) (dss_one (ds_ret de_bl)) dss_nil) (dss_one (ds_ret (de_cmp (od_eq hu.c) (de_ty cd_list rfl T.b_list (by rfl) (dv_cons (de_vs 2 (pv 2)) dv_nil)) (de_b (cd_sorted hu.e) rfl T.b_sorted (by rfl) (dv_cons (de_vs 2 (pv 2)) dv_nil)) rfl)))))))
def F_need_web (a : Ad) : SF := (sSeq (sIf (tOf dTru (eCall (G_is_web_of a) [(eVar 0)])) (sRet (eC .non)) sNil) (sSeq (sIf (tOf dBl (eOp2 dEq (eVar 1) (eC (.str "one")))) (sRaise a.BadOne) sNil) (sSeq (sIf (tOf dBl (eOp2 dEq (eVar 1) (eC (.str "other")))) (sRaise a.BadOther) sNil) (sRaise a.BadWeb))))
def G_need_web (a : Ad) : GF := fnF 2 (F_need_web a)
theorem ok_need_web (T : Tx K mg a) : Pm P w K mg base "need_web" 4 (top 14) ["web", "word"] TT [.st, .st] .stable (G_need_web a) :=
  Pm.of T.f_need_web fun f fd F => def_ok (FF := F_need_web a) (N := ["web", "word"]) (o' := []) (lo := []) F ⟨rfl, rfl, rfl, by decide +kernel, rfl, by decide +kernel, by decide +kernel⟩ rfl (ws_ok rfl) fun cdv A outer s H M E hr => by
    have hu := us_of hr
    have tk : Takes (cnOf P w K mg base TT ["web", "word"] "need_web" (top 14) f cdv A outer s H H M E).X (cnOf P w K mg base TT ["web", "word"] "need_web" (top 14) f cdv A outer s H H M E).W := takes_of rfl rfl rfl rfl
    have hp : PassesOwn (model (cnOf P w K mg base TT ["web", "word"] "need_web" (top 14) f cdv A outer s H H M E).X.prog (cnOf P w K mg base TT ["web", "word"] "need_web" (top 14) f cdv A outer s H H M E).X.w) (cnOf P w K mg base TT ["web", "word"] "need_web" (top 14) f cdv A outer s H H M E).X.A (cnOf P w K mg base TT ["web", "word"] "need_web" (top 14) f cdv A outer s H H M E).X.env (cnOf P w K mg base TT ["web", "word"] "need_web" (top 14) f cdv A outer s H H M E).X.xe := passes_of rfl
    have hc : (cnOf P w K mg base TT ["web", "word"] "need_web" (top 14) f cdv A outer s H H M E).X.calm = true := rfl
    have hN : (cnOf P w K mg base TT ["web", "word"] "need_web" (top 14) f cdv A outer s H H M E).X.N.Nodup := (by decide +kernel : (["web", "word"] : List Str).Nodup)
    have d_is_web_of : Dn (cnOf P w K mg base TT ["web", "word"] "need_web" (top 14) f cdv A outer s H H M E) "is_web_of" [.st] .stable (G_is_web_of a) := (ok_is_web_of T).dn (hr.mono (by decide))
    exact (dss_cons (ds_if (dt_val (de_call tk d_is_web_of rfl (dr_cons .st (de_vs 0 (pv 0)) dr_nil))) (dss_one ds_retN) dss_nil) (dss_cons (ds_if (dt_cmp (od_eq hu.c) (de_vs 1 (pv 1)) (asV de_str) rfl) (dss_one (ds_rz tk hc T.x_BadOne rfl)) dss_nil) (dss_cons (ds_if (dt_cmp (od_eq hu.c) (de_vs 1 (pv 1)) (asV de_str) rfl) (dss_one (ds_rz tk hc T.x_BadOther rfl)) dss_nil) (dss_one (ds_rz tk hc T.x_BadWeb rfl)))))
def F_is_place_of (a : Ad) : SF := (sRet (eAn (eCall (G_is_whole a) [(eVar 1)]) (eChain dLe dLt (eC (.int 0)) (eVar 1) (eIx (eVar 0) (eC (.int 0))))))
def G_is_place_of (a : Ad) : GF := fnF 2 (F_is_place_of a)
theorem ok_is_place_of (T : Tx K mg a) : Pm P w K mg base "is_place_of" 2 (top 15) ["web", "thing"] TT [.st, .st] .stable (G_is_place_of a) :=
  Pm.of T.f_is_place_of fun f fd F => def_ok (FF := F_is_place_of a) (N := ["web", "thing"]) (o' := []) (lo := []) F ⟨rfl, rfl, rfl, by decide +kernel, rfl, by decide +kernel, by decide +kernel⟩ rfl (ws_ok rfl) fun cdv A outer s H M E hr => by
    have hu := us_of hr
    have tk : Takes (cnOf P w K mg base TT ["web", "thing"] "is_place_of" (top 15) f cdv A outer s H H M E).X (cnOf P w K mg base TT ["web", "thing"] "is_place_of" (top 15) f cdv A outer s H H M E).W := takes_of rfl rfl rfl rfl
    have hp : PassesOwn (model (cnOf P w K mg base TT ["web", "thing"] "is_place_of" (top 15) f cdv A outer s H H M E).X.prog (cnOf P w K mg base TT ["web", "thing"] "is_place_of" (top 15) f cdv A outer s H H M E).X.w) (cnOf P w K mg base TT ["web", "thing"] "is_place_of" (top 15) f cdv A outer s H H M E).X.A (cnOf P w K mg base TT ["web", "thing"] "is_place_of" (top 15) f cdv A outer s H H M E).X.env (cnOf P w K mg base TT ["web", "thing"] "is_place_of" (top 15) f cdv A outer s H H M E).X.xe := passes_of rfl
    have hc : (cnOf P w K mg base TT ["web", "thing"] "is_place_of" (top 15) f cdv A outer s H H M E).X.calm = true := rfl
    have hN : (cnOf P w K mg base TT ["web", "thing"] "is_place_of" (top 15) f cdv A outer s H H M E).X.N.Nodup := (by decide +kernel : (["web", "thing"] : List Str).Nodup)
    have d_is_whole : Dn (cnOf P w K mg base TT ["web", "thing"] "is_place_of" (top 15) f cdv A outer s H H M E) "is_whole" [.st] .stable (G_is_whole a) := (ok_is_whole T).dn (hr.mono (by decide))
    exact (dss_one (ds_ret (de_and (de_call tk d_is_whole rfl (dr_cons .st (de_vs 1 (pv 1)) dr_nil)) (de_one (de_chain od_le od_lt (asV de_int) (de_vs 1 (pv 1)) (de_ix hu.b (de_vs 0 (pv 0)) (asV de_int)))))))
def F_ways_by (a : Ad) : SF := (sSeq (sSet 1 (eLst [])) (sSeq (sFor (iOf dTup (eIx (eVar 0) (eC (.int 1)))) (.tup [(.nm 2), (.nm 3)]) (sSeq (sExt 1 (eLst [(eTup [(eVar 2), (eVar 3)]), (eTup [(eVar 3), (eVar 2)])])) sNil)) (sRet (eVar 1))))
def G_ways_by (a : Ad) : GF := fnF 4 (F_ways_by a)
theorem ok_ways_by (T : Tx K mg a) : Pm P w K mg base "ways_by" 1 (top 16) ["web"] TT [.st] .fresh (G_ways_by a) :=
  Pm.of T.f_ways_by fun f fd F => def_ok (FF := F_ways_by a) (N := ["web", "found", "one", "other"]) (o' := []) (lo := []) F ⟨rfl, rfl, rfl, by decide +kernel, rfl, by decide +kernel, by decide +kernel⟩ rfl (ws_ok rfl) fun cdv A outer s H M E hr => by
    have hu := us_of hr
    have tk : Takes (cnOf P w K mg base TT ["web", "found", "one", "other"] "ways_by" (top 16) f cdv A outer s H H M E).X (cnOf P w K mg base TT ["web", "found", "one", "other"] "ways_by" (top 16) f cdv A outer s H H M E).W := takes_of rfl rfl rfl rfl
    have hp : PassesOwn (model (cnOf P w K mg base TT ["web", "found", "one", "other"] "ways_by" (top 16) f cdv A outer s H H M E).X.prog (cnOf P w K mg base TT ["web", "found", "one", "other"] "ways_by" (top 16) f cdv A outer s H H M E).X.w) (cnOf P w K mg base TT ["web", "found", "one", "other"] "ways_by" (top 16) f cdv A outer s H H M E).X.A (cnOf P w K mg base TT ["web", "found", "one", "other"] "ways_by" (top 16) f cdv A outer s H H M E).X.env (cnOf P w K mg base TT ["web", "found", "one", "other"] "ways_by" (top 16) f cdv A outer s H H M E).X.xe := passes_of rfl
    have hc : (cnOf P w K mg base TT ["web", "found", "one", "other"] "ways_by" (top 16) f cdv A outer s H H M E).X.calm = true := rfl
    have hN : (cnOf P w K mg base TT ["web", "found", "one", "other"] "ways_by" (top 16) f cdv A outer s H H M E).X.N.Nodup := (by decide +kernel : (["web", "found", "one", "other"] : List Str).Nodup)
    exact (dss_cons (ds_set 1 .ow hN rfl (.inl rfl) (de_lst da_nil)) (dss_cons (ds_for (P := (.tup [(.nm 2), (.nm 3)])) hp hc (di_tup (de_ix hu.b (de_vs 0 (pv 0)) (asV de_int))) (dg_tup rfl (dgs_cons (dg_nm 2 hN rfl (.inl rfl)) (dgs_cons (dg_nm 3 hN rfl (.inl rfl)) dgs_nil))) (dss_cons (ds_ext 1 (pv 1) (de_lst (da_cons (de_tup (da_cons (de_vs 2 (pv 2)) (da_cons (de_vs 3 (pv 3)) da_nil))) (da_cons (de_tup (da_cons (de_vs 3 (pv 3)) (da_cons (de_vs 2 (pv 2)) da_nil))) da_nil)))) dss_nil)) (dss_one (ds_retO 1 (pv 1)))))
def F_back_of (a : Ad) : SF := (sRet (eIf (tOf dBl (eOp2 dEq (eOp2 dMod (eVar 0) (eC (.int 2))) (eC (.int 0)))) (eOp2 dAdd (eVar 0) (eC (.int 1))) (eOp2 dSub (eVar 0) (eC (.int 1)))))
def G_back_of (a : Ad) : GF := fnF 1 (F_back_of a)
theorem ok_back_of (T : Tx K mg a) : Pm P w K mg base "back_of" 1 (top 19) ["way"] TT [.st] .stable (G_back_of a) :=
  Pm.of T.f_back_of fun f fd F => def_ok (FF := F_back_of a) (N := ["way"]) (o' := []) (lo := []) F ⟨rfl, rfl, rfl, by decide +kernel, rfl, by decide +kernel, by decide +kernel⟩ rfl (ws_ok rfl) fun cdv A outer s H M E hr => by
    have hu := us_of hr
    have tk : Takes (cnOf P w K mg base TT ["way"] "back_of" (top 19) f cdv A outer s H H M E).X (cnOf P w K mg base TT ["way"] "back_of" (top 19) f cdv A outer s H H M E).W := takes_of rfl rfl rfl rfl
    have hp : PassesOwn (model (cnOf P w K mg base TT ["way"] "back_of" (top 19) f cdv A outer s H H M E).X.prog (cnOf P w K mg base TT ["way"] "back_of" (top 19) f cdv A outer s H H M E).X.w) (cnOf P w K mg base TT ["way"] "back_of" (top 19) f cdv A outer s H H M E).X.A (cnOf P w K mg base TT ["way"] "back_of" (top 19) f cdv A outer s H H M E).X.env (cnOf P w K mg base TT ["way"] "back_of" (top 19) f cdv A outer s H H M E).X.xe := passes_of rfl
    have hc : (cnOf P w K mg base TT ["way"] "back_of" (top 19) f cdv A outer s H H M E).X.calm = true := rfl
    have hN : (cnOf P w K mg base TT ["way"] "back_of" (top 19) f cdv A outer s H H M E).X.N.Nodup := (by decide +kernel : (["way"] : List Str).Nodup)
    exact (dss_one (ds_ret (de_if (dt_cmp (od_eq hu.c) (asV (de_op (op := .Mod) od_mod (de_vs 0 (pv 0)) (asV de_int))) (asV de_int) rfl) (de_frz (de_op (op := .Add) od_add (de_vs 0 (pv 0)) (asV de_int))) (de_op (op := .Sub) od_sub (de_vs 0 (pv 0)) (asV de_int)))))
def F_follows_by (a : Ad) : SF := (sSeq (sSet 1 (eCall (G_ways_by a) [(eVar 0)])) (sSeq (sSet 2 (eLst [])) (sSeq (sFor (iA rEn1 [(eVar 1)]) (.tup [(.nm 3), (.nm 4)]) (sSeq (sApp 2 (eLC [5, 6] (.tup [(.nm 5), (.nm 6)]) (iA rEn1 [(eVar 1)]) (tAn (tOf dBl (eOp2 dEq (eIx (eVar 6) (eC (.int 0))) (eIx (eVar 4) (eC (.int 1))))) (tOf dBl (eOp2 dNe (eVar 5) (eCall (G_back_of a) [(eVar 3)])))) (eVar 5))) sNil)) (sRet (eVar 2)))))
def G_follows_by (a : Ad) : GF := fnF 7 (F_follows_by a)
theorem ok_follows_by (T : Tx K mg a) : Pm P w K mg base "follows_by" 2 (top 20) ["web"] TT [.st] .fresh (G_follows_by a) :=
  Pm.of T.f_follows_by fun f fd F => def_ok (FF := F_follows_by a) (N := ["web", "pairs", "found", "way", "pair", "late", "other"]) (o' := []) (lo := []) F ⟨rfl, rfl, rfl, by decide +kernel, rfl, by decide +kernel, by decide +kernel⟩ rfl (ws_ok rfl) fun cdv A outer s H M E hr => by
    have hu := us_of hr
    have tk : Takes (cnOf P w K mg base TT ["web", "pairs", "found", "way", "pair", "late", "other"] "follows_by" (top 20) f cdv A outer s H H M E).X (cnOf P w K mg base TT ["web", "pairs", "found", "way", "pair", "late", "other"] "follows_by" (top 20) f cdv A outer s H H M E).W := takes_of rfl rfl rfl rfl
    have hp : PassesOwn (model (cnOf P w K mg base TT ["web", "pairs", "found", "way", "pair", "late", "other"] "follows_by" (top 20) f cdv A outer s H H M E).X.prog (cnOf P w K mg base TT ["web", "pairs", "found", "way", "pair", "late", "other"] "follows_by" (top 20) f cdv A outer s H H M E).X.w) (cnOf P w K mg base TT ["web", "pairs", "found", "way", "pair", "late", "other"] "follows_by" (top 20) f cdv A outer s H H M E).X.A (cnOf P w K mg base TT ["web", "pairs", "found", "way", "pair", "late", "other"] "follows_by" (top 20) f cdv A outer s H H M E).X.env (cnOf P w K mg base TT ["web", "pairs", "found", "way", "pair", "late", "other"] "follows_by" (top 20) f cdv A outer s H H M E).X.xe := passes_of rfl
    have hc : (cnOf P w K mg base TT ["web", "pairs", "found", "way", "pair", "late", "other"] "follows_by" (top 20) f cdv A outer s H H M E).X.calm = true := rfl
    have hN : (cnOf P w K mg base TT ["web", "pairs", "found", "way", "pair", "late", "other"] "follows_by" (top 20) f cdv A outer s H H M E).X.N.Nodup := (by decide +kernel : (["web", "pairs", "found", "way", "pair", "late", "other"] : List Str).Nodup)
    have d_ways_by : Dn (cnOf P w K mg base TT ["web", "pairs", "found", "way", "pair", "late", "other"] "follows_by" (top 20) f cdv A outer s H H M E) "ways_by" [.st] .fresh (G_ways_by a) := (ok_ways_by T).dn (hr.mono (by decide))
    have d_back_of : Dn (cnOf P w K mg base TT ["web", "pairs", "found", "way", "pair", "late", "other"] "follows_by" (top 20) f cdv A outer s H H M E) "back_of" [.st] .stable (G_back_of a) := (ok_back_of T).dn (hr.mono (by decide))
    exact (dss_cons (ds_set 1 .st hN rfl (.inl rfl) (de_frz (de_call tk d_ways_by rfl (dr_cons .st (de_vs 0 (pv 0)) dr_nil)))) (dss_cons (ds_set 2 .ow hN rfl (.inl rfl) (de_lst da_nil)) (dss_cons (ds_for (P := (.tup [(.nm 3), (.nm 4)])) hp hc (di_en1 (da_cons (de_vs 1 (pv 1)) da_nil) rfl T.b_enumerate) (dg_tup rfl (dgs_cons (dg_nm 3 hN rfl (.inr rfl)) (dgs_cons (dg_nm 4 hN rfl (.inr rfl)) dgs_nil))) (dss_cons (ds_app 2 (pv 2) (de_frz (de_lc (ow := [("late", 5), ("other", 6)]) (P := (.tup [(.nm 5), (.nm 6)])) rfl hN (di_en1 (da_cons (de_vs 1 (pv 1)) da_nil) rfl T.b_enumerate) (blkOk_by (by kernel_rfl)) (by decide) (fun s1 H1 Cc1 cl1 fp1 => ⟨(dg_tup rfl (dgs_cons (dg_nm 5 hN rfl (.inl rfl)) (dgs_cons (dg_nm 6 hN rfl (.inl rfl)) dgs_nil))), (dts_one (DW.pt (dw_and (dt_cmp (od_eq hu.c) (de_ix hu.b (de_vs 6 (pv 6)) (asV de_int)) (de_ix hu.b (de_vs 4 (pv 4)) (asV de_int)) rfl) (dw_and1 (dt_cmp (od_ne hu.c) (de_vs 5 (pv 5)) (de_call tk0 d_back_of.blk rfl (dr_cons .st (de_vs 3 (pv 3)) dr_nil)) rfl))))), (de_vs 5 (pv 5))⟩)))) dss_nil)) (dss_one (ds_retO 2 (pv 2))))))
def F_need_length (a : Ad) : SF := (sSeq (sIf (tOo (tNt (tOf dTru (eCall (G_is_whole a) [(eVar 0)]))) (tNt (tOf dBl (eChain dLe dLe (eVar 1) (eVar 0) (eVar 2))))) (sRaise a.BadLength) sNil) sNil)
def G_need_length (a : Ad) : GF := fnF 3 (F_need_length a)
theorem ok_need_length (T : Tx K mg a) : Pm P w K mg base "need_length" 2 (top 21) ["length", "low", "high"] TT [.st, .st, .st] .stable (G_need_length a) :=
  Pm.of T.f_need_length fun f fd F => def_ok (FF := F_need_length a) (N := ["length", "low", "high"]) (o' := [.st, .st, .st]) (lo := []) F ⟨rfl, rfl, rfl, by decide +kernel, rfl, by decide +kernel, by decide +kernel⟩ rfl (ws_ok rfl) fun cdv A outer s H M E hr => by
    have hu := us_of hr
    have tk : Takes (cnOf P w K mg base TT ["length", "low", "high"] "need_length" (top 21) f cdv A outer s H H M E).X (cnOf P w K mg base TT ["length", "low", "high"] "need_length" (top 21) f cdv A outer s H H M E).W := takes_of rfl rfl rfl rfl
    have hp : PassesOwn (model (cnOf P w K mg base TT ["length", "low", "high"] "need_length" (top 21) f cdv A outer s H H M E).X.prog (cnOf P w K mg base TT ["length", "low", "high"] "need_length" (top 21) f cdv A outer s H H M E).X.w) (cnOf P w K mg base TT ["length", "low", "high"] "need_length" (top 21) f cdv A outer s H H M E).X.A (cnOf P w K mg base TT ["length", "low", "high"] "need_length" (top 21) f cdv A outer s H H M E).X.env (cnOf P w K mg base TT ["length", "low", "high"] "need_length" (top 21) f cdv A outer s H H M E).X.xe := passes_of rfl
    have hc : (cnOf P w K mg base TT ["length", "low", "high"] "need_length" (top 21) f cdv A outer s H H M E).X.calm = true := rfl
    have hN : (cnOf P w K mg base TT ["length", "low", "high"] "need_length" (top 21) f cdv A outer s H H M E).X.N.Nodup := (by decide +kernel : (["length", "low", "high"] : List Str).Nodup)
    have d_is_whole : Dn (cnOf P w K mg base TT ["length", "low", "high"] "need_length" (top 21) f cdv A outer s H H M E) "is_whole" [.st] .stable (G_is_whole a) := (ok_is_whole T).dn (hr.mono (by decide))
    exact (dss_cons (ds_if (DW.pt (dw_or (dt_not (dt_val (de_call tk d_is_whole rfl (dr_cons .st (de_vs 0 (pv 0)) dr_nil)))) (dw_or1 (dt_not (dt_chain od_le od_le (de_vs 1 (pv 1)) (de_vs 0 (pv 0)) (de_vs 2 (pv 2))))))) (dss_one (ds_rz tk hc T.x_BadLength rfl)) dss_nil) dss_nil)
def F_led_on (a : Ad) : SF := (sSeq (sSet 2 (eOp2 dMul (eLst [(eC (.int 0))]) (eB bLen [(eVar 0)]))) (sSeq (sFor (iA rEn1 [(eVar 1)]) (.tup [(.nm 3), (.nm 4)]) (sSeq (sIf (tOf dBl (eOp2 dGt (eVar 4) (eC (.int 0)))) (sSeq (sFor (iOf dLst (eIx (eVar 0) (eVar 3))) (.nm 5) (sSeq (sAput 2 (eVar 5) (eVar 4)) sNil)) sNil) sNil) sNil)) (sRet (eVar 2))))
def G_led_on (a : Ad) : GF := fnF 6 (F_led_on a)
theorem ok_led_on (T : Tx K mg a) : Pm P w K mg base "led_on" 1 (top 22) ["follows", "counts"] TT [.st, .st] .fresh (G_led_on a) :=
  Pm.of T.f_led_on fun f fd F => def_ok (FF := F_led_on a) (N := ["follows", "counts", "found", "way", "count", "late"]) (o' := []) (lo := []) F ⟨rfl, rfl, rfl, by decide +kernel, rfl, by decide +kernel, by decide +kernel⟩ rfl (ws_ok rfl) fun cdv A outer s H M E hr => by
    have hu := us_of hr
    have tk : Takes (cnOf P w K mg base TT ["follows", "counts", "found", "way", "count", "late"] "led_on" (top 22) f cdv A outer s H H M E).X (cnOf P w K mg base TT ["follows", "counts", "found", "way", "count", "late"] "led_on" (top 22) f cdv A outer s H H M E).W := takes_of rfl rfl rfl rfl
    have hp : PassesOwn (model (cnOf P w K mg base TT ["follows", "counts", "found", "way", "count", "late"] "led_on" (top 22) f cdv A outer s H H M E).X.prog (cnOf P w K mg base TT ["follows", "counts", "found", "way", "count", "late"] "led_on" (top 22) f cdv A outer s H H M E).X.w) (cnOf P w K mg base TT ["follows", "counts", "found", "way", "count", "late"] "led_on" (top 22) f cdv A outer s H H M E).X.A (cnOf P w K mg base TT ["follows", "counts", "found", "way", "count", "late"] "led_on" (top 22) f cdv A outer s H H M E).X.env (cnOf P w K mg base TT ["follows", "counts", "found", "way", "count", "late"] "led_on" (top 22) f cdv A outer s H H M E).X.xe := passes_of rfl
    have hc : (cnOf P w K mg base TT ["follows", "counts", "found", "way", "count", "late"] "led_on" (top 22) f cdv A outer s H H M E).X.calm = true := rfl
    have hN : (cnOf P w K mg base TT ["follows", "counts", "found", "way", "count", "late"] "led_on" (top 22) f cdv A outer s H H M E).X.N.Nodup := (by decide +kernel : (["follows", "counts", "found", "way", "count", "late"] : List Str).Nodup)
    exact (dss_cons (ds_set 2 .ow hN rfl (.inl rfl) (de_op (op := .Mult) od_mul (de_lst (da_cons de_int da_nil)) (asV (de_b cd_len rfl T.b_len (by rfl) (dv_cons (de_vs 0 (pv 0)) dv_nil))))) (dss_cons (ds_for (P := (.tup [(.nm 3), (.nm 4)])) hp hc (di_en1 (da_cons (de_vs 1 (pv 1)) da_nil) rfl T.b_enumerate) (dg_tup rfl (dgs_cons (dg_nm 3 hN rfl (.inl rfl)) (dgs_cons (dg_nm 4 hN rfl (.inl rfl)) dgs_nil))) (dss_cons (ds_if (dt_cmp od_gt (de_vs 4 (pv 4)) (asV de_int) rfl) (dss_cons (ds_for (P := (.nm 5)) hp hc (di_list (de_ix hu.b (de_vs 0 (pv 0)) (de_vs 3 (pv 3)))) (dg_nm 5 hN rfl (.inl rfl)) (dss_cons (ds_aput 2 (pv 2) (de_vs 5 (pv 5)) (de_vs 4 (pv 4))) dss_nil)) dss_nil) dss_nil) dss_nil)) (dss_one (ds_retO 2 (pv 2)))))
def F_count_by (a : Ad) : SF := (sSeq (sIf (tOf dBl (eOp2 dEq (eVar 3) (eC (.int 0)))) (sRet (eIf (tOf dBl (eOp2 dEq (eVar 1) (eVar 2))) (eC (.int 1)) (eC (.int 0)))) sNil) (sSeq (sPar 6 7 (eCall (G_ways_by a) [(eVar 0)]) (eCall (G_follows_by a) [(eVar 0)])) (sSeq (sSet 4 (eLC [8] (.nm 8) (iOf dLst (eVar 6)) tNo (eIf (tOf dBl (eOp2 dEq (eIx (eVar 8) (eC (.int 0))) (eVar 1))) (eC (.int 1)) (eC (.int 0))))) (sSeq (sFor (iA rR1 [(eOp2 dSub (eVar 3) (eC (.int 1)))]) (.nm 5) (sSeq (sSet 4 (eCall (G_led_on a) [(eVar 7), (eVar 4)])) sNil)) (sRet (eB bSum [(eLC [9, 8] (.tup [(.nm 9), (.nm 8)]) (iA rZip [(eVar 4), (eVar 6)]) (tOf dBl (eOp2 dEq (eIx (eVar 8) (eC (.int 1))) (eVar 2))) (eVar 9))]))))))
def G_count_by (a : Ad) : GF := fnF 10 (F_count_by a)
theorem ok_count_by (T : Tx K mg a) : Pm P w K mg base "count_by" 3 (top 23) ["web", "start", "goal", "length"] TT [.st, .st, .st, .st] .stable (G_count_by a) :=
  Pm.of T.f_count_by fun f fd F => def_ok (FF := F_count_by a) (N := ["web", "start", "goal", "length", "counts", "lap", "pairs", "follows", "pair", "count"]) (o' := []) (lo := []) F ⟨rfl, rfl, rfl, by decide +kernel, rfl, by decide +kernel, by decide +kernel⟩ rfl (ws_ok rfl) fun cdv A outer s H M E hr => by
    have hu := us_of hr
    have tk : Takes (cnOf P w K mg base TT ["web", "start", "goal", "length", "counts", "lap", "pairs", "follows", "pair", "count"] "count_by" (top 23) f cdv A outer s H H M E).X (cnOf P w K mg base TT ["web", "start", "goal", "length", "counts", "lap", "pairs", "follows", "pair", "count"] "count_by" (top 23) f cdv A outer s H H M E).W := takes_of rfl rfl rfl rfl
    have hp : PassesOwn (model (cnOf P w K mg base TT ["web", "start", "goal", "length", "counts", "lap", "pairs", "follows", "pair", "count"] "count_by" (top 23) f cdv A outer s H H M E).X.prog (cnOf P w K mg base TT ["web", "start", "goal", "length", "counts", "lap", "pairs", "follows", "pair", "count"] "count_by" (top 23) f cdv A outer s H H M E).X.w) (cnOf P w K mg base TT ["web", "start", "goal", "length", "counts", "lap", "pairs", "follows", "pair", "count"] "count_by" (top 23) f cdv A outer s H H M E).X.A (cnOf P w K mg base TT ["web", "start", "goal", "length", "counts", "lap", "pairs", "follows", "pair", "count"] "count_by" (top 23) f cdv A outer s H H M E).X.env (cnOf P w K mg base TT ["web", "start", "goal", "length", "counts", "lap", "pairs", "follows", "pair", "count"] "count_by" (top 23) f cdv A outer s H H M E).X.xe := passes_of rfl
    have hc : (cnOf P w K mg base TT ["web", "start", "goal", "length", "counts", "lap", "pairs", "follows", "pair", "count"] "count_by" (top 23) f cdv A outer s H H M E).X.calm = true := rfl
    have hN : (cnOf P w K mg base TT ["web", "start", "goal", "length", "counts", "lap", "pairs", "follows", "pair", "count"] "count_by" (top 23) f cdv A outer s H H M E).X.N.Nodup := (by decide +kernel : (["web", "start", "goal", "length", "counts", "lap", "pairs", "follows", "pair", "count"] : List Str).Nodup)
    have d_ways_by : Dn (cnOf P w K mg base TT ["web", "start", "goal", "length", "counts", "lap", "pairs", "follows", "pair", "count"] "count_by" (top 23) f cdv A outer s H H M E) "ways_by" [.st] .fresh (G_ways_by a) := (ok_ways_by T).dn (hr.mono (by decide))
    have d_follows_by : Dn (cnOf P w K mg base TT ["web", "start", "goal", "length", "counts", "lap", "pairs", "follows", "pair", "count"] "count_by" (top 23) f cdv A outer s H H M E) "follows_by" [.st] .fresh (G_follows_by a) := (ok_follows_by T).dn (hr.mono (by decide))
    have d_led_on : Dn (cnOf P w K mg base TT ["web", "start", "goal", "length", "counts", "lap", "pairs", "follows", "pair", "count"] "count_by" (top 23) f cdv A outer s H H M E) "led_on" [.st, .st] .fresh (G_led_on a) := (ok_led_on T).dn (hr.mono (by decide))
    exact (dss_cons (ds_if (dt_cmp (od_eq hu.c) (de_vs 3 (pv 3)) (asV de_int) rfl) (dss_one (ds_ret (de_if (dt_cmp (od_eq hu.c) (de_vs 1 (pv 1)) (de_vs 2 (pv 2)) rfl) de_int de_int))) dss_nil) (dss_cons (ds_par 6 7 .st .st hc hN rfl rfl rfl rfl (de_frz (de_call tk d_ways_by rfl (dr_cons .st (de_vs 0 (pv 0)) dr_nil))) (de_frz (de_call tk d_follows_by rfl (dr_cons .st (de_vs 0 (pv 0)) dr_nil))) rfl) (dss_cons (ds_setLc 4 (ow := [("pair", 8)]) (P := (.nm 8)) rfl rfl (sw_true rfl rfl rfl rfl) hc hN (di_list (de_vs 6 (pv 6))) (blkOk_by (by kernel_rfl)) (by decide) (fun s1 H1 Cc1 cl1 fp1 => ⟨(dg_nm 8 hN rfl (.inl rfl)), dts_nil, (de_if (dt_cmp (od_eq hu.c) (de_ix hu.b (de_vs 8 (pv 8)) (asV de_int)) (de_vs 1 (pv 1)) rfl) de_int de_int)⟩)) (dss_fz 4 (dss_cons (ds_for (P := (.nm 5)) hp hc (di_r1 (dv_cons (asV (de_op (op := .Sub) od_sub (de_vs 3 (pv 3)) (asV de_int))) dv_nil) rfl T.b_range) (dg_nm 5 hN rfl (.inl rfl)) (dss_cons (ds_set 4 .st hN rfl (.inl rfl) (de_frz (de_call tk d_led_on rfl (dr_cons .st (de_vs 7 (pv 7)) (dr_cons .st (de_vs 4 (pv 4)) dr_nil))))) dss_nil)) (dss_one (ds_ret (de_b (cd_sum hc) rfl T.b_sum (by rfl) (dv_cons (de_lc (ow := [("count", 9), ("pair", 8)]) (P := (.tup [(.nm 9), (.nm 8)])) rfl hN (di_zip (da_cons (de_vs 4 (pv 4)) (da_cons (de_vs 6 (pv 6)) da_nil)) rfl T.b_zip) (blkOk_by (by kernel_rfl)) (by decide) (fun s1 H1 Cc1 cl1 fp1 => ⟨(dg_tup rfl (dgs_cons (dg_nm 9 hN rfl (.inl rfl)) (dgs_cons (dg_nm 8 hN rfl (.inl rfl)) dgs_nil))), (dts_one (dt_cmp (od_eq hu.c) (de_ix hu.b (de_vs 8 (pv 8)) (asV de_int)) (de_vs 2 (pv 2)) rfl)), (de_vs 9 (pv 9))⟩)) dv_nil)))))))))
def F_need_asked (a : Ad) : SF := (sSeq (sExp (eCall (G_need_web a) [(eVar 0), (eC (.str "web"))])) (sSeq (sIf (tNt (tOf dTru (eCall (G_is_place_of a) [(eVar 0), (eVar 1)]))) (sRaise a.BadStart) sNil) (sSeq (sIf (tNt (tOf dTru (eCall (G_is_place_of a) [(eVar 0), (eVar 2)]))) (sRaise a.BadGoal) sNil) (sSeq (sExp (eCall (G_need_length a) [(eVar 3), (eC (.int 0)), (eC (.int 60))])) sNil))))
def G_need_asked (a : Ad) : GF := fnF 4 (F_need_asked a)
theorem ok_need_asked (T : Tx K mg a) : Pm P w K mg base "need_asked" 5 (top 24) ["web", "start", "goal", "length"] TT [.st, .st, .st, .st] .stable (G_need_asked a) :=
  Pm.of T.f_need_asked fun f fd F => def_ok (FF := F_need_asked a) (N := ["web", "start", "goal", "length"]) (o' := [.st, .st, .st, .st]) (lo := []) F ⟨rfl, rfl, rfl, by decide +kernel, rfl, by decide +kernel, by decide +kernel⟩ rfl (ws_ok rfl) fun cdv A outer s H M E hr => by
    have hu := us_of hr
    have tk : Takes (cnOf P w K mg base TT ["web", "start", "goal", "length"] "need_asked" (top 24) f cdv A outer s H H M E).X (cnOf P w K mg base TT ["web", "start", "goal", "length"] "need_asked" (top 24) f cdv A outer s H H M E).W := takes_of rfl rfl rfl rfl
    have hp : PassesOwn (model (cnOf P w K mg base TT ["web", "start", "goal", "length"] "need_asked" (top 24) f cdv A outer s H H M E).X.prog (cnOf P w K mg base TT ["web", "start", "goal", "length"] "need_asked" (top 24) f cdv A outer s H H M E).X.w) (cnOf P w K mg base TT ["web", "start", "goal", "length"] "need_asked" (top 24) f cdv A outer s H H M E).X.A (cnOf P w K mg base TT ["web", "start", "goal", "length"] "need_asked" (top 24) f cdv A outer s H H M E).X.env (cnOf P w K mg base TT ["web", "start", "goal", "length"] "need_asked" (top 24) f cdv A outer s H H M E).X.xe := passes_of rfl
    have hc : (cnOf P w K mg base TT ["web", "start", "goal", "length"] "need_asked" (top 24) f cdv A outer s H H M E).X.calm = true := rfl
    have hN : (cnOf P w K mg base TT ["web", "start", "goal", "length"] "need_asked" (top 24) f cdv A outer s H H M E).X.N.Nodup := (by decide +kernel : (["web", "start", "goal", "length"] : List Str).Nodup)
    have d_need_web : Dn (cnOf P w K mg base TT ["web", "start", "goal", "length"] "need_asked" (top 24) f cdv A outer s H H M E) "need_web" [.st, .st] .stable (G_need_web a) := (ok_need_web T).dn (hr.mono (by decide))
    have d_is_place_of : Dn (cnOf P w K mg base TT ["web", "start", "goal", "length"] "need_asked" (top 24) f cdv A outer s H H M E) "is_place_of" [.st, .st] .stable (G_is_place_of a) := (ok_is_place_of T).dn (hr.mono (by decide))
    have d_need_length : Dn (cnOf P w K mg base TT ["web", "start", "goal", "length"] "need_asked" (top 24) f cdv A outer s H H M E) "need_length" [.st, .st, .st] .stable (G_need_length a) := (ok_need_length T).dn (hr.mono (by decide))
    exact (dss_cons (ds_exp (de_call tk d_need_web rfl (dr_cons .st (de_vs 0 (pv 0)) (dr_cons .st de_str dr_nil)))) (dss_cons (ds_if (dt_not (dt_val (de_call tk d_is_place_of rfl (dr_cons .st (de_vs 0 (pv 0)) (dr_cons .st (de_vs 1 (pv 1)) dr_nil))))) (dss_one (ds_rz tk hc T.x_BadStart rfl)) dss_nil) (dss_cons (ds_if (dt_not (dt_val (de_call tk d_is_place_of rfl (dr_cons .st (de_vs 0 (pv 0)) (dr_cons .st (de_vs 2 (pv 2)) dr_nil))))) (dss_one (ds_rz tk hc T.x_BadGoal rfl)) dss_nil) (dss_cons (ds_exp (de_call tk d_need_length rfl (dr_cons .st (de_vs 3 (pv 3)) (dr_cons .st de_int (dr_cons .st (de_gi rfl T.c_MOST_LENGTH) dr_nil))))) dss_nil))))
def F_walk_count (a : Ad) : SF := (sSeq (sExp (eCall (G_need_asked a) [(eVar 0), (eVar 1), (eVar 2), (eVar 3)])) (sRet (eCall (G_count_by a) [(eVar 0), (eVar 1), (eVar 2), (eVar 3)])))
def G_walk_count (a : Ad) : GF := fnF 4 (F_walk_count a)
theorem ok_walk_count (T : Tx K mg a) : Pm P w K mg base "walk_count" 6 (top 25) ["web", "start", "goal", "length"] TT [.st, .st, .st, .st] .stable (G_walk_count a) :=
  Pm.of T.f_walk_count fun f fd F => def_ok (FF := F_walk_count a) (N := ["web", "start", "goal", "length"]) (o' := []) (lo := []) F ⟨rfl, rfl, rfl, by decide +kernel, rfl, by decide +kernel, by decide +kernel⟩ rfl (ws_ok rfl) fun cdv A outer s H M E hr => by
    have hu := us_of hr
    have tk : Takes (cnOf P w K mg base TT ["web", "start", "goal", "length"] "walk_count" (top 25) f cdv A outer s H H M E).X (cnOf P w K mg base TT ["web", "start", "goal", "length"] "walk_count" (top 25) f cdv A outer s H H M E).W := takes_of rfl rfl rfl rfl
    have hp : PassesOwn (model (cnOf P w K mg base TT ["web", "start", "goal", "length"] "walk_count" (top 25) f cdv A outer s H H M E).X.prog (cnOf P w K mg base TT ["web", "start", "goal", "length"] "walk_count" (top 25) f cdv A outer s H H M E).X.w) (cnOf P w K mg base TT ["web", "start", "goal", "length"] "walk_count" (top 25) f cdv A outer s H H M E).X.A (cnOf P w K mg base TT ["web", "start", "goal", "length"] "walk_count" (top 25) f cdv A outer s H H M E).X.env (cnOf P w K mg base TT ["web", "start", "goal", "length"] "walk_count" (top 25) f cdv A outer s H H M E).X.xe := passes_of rfl
    have hc : (cnOf P w K mg base TT ["web", "start", "goal", "length"] "walk_count" (top 25) f cdv A outer s H H M E).X.calm = true := rfl
    have hN : (cnOf P w K mg base TT ["web", "start", "goal", "length"] "walk_count" (top 25) f cdv A outer s H H M E).X.N.Nodup := (by decide +kernel : (["web", "start", "goal", "length"] : List Str).Nodup)
    have d_need_asked : Dn (cnOf P w K mg base TT ["web", "start", "goal", "length"] "walk_count" (top 25) f cdv A outer s H H M E) "need_asked" [.st, .st, .st, .st] .stable (G_need_asked a) := (ok_need_asked T).dn (hr.mono (by decide))
    have d_count_by : Dn (cnOf P w K mg base TT ["web", "start", "goal", "length"] "walk_count" (top 25) f cdv A outer s H H M E) "count_by" [.st, .st, .st, .st] .stable (G_count_by a) := (ok_count_by T).dn (hr.mono (by decide))
    exact (dss_cons (ds_exp (de_call tk d_need_asked rfl (dr_cons .st (de_vs 0 (pv 0)) (dr_cons .st (de_vs 1 (pv 1)) (dr_cons .st (de_vs 2 (pv 2)) (dr_cons .st (de_vs 3 (pv 3)) dr_nil)))))) (dss_one (ds_ret (de_call tk d_count_by rfl (dr_cons .st (de_vs 0 (pv 0)) (dr_cons .st (de_vs 1 (pv 1)) (dr_cons .st (de_vs 2 (pv 2)) (dr_cons .st (de_vs 3 (pv 3)) dr_nil))))))))
def F__law_begun (a : Ad) : SF := (sSeq (sPar 2 3 (eC (.int 0)) (eLst [])) (sSeq (sFor (iOf dLst (eVar 0)) (.nm 1) (sSeq (sIf (tOf dTru (eIsi "int" (eVar 1))) (sSeq (sIf (tOf dBl (eOp2 dGe (eVar 1) (eOp2 dPow (eC (.int 10)) (eC (.int 18))))) (sSeq (sSet 2 (eOp2 dAdd (eOp2 dMul (eVar 2) (eOp2 dAdd (eOp2 dSub (eVar 1) (eOp2 dPow (eC (.int 10)) (eC (.int 18)))) (eC (.int 1)))) (eOp2 dSub (eVar 1) (eOp2 dPow (eC (.int 10)) (eC (.int 18)))))) sNil) sNil) (sSeq (sApp 3 (eVar 1)) sNil)) sNil) sNil)) (sRet (eDisp [.inr "whole", .inr "cells", .inr "count"] [(eVar 2), (eVar 3), (eC (.int 0))]))))
def G__law_begun (a : Ad) : GF := fnF 4 (F__law_begun a)
theorem ok__law_begun (T : Tx K mg a) : Pm P w K mg base "_law_begun" 1 (top 27) ["script"] TT [.st] .fresh (G__law_begun a) :=
  Pm.of T.f__law_begun fun f fd F => def_ok (FF := F__law_begun a) (N := ["script", "cell", "whole", "cells"]) (o' := []) (lo := []) F ⟨rfl, rfl, rfl, by decide +kernel, rfl, by decide +kernel, by decide +kernel⟩ rfl (ws_ok rfl) fun cdv A outer s H M E hr => by
    have hu := us_of hr
    have tk : Takes (cnOf P w K mg base TT ["script", "cell", "whole", "cells"] "_law_begun" (top 27) f cdv A outer s H H M E).X (cnOf P w K mg base TT ["script", "cell", "whole", "cells"] "_law_begun" (top 27) f cdv A outer s H H M E).W := takes_of rfl rfl rfl rfl
    have hp : PassesOwn (model (cnOf P w K mg base TT ["script", "cell", "whole", "cells"] "_law_begun" (top 27) f cdv A outer s H H M E).X.prog (cnOf P w K mg base TT ["script", "cell", "whole", "cells"] "_law_begun" (top 27) f cdv A outer s H H M E).X.w) (cnOf P w K mg base TT ["script", "cell", "whole", "cells"] "_law_begun" (top 27) f cdv A outer s H H M E).X.A (cnOf P w K mg base TT ["script", "cell", "whole", "cells"] "_law_begun" (top 27) f cdv A outer s H H M E).X.env (cnOf P w K mg base TT ["script", "cell", "whole", "cells"] "_law_begun" (top 27) f cdv A outer s H H M E).X.xe := passes_of rfl
    have hc : (cnOf P w K mg base TT ["script", "cell", "whole", "cells"] "_law_begun" (top 27) f cdv A outer s H H M E).X.calm = true := rfl
    have hN : (cnOf P w K mg base TT ["script", "cell", "whole", "cells"] "_law_begun" (top 27) f cdv A outer s H H M E).X.N.Nodup := (by decide +kernel : (["script", "cell", "whole", "cells"] : List Str).Nodup)
    exact (dss_cons (ds_par 2 3 .st .ow hc hN rfl rfl rfl rfl de_int (de_lst da_nil) rfl) (dss_cons (ds_for (P := (.nm 1)) hp hc (di_list (de_vs 0 (pv 0))) (dg_nm 1 hN rfl (.inl rfl)) (dss_cons (ds_if (dt_val (asV (de_isi (T := "int") (de_vs 1 (pv 1)) rfl (by rfl) rfl T.b_isinstance (by rfl) rfl T.b_int))) (dss_cons (ds_if (dt_cmp od_ge (de_vs 1 (pv 1)) (asV (de_op (op := .Pow) od_pow (asV de_int) (asV de_int))) rfl) (dss_cons (ds_set 2 .st hN rfl (.inl rfl) (de_frz (de_op (op := .Add) od_add (de_op (op := .Mult) od_mul (de_vs 2 (pv 2)) (de_op (op := .Add) od_add (asV (de_op (op := .Sub) od_sub (de_vs 1 (pv 1)) (asV (de_op (op := .Pow) od_pow (asV de_int) (asV de_int))))) (asV de_int))) (asV (de_op (op := .Sub) od_sub (de_vs 1 (pv 1)) (asV (de_op (op := .Pow) od_pow (asV de_int) (asV de_int)))))))) dss_nil) dss_nil) (dss_cons (ds_app 3 (pv 3) (de_vs 1 (pv 1))) dss_nil)) dss_nil) dss_nil)) (dss_fz 3 (dss_one (ds_ret (de_disp (ks := [.inr "whole", .inr "cells", .inr "count"]) (dp_str (de_vs 2 (pv 2)) (dp_str (de_vs 3 (pv 3)) (dp_str de_int dp_nil)))))))))
def F__law_mixed (a : Ad) : SF := (sSeq (sDput 0 (eC (.str "count")) (eOp2 dAdd (eIx (eVar 0) (eC (.str "count"))) (eC (.int 1)))) (sSeq (sSet 1 (eOp2 dAdd (eC (.int 1469598103934665603)) (eOp2 dMul (eC (.int 97)) (eIx (eVar 0) (eC (.str "count")))))) (sSeq (sFor (iOf dLst (eOp2 dAdd (eIx (eVar 0) (eC (.str "cells"))) (eLst [(eIx (eVar 0) (eC (.str "count")))]))) (.nm 2) (sSeq (sSet 1 (eOp2 dMod (eB bInt [(eOp2 dMul (eOp2 dAdd (eVar 1) (eVar 2)) (eC (.int 1099511628211)))]) (eOp2 dSub (eOp2 dPow (eC (.int 2)) (eC (.int 61))) (eC (.int 1))))) (sSeq (sSet 1 (eOp2 dAdd (eVar 1) (eOp2 dDiv (eVar 1) (eOp2 dPow (eC (.int 2)) (eC (.int 17)))))) sNil))) (sRet (eVar 1)))))
def G__law_mixed (a : Ad) : GF := fnF 3 (F__law_mixed a)
theorem ok__law_mixed (T : Tx K mg a) : Pm P w K mg base "_law_mixed" 1 (top 28) ["draw"] TT [.st] .stable (G__law_mixed a) :=
  Pm.of T.f__law_mixed fun f fd F => def_ok (FF := F__law_mixed a) (N := ["draw", "found", "cell"]) (o' := []) (lo := []) F ⟨rfl, rfl, rfl, by decide +kernel, rfl, by decide +kernel, by decide +kernel⟩ rfl (ws_ok rfl) fun cdv A outer s H M E hr => by
    have hu := us_of hr
    have tk : Takes (cnOf P w K mg base TT ["draw", "found", "cell"] "_law_mixed" (top 28) f cdv A outer s H H M E).X (cnOf P w K mg base TT ["draw", "found", "cell"] "_law_mixed" (top 28) f cdv A outer s H H M E).W := takes_of rfl rfl rfl rfl
    have hp : PassesOwn (model (cnOf P w K mg base TT ["draw", "found", "cell"] "_law_mixed" (top 28) f cdv A outer s H H M E).X.prog (cnOf P w K mg base TT ["draw", "found", "cell"] "_law_mixed" (top 28) f cdv A outer s H H M E).X.w) (cnOf P w K mg base TT ["draw", "found", "cell"] "_law_mixed" (top 28) f cdv A outer s H H M E).X.A (cnOf P w K mg base TT ["draw", "found", "cell"] "_law_mixed" (top 28) f cdv A outer s H H M E).X.env (cnOf P w K mg base TT ["draw", "found", "cell"] "_law_mixed" (top 28) f cdv A outer s H H M E).X.xe := passes_of rfl
    have hc : (cnOf P w K mg base TT ["draw", "found", "cell"] "_law_mixed" (top 28) f cdv A outer s H H M E).X.calm = true := rfl
    have hN : (cnOf P w K mg base TT ["draw", "found", "cell"] "_law_mixed" (top 28) f cdv A outer s H H M E).X.N.Nodup := (by decide +kernel : (["draw", "found", "cell"] : List Str).Nodup)
    exact (dss_cons (ds_dput 0 hu.b (pv 0) (asV de_str) (de_frz (de_op (op := .Add) od_add (de_ix hu.b (de_vs 0 (pv 0)) (asV de_str)) (asV de_int)))) (dss_cons (ds_set 1 .st hN rfl (.inl rfl) (de_frz (de_op (op := .Add) od_add (asV de_int) (de_op (op := .Mult) od_mul (asV de_int) (de_ix hu.b (de_vs 0 (pv 0)) (asV de_str)))))) (dss_cons (ds_for (P := (.nm 2)) hp hc (di_list (de_frz (de_op (op := .Add) od_add (de_ix hu.b (de_vs 0 (pv 0)) (asV de_str)) (de_lst (da_cons (de_ix hu.b (de_vs 0 (pv 0)) (asV de_str)) da_nil))))) (dg_nm 2 hN rfl (.inl rfl)) (dss_cons (ds_set 1 .st hN rfl (.inl rfl) (de_op (op := .Mod) od_mod (asV (de_ty cd_int rfl T.b_int (by rfl) (dv_cons (de_op (op := .Mult) od_mul (de_op (op := .Add) od_add (de_vs 1 (pv 1)) (de_vs 2 (pv 2))) (asV de_int)) dv_nil))) (asV (de_op (op := .Sub) od_sub (asV (de_op (op := .Pow) od_pow (asV de_int) (asV de_int))) (asV de_int))))) (dss_cons (ds_set 1 .st hN rfl (.inl rfl) (de_frz (de_op (op := .Add) od_add (de_vs 1 (pv 1)) (asV (de_op (op := .FloorDiv) od_div (de_vs 1 (pv 1)) (asV (de_op (op := .Pow) od_pow (asV de_int) (asV de_int)))))))) dss_nil))) (dss_one (ds_ret (de_vs 1 (pv 1)))))))
def F__law_take (a : Ad) : SF := (sSeq (sIf (tOf dBl (eOp2 dLt (eVar 1) (eC (.int 2)))) (sRet (eC (.int 0))) sNil) (sSeq (sIf (tOf dBl (eOp2 dGt (eIx (eVar 0) (eC (.str "whole"))) (eC (.int 0)))) (sSeq (sSet 2 (eOp2 dMod (eB bInt [(eIx (eVar 0) (eC (.str "whole")))]) (eVar 1))) (sSeq (sDput 0 (eC (.str "whole")) (eOp2 dDiv (eIx (eVar 0) (eC (.str "whole"))) (eVar 1))) (sRet (eVar 2)))) sNil) (sSeq (sSet 2 (eCall (G__law_mixed a) [(eVar 0)])) (sSeq (sWhl (tAn (tOf dBl (eOp2 dGt (eVar 1) (eOp2 dPow (eC (.int 2)) (eC (.int 50))))) (tOf dBl (eOp2 dLt (eVar 2) (eOp2 dMul (eVar 1) (eVar 1))))) (sSeq (sSet 2 (eOp2 dAdd (eOp2 dMul (eVar 2) (eOp2 dPow (eC (.int 2)) (eC (.int 61)))) (eCall (G__law_mixed a) [(eVar 0)]))) sNil)) (sRet (eOp2 dMod (eB bInt [(eOp2 dDiv (eVar 2) (eC (.int 1024)))]) (eVar 1)))))))
def G__law_take (a : Ad) : GF := fnF 3 (F__law_take a)
theorem ok__law_take (T : Tx K mg a) : Pm P w K mg base "_law_take" 2 (top 29) ["draw", "amount"] TT [.st, .st] .stable (G__law_take a) :=
  Pm.of T.f__law_take fun f fd F => def_ok (FF := F__law_take a) (N := ["draw", "amount", "found"]) (o' := []) (lo := []) F ⟨rfl, rfl, rfl, by decide +kernel, rfl, by decide +kernel, by decide +kernel⟩ rfl (ws_ok rfl) fun cdv A outer s H M E hr => by
    have hu := us_of hr
    have tk : Takes (cnOf P w K mg base TT ["draw", "amount", "found"] "_law_take" (top 29) f cdv A outer s H H M E).X (cnOf P w K mg base TT ["draw", "amount", "found"] "_law_take" (top 29) f cdv A outer s H H M E).W := takes_of rfl rfl rfl rfl
    have hp : PassesOwn (model (cnOf P w K mg base TT ["draw", "amount", "found"] "_law_take" (top 29) f cdv A outer s H H M E).X.prog (cnOf P w K mg base TT ["draw", "amount", "found"] "_law_take" (top 29) f cdv A outer s H H M E).X.w) (cnOf P w K mg base TT ["draw", "amount", "found"] "_law_take" (top 29) f cdv A outer s H H M E).X.A (cnOf P w K mg base TT ["draw", "amount", "found"] "_law_take" (top 29) f cdv A outer s H H M E).X.env (cnOf P w K mg base TT ["draw", "amount", "found"] "_law_take" (top 29) f cdv A outer s H H M E).X.xe := passes_of rfl
    have hc : (cnOf P w K mg base TT ["draw", "amount", "found"] "_law_take" (top 29) f cdv A outer s H H M E).X.calm = true := rfl
    have hN : (cnOf P w K mg base TT ["draw", "amount", "found"] "_law_take" (top 29) f cdv A outer s H H M E).X.N.Nodup := (by decide +kernel : (["draw", "amount", "found"] : List Str).Nodup)
    have d__law_mixed : Dn (cnOf P w K mg base TT ["draw", "amount", "found"] "_law_take" (top 29) f cdv A outer s H H M E) "_law_mixed" [.st] .stable (G__law_mixed a) := (ok__law_mixed T).dn (hr.mono (by decide))
    exact (dss_cons (ds_if (dt_cmp od_lt (de_vs 1 (pv 1)) (asV de_int) rfl) (dss_one (ds_ret de_int)) dss_nil) (dss_cons (ds_if (dt_cmp od_gt (de_ix hu.b (de_vs 0 (pv 0)) (asV de_str)) (asV de_int) rfl) (dss_cons (ds_set 2 .st hN rfl (.inl rfl) (de_op (op := .Mod) od_mod (asV (de_ty cd_int rfl T.b_int (by rfl) (dv_cons (de_ix hu.b (de_vs 0 (pv 0)) (asV de_str)) dv_nil))) (de_vs 1 (pv 1)))) (dss_cons (ds_dput 0 hu.b (pv 0) (asV de_str) (de_op (op := .FloorDiv) od_div (de_ix hu.b (de_vs 0 (pv 0)) (asV de_str)) (de_vs 1 (pv 1)))) (dss_one (ds_ret (de_vs 2 (pv 2)))))) dss_nil) (dss_cons (ds_set 2 .st hN rfl (.inl rfl) (de_call tk d__law_mixed rfl (dr_cons .st (de_vs 0 (pv 0)) dr_nil))) (dss_cons (ds_whl hp (DW.pt (dw_and (dt_cmp od_gt (de_vs 1 (pv 1)) (asV (de_op (op := .Pow) od_pow (asV de_int) (asV de_int))) rfl) (dw_and1 (dt_cmp od_lt (de_vs 2 (pv 2)) (de_op (op := .Mult) od_mul (de_vs 1 (pv 1)) (de_vs 1 (pv 1))) rfl)))) (dss_cons (ds_set 2 .st hN rfl (.inl rfl) (de_frz (de_op (op := .Add) od_add (de_op (op := .Mult) od_mul (de_vs 2 (pv 2)) (asV (de_op (op := .Pow) od_pow (asV de_int) (asV de_int)))) (de_call tk d__law_mixed rfl (dr_cons .st (de_vs 0 (pv 0)) dr_nil))))) dss_nil)) (dss_one (ds_ret (de_op (op := .Mod) od_mod (asV (de_ty cd_int rfl T.b_int (by rfl) (dv_cons (asV (de_op (op := .FloorDiv) od_div (de_vs 2 (pv 2)) (asV de_int))) dv_nil))) (de_vs 1 (pv 1)))))))))
def F__law_pick (a : Ad) : SF := (sRet (eIx (eVar 1) (eCall (G__law_take a) [(eVar 0), (eB bLen [(eVar 1)])])))
def G__law_pick (a : Ad) : GF := fnF 2 (F__law_pick a)
theorem ok__law_pick (T : Tx K mg a) : Pm P w K mg base "_law_pick" 3 (top 30) ["draw", "items"] TT [.st, .vw] .stable (G__law_pick a) :=
  Pm.of T.f__law_pick fun f fd F => def_ok (FF := F__law_pick a) (N := ["draw", "items"]) (o' := []) (lo := []) F ⟨rfl, rfl, rfl, by decide +kernel, rfl, by decide +kernel, by decide +kernel⟩ rfl (ws_ok rfl) fun cdv A outer s H M E hr => by
    have hu := us_of hr
    have tk : Takes (cnOf P w K mg base TT ["draw", "items"] "_law_pick" (top 30) f cdv A outer s H H M E).X (cnOf P w K mg base TT ["draw", "items"] "_law_pick" (top 30) f cdv A outer s H H M E).W := takes_of rfl rfl rfl rfl
    have hp : PassesOwn (model (cnOf P w K mg base TT ["draw", "items"] "_law_pick" (top 30) f cdv A outer s H H M E).X.prog (cnOf P w K mg base TT ["draw", "items"] "_law_pick" (top 30) f cdv A outer s H H M E).X.w) (cnOf P w K mg base TT ["draw", "items"] "_law_pick" (top 30) f cdv A outer s H H M E).X.A (cnOf P w K mg base TT ["draw", "items"] "_law_pick" (top 30) f cdv A outer s H H M E).X.env (cnOf P w K mg base TT ["draw", "items"] "_law_pick" (top 30) f cdv A outer s H H M E).X.xe := passes_of rfl
    have hc : (cnOf P w K mg base TT ["draw", "items"] "_law_pick" (top 30) f cdv A outer s H H M E).X.calm = true := rfl
    have hN : (cnOf P w K mg base TT ["draw", "items"] "_law_pick" (top 30) f cdv A outer s H H M E).X.N.Nodup := (by decide +kernel : (["draw", "items"] : List Str).Nodup)
    have d__law_take : Dn (cnOf P w K mg base TT ["draw", "items"] "_law_pick" (top 30) f cdv A outer s H H M E) "_law_take" [.st, .st] .stable (G__law_take a) := (ok__law_take T).dn (hr.mono (by decide))
    exact (dss_one (ds_ret (de_ix hu.b (de_vv 1 (pv 1)) (de_call tk d__law_take rfl (dr_cons .st (de_vs 0 (pv 0)) (dr_cons .st (de_b cd_len rfl T.b_len (by rfl) (dv_cons (de_vv 1 (pv 1)) dv_nil)) dr_nil))))))
def F__law_kinds (a : Ad) : SF := (sSeq (sPar 1 2 (eLst []) (eLst [(eVar 0)])) (sSeq (sWhl (tOf dBl (eOp2 dNe (eVar 2) (eLst []))) (sSeq (sPop 2 3) (sSeq (sIf (tOo (tOf dTru (eIsi "bool" (eVar 3))) (tOf dBl (eOp2 dIs (eVar 3) (eC .non)))) (sSeq (sApp 1 (eB bRepr [(eVar 3)])) sNil) (sSeq (sIf (tOf dTru (eIsi "int" (eVar 3))) (sSeq (sApp 1 (eC (.str "number"))) sNil) (sSeq (sIf (tOf dTru (eIsi "str" (eVar 3))) (sSeq (sApp 1 (eC (.str "string"))) sNil) (sSeq (sIf (tOo (tOf dTru (eIsi "list" (eVar 3))) (tOf dTru (eIsi "tuple" (eVar 3)))) (sSeq (sApp 1 (eIf (tOf dTru (eIsi "list" (eVar 3))) (eC (.str "list")) (eC (.str "tuple")))) (sSeq (sSet 2 (eOp2 dAdd (eVar 2) (eB bList [(eVar 3)]))) sNil)) (sSeq (sIf (tOf dTru (eIsi "dict" (eVar 3))) (fun _ _ => .bad) (sSeq (sApp 1 (eC (.str "other"))) sNil)) sNil)) sNil)) sNil)) sNil)) sNil))) (sRet (eVar 1))))
def G__law_kinds (a : Ad) : GF := fnF 5 (F__law_kinds a)
theorem ok__law_kinds (T : Tx K mg a) : Pm P w K mg base "_law_kinds" 1 (top 32) ["thing"] TT [.st] .fresh (G__law_kinds a) :=
  Pm.of T.f__law_kinds fun f fd F => def_ok (FF := F__law_kinds a) (N := ["thing", "found", "line", "one", "key"]) (o' := []) (lo := []) F ⟨rfl, rfl, rfl, by decide +kernel, rfl, by decide +kernel, by decide +kernel⟩ rfl (ws_ok rfl) fun cdv A outer s H M E hr => by
    have hu := us_of hr
    have tk : Takes (cnOf P w K mg base TT ["thing", "found", "line", "one", "key"] "_law_kinds" (top 32) f cdv A outer s H H M E).X (cnOf P w K mg base TT ["thing", "found", "line", "one", "key"] "_law_kinds" (top 32) f cdv A outer s H H M E).W := takes_of rfl rfl rfl rfl
    have hp : PassesOwn (model (cnOf P w K mg base TT ["thing", "found", "line", "one", "key"] "_law_kinds" (top 32) f cdv A outer s H H M E).X.prog (cnOf P w K mg base TT ["thing", "found", "line", "one", "key"] "_law_kinds" (top 32) f cdv A outer s H H M E).X.w) (cnOf P w K mg base TT ["thing", "found", "line", "one", "key"] "_law_kinds" (top 32) f cdv A outer s H H M E).X.A (cnOf P w K mg base TT ["thing", "found", "line", "one", "key"] "_law_kinds" (top 32) f cdv A outer s H H M E).X.env (cnOf P w K mg base TT ["thing", "found", "line", "one", "key"] "_law_kinds" (top 32) f cdv A outer s H H M E).X.xe := passes_of rfl
    have hc : (cnOf P w K mg base TT ["thing", "found", "line", "one", "key"] "_law_kinds" (top 32) f cdv A outer s H H M E).X.calm = true := rfl
    have hN : (cnOf P w K mg base TT ["thing", "found", "line", "one", "key"] "_law_kinds" (top 32) f cdv A outer s H H M E).X.N.Nodup := (by decide +kernel : (["thing", "found", "line", "one", "key"] : List Str).Nodup)
    exact (dss_cons (ds_par 1 2 .ow .ow hc hN rfl rfl rfl rfl (de_lst da_nil) (de_lst (da_cons (de_vs 0 (pv 0)) da_nil)) rfl) (dss_cons (ds_whl hp (dt_cmp (od_ne hu.c) (de_vv 2 (pv 2)) (de_lst da_nil) rfl) (dss_cons (ds_pop 2 3 (pv 2) hN rfl (.inl rfl)) (dss_cons (ds_if (DW.pt (dw_or (dt_val (asV (de_isi (T := "bool") (de_vs 3 (pv 3)) rfl (by rfl) rfl T.b_isinstance (by rfl) rfl T.b_bool))) (dw_or1 (dt_cmp od_is (de_vs 3 (pv 3)) (asV de_non) rfl)))) (dss_cons (ds_app 1 (pv 1) (de_b cd_repr rfl T.b_repr (by rfl) (dv_cons (de_vs 3 (pv 3)) dv_nil))) dss_nil) (dss_cons (ds_if (dt_val (asV (de_isi (T := "int") (de_vs 3 (pv 3)) rfl (by rfl) rfl T.b_isinstance (by rfl) rfl T.b_int))) (dss_cons (ds_app 1 (pv 1) de_str) dss_nil) (dss_cons (ds_if (dt_val (asV (de_isi (T := "str") (de_vs 3 (pv 3)) rfl (by rfl) rfl T.b_isinstance (by rfl) rfl T.b_str))) (dss_cons (ds_app 1 (pv 1) de_str) dss_nil) (dss_cons (ds_if (DW.pt (dw_or (dt_val (asV (de_isi (T := "list") (de_vs 3 (pv 3)) rfl (by rfl) rfl T.b_isinstance (by rfl) rfl T.b_list))) (dw_or1 (dt_val (asV (de_isi (T := "tuple") (de_vs 3 (pv 3)) rfl (by rfl) rfl T.b_isinstance (by rfl) rfl T.b_tuple)))))) (dss_cons (ds_app 1 (pv 1) (de_if (dt_val (asV (de_isi (T := "list") (de_vs 3 (pv 3)) rfl (by rfl) rfl T.b_isinstance (by rfl) rfl T.b_list))) de_str de_str)) (dss_cons (ds_set 2 .ow hN rfl (.inl rfl) (de_op (op := .Add) od_add (de_vv 2 (pv 2)) (de_ty cd_list rfl T.b_list (by rfl) (dv_cons (de_vs 3 (pv 3)) dv_nil)))) dss_nil)) (dss_cons (ds_if (dt_val (asV (de_isi (T := "dict") (de_vs 3 (pv 3)) rfl (by rfl) rfl T.b_isinstance (by rfl) rfl T.b_dict))) (dss_never) (dss_cons (ds_app 1 (pv 1) de_str) dss_nil)) dss_nil)) dss_nil)) dss_nil)) dss_nil)) dss_nil))) (dss_one (ds_retO 1 (pv 1)))))
def F__law_says (a : Ad) : SF := (sRet (eAn (eOp2 dEq (eCall (G__law_kinds a) [(eVar 0)]) (eCall (G__law_kinds a) [(eVar 1)])) (eOp2 dEq (eVar 0) (eVar 1))))
def G__law_says (a : Ad) : GF := fnF 2 (F__law_says a)
theorem ok__law_says (T : Tx K mg a) : Pm P w K mg base "_law_says" 2 (top 33) ["told", "due"] TT [.st, .st] .stable (G__law_says a) :=
  Pm.of T.f__law_says fun f fd F => def_ok (FF := F__law_says a) (N := ["told", "due"]) (o' := []) (lo := []) F ⟨rfl, rfl, rfl, by decide +kernel, rfl, by decide +kernel, by decide +kernel⟩ rfl (ws_ok rfl) fun cdv A outer s H M E hr => by
    have hu := us_of hr
    have tk : Takes (cnOf P w K mg base TT ["told", "due"] "_law_says" (top 33) f cdv A outer s H H M E).X (cnOf P w K mg base TT ["told", "due"] "_law_says" (top 33) f cdv A outer s H H M E).W := takes_of rfl rfl rfl rfl
    have hp : PassesOwn (model (cnOf P w K mg base TT ["told", "due"] "_law_says" (top 33) f cdv A outer s H H M E).X.prog (cnOf P w K mg base TT ["told", "due"] "_law_says" (top 33) f cdv A outer s H H M E).X.w) (cnOf P w K mg base TT ["told", "due"] "_law_says" (top 33) f cdv A outer s H H M E).X.A (cnOf P w K mg base TT ["told", "due"] "_law_says" (top 33) f cdv A outer s H H M E).X.env (cnOf P w K mg base TT ["told", "due"] "_law_says" (top 33) f cdv A outer s H H M E).X.xe := passes_of rfl
    have hc : (cnOf P w K mg base TT ["told", "due"] "_law_says" (top 33) f cdv A outer s H H M E).X.calm = true := rfl
    have hN : (cnOf P w K mg base TT ["told", "due"] "_law_says" (top 33) f cdv A outer s H H M E).X.N.Nodup := (by decide +kernel : (["told", "due"] : List Str).Nodup)
    have d__law_kinds : Dn (cnOf P w K mg base TT ["told", "due"] "_law_says" (top 33) f cdv A outer s H H M E) "_law_kinds" [.st] .fresh (G__law_kinds a) := (ok__law_kinds T).dn (hr.mono (by decide))
    exact (dss_one (ds_ret (de_and (asV (de_cmp (od_eq hu.c) (de_call tk d__law_kinds rfl (dr_cons .st (de_vs 0 (pv 0)) dr_nil)) (de_call tk d__law_kinds rfl (dr_cons .st (de_vs 1 (pv 1)) dr_nil)) rfl)) (de_one (de_cmp (od_eq hu.c) (de_vs 0 (pv 0)) (de_vs 1 (pv 1)) rfl)))))
def F__law_web (a : Ad) : SF := (sSeq (sPar 3 4 (eCall (G__law_pick a) [(eVar 0), (eLst [(eC (.int 1)), (eC (.int 1)), (eC (.int 2)), (eC (.int 2)), (eC (.int 3)), (eC (.int 3)), (eC (.int 4)), (eC (.int 4)), (eC (.int 5))])]) (eCall (G__law_pick a) [(eVar 0), (eLst [(eC (.int 0)), (eC (.int 1)), (eC (.int 2)), (eC (.int 3)), (eC (.int 4)), (eC (.int 5)), (eC (.int 6)), (eC (.int 7))])])) (sSeq (sSet 1 (eLst [])) (sSeq (sIf (tAn (tOf dBl (eOp2 dEq (eCall (G__law_take a) [(eVar 0), (eC (.int 5))]) (eC (.int 0)))) (tOf dBl (eOp2 dGt (eVar 3) (eC (.int 2))))) (sSeq (sSet 1 (eOp2 dAdd (eLC [7] (.nm 7) (iA rR2 [(eC (.int 1)), (eVar 3)]) tNo (eTup [(eOp2 dSub (eVar 7) (eC (.int 1))), (eVar 7)])) (eLst [(eTup [(eC (.int 0)), (eOp2 dSub (eVar 3) (eC (.int 1)))])]))) sNil) sNil) (sSeq (sFor (iA rR1 [(eOp2 dSub (eVar 4) (eB bLen [(eVar 1)]))]) (.nm 2) (sSeq (sPar 5 6 (eCall (G__law_take a) [(eVar 0), (eVar 3)]) (eCall (G__law_take a) [(eVar 0), (eVar 3)])) (sSeq (sApp 1 (eTup [(eB bMin [(eVar 5), (eVar 6)]), (eB bMax [(eVar 5), (eVar 6)])])) sNil))) (sSeq (sIf (tAn (tOf dBl (eOp2 dNe (eVar 1) (eLst []))) (tAn (tOf dBl (eOp2 dLt (eB bLen [(eVar 1)]) (eC (.int 7)))) (tOf dBl (eOp2 dEq (eCall (G__law_take a) [(eVar 0), (eC (.int 3))]) (eC (.int 0)))))) (sSeq (sApp 1 (eCall (G__law_pick a) [(eVar 0), (eVar 1)])) sNil) sNil) (sRet (eTup [(eVar 3), (eB bTuple [(eB bSorted [(eVar 1)])])])))))))
def G__law_web (a : Ad) : GF := fnF 8 (F__law_web a)
theorem ok__law_web (T : Tx K mg a) : Pm P w K mg base "_law_web" 4 (top 34) ["draw"] TT [.st] .stable (G__law_web a) :=
  Pm.of T.f__law_web fun f fd F => def_ok (FF := F__law_web a) (N := ["draw", "ties", "lap", "places", "many", "one", "other", "at"]) (o' := []) (lo := []) F ⟨rfl, rfl, rfl, by decide +kernel, rfl, by decide +kernel, by decide +kernel⟩ rfl (ws_ok rfl) fun cdv A outer s H M E hr => by
    have hu := us_of hr
    have tk : Takes (cnOf P w K mg base TT ["draw", "ties", "lap", "places", "many", "one", "other", "at"] "_law_web" (top 34) f cdv A outer s H H M E).X (cnOf P w K mg base TT ["draw", "ties", "lap", "places", "many", "one", "other", "at"] "_law_web" (top 34) f cdv A outer s H H M E).W := takes_of rfl rfl rfl rfl
    have hp : PassesOwn (model (cnOf P w K mg base TT ["draw", "ties", "lap", "places", "many", "one", "other", "at"] "_law_web" (top 34) f cdv A outer s H H M E).X.prog (cnOf P w K mg base TT ["draw", "ties", "lap", "places", "many", "one", "other", "at"] "_law_web" (top 34) f cdv A outer s H H M E).X.w) (cnOf P w K mg base TT ["draw", "ties", "lap", "places", "many", "one", "other", "at"] "_law_web" (top 34) f cdv A outer s H H M E).X.A (cnOf P w K mg base TT ["draw", "ties", "lap", "places", "many", "one", "other", "at"] "_law_web" (top 34) f cdv A outer s H H M E).X.env (cnOf P w K mg base TT ["draw", "ties", "lap", "places", "many", "one", "other", "at"] "_law_web" (top 34) f cdv A outer s H H M E).X.xe := passes_of rfl
    have hc : (cnOf P w K mg base TT ["draw", "ties", "lap", "places", "many", "one", "other", "at"] "_law_web" (top 34) f cdv A outer s H H M E).X.calm = true := rfl
    have hN : (cnOf P w K mg base TT ["draw", "ties", "lap", "places", "many", "one", "other", "at"] "_law_web" (top 34) f cdv A outer s H H M E).X.N.Nodup := (by decide +kernel : (["draw", "ties", "lap", "places", "many", "one", "other", "at"] : List Str).Nodup)
    have d__law_pick : Dn (cnOf P w K mg base TT ["draw", "ties", "lap", "places", "many", "one", "other", "at"] "_law_web" (top 34) f cdv A outer s H H M E) "_law_pick" [.st, .vw] .stable (G__law_pick a) := (ok__law_pick T).dn (hr.mono (by decide))
    have d__law_take : Dn (cnOf P w K mg base TT ["draw", "ties", "lap", "places", "many", "one", "other", "at"] "_law_web" (top 34) f cdv A outer s H H M E) "_law_take" [.st, .st] .stable (G__law_take a) := (ok__law_take T).dn (hr.mono (by decide))
    exact (dss_cons (ds_par 3 4 .st .st hc hN rfl rfl rfl rfl (de_call tk d__law_pick rfl (dr_cons .st (de_vs 0 (pv 0)) (dr_cons .vw (de_look (de_lst (da_cons de_int (da_cons de_int (da_cons de_int (da_cons de_int (da_cons de_int (da_cons de_int (da_cons de_int (da_cons de_int (da_cons de_int da_nil))))))))))) dr_nil))) (de_call tk d__law_pick rfl (dr_cons .st (de_vs 0 (pv 0)) (dr_cons .vw (de_look (de_lst (da_cons de_int (da_cons de_int (da_cons de_int (da_cons de_int (da_cons de_int (da_cons de_int (da_cons de_int (da_cons de_int da_nil)))))))))) dr_nil))) rfl) (dss_cons (ds_set 1 .ow hN rfl (.inl rfl) (de_lst da_nil)) (dss_cons (ds_if (DW.pt (dw_and (dt_cmp (od_eq hu.c) (de_call tk d__law_take rfl (dr_cons .st (de_vs 0 (pv 0)) (dr_cons .st de_int dr_nil))) (asV de_int) rfl) (dw_and1 (dt_cmp od_gt (de_vs 3 (pv 3)) (asV de_int) rfl)))) (dss_cons (ds_set 1 .ow hN rfl (.inl rfl) (de_op (op := .Add) od_add (de_lc (ow := [("at", 7)]) (P := (.nm 7)) rfl hN (di_r2 (dv_cons (asV de_int) (dv_cons (de_vs 3 (pv 3)) dv_nil)) rfl T.b_range) (blkOk_by (by kernel_rfl)) (by decide) (fun s1 H1 Cc1 cl1 fp1 => ⟨(dg_nm 7 hN rfl (.inl rfl)), dts_nil, (de_tup (da_cons (de_op (op := .Sub) od_sub (de_vs 7 (pv 7)) (asV de_int)) (da_cons (de_vs 7 (pv 7)) da_nil)))⟩)) (de_lst (da_cons (de_tup (da_cons de_int (da_cons (de_op (op := .Sub) od_sub (de_vs 3 (pv 3)) (asV de_int)) da_nil))) da_nil)))) dss_nil) dss_nil) (dss_cons (ds_for (P := (.nm 2)) hp hc (di_r1 (dv_cons (asV (de_op (op := .Sub) od_sub (de_vs 4 (pv 4)) (asV (de_b cd_len rfl T.b_len (by rfl) (dv_cons (de_vv 1 (pv 1)) dv_nil))))) dv_nil) rfl T.b_range) (dg_nm 2 hN rfl (.inl rfl)) (dss_cons (ds_par 5 6 .st .st hc hN rfl rfl rfl rfl (de_call tk d__law_take rfl (dr_cons .st (de_vs 0 (pv 0)) (dr_cons .st (de_vs 3 (pv 3)) dr_nil))) (de_call tk d__law_take rfl (dr_cons .st (de_vs 0 (pv 0)) (dr_cons .st (de_vs 3 (pv 3)) dr_nil))) rfl) (dss_cons (ds_app 1 (pv 1) (de_tup (da_cons (de_b (cd_min hc) rfl T.b_min (by rfl) (dv_cons (de_vs 5 (pv 5)) (dv_cons (de_vs 6 (pv 6)) dv_nil))) (da_cons (de_b (cd_max hc) rfl T.b_max (by rfl) (dv_cons (de_vs 5 (pv 5)) (dv_cons (de_vs 6 (pv 6)) dv_nil))) da_nil)))) dss_nil))) (dss_cons (ds_if (DW.pt (dw_and (dt_cmp (od_ne hu.c) (de_vv 1 (pv 1)) (de_lst da_nil) rfl) (dw_and (dt_cmp od_lt (asV (de_b cd_len rfl T.b_len (by rfl) (dv_cons (de_vv 1 (pv 1)) dv_nil))) (asV de_int) rfl) (dw_and1 (dt_cmp (od_eq hu.c) (de_call tk d__law_take rfl (dr_cons .st (de_vs 0 (pv 0)) (dr_cons .st de_int dr_nil))) (asV de_int) rfl))))) (dss_cons (ds_app 1 (pv 1) (de_call tk d__law_pick rfl (dr_cons .st (de_vs 0 (pv 0)) (dr_cons .vw (de_vv 1 (pv 1)) dr_nil)))) dss_nil) dss_nil) (dss_one (ds_ret (de_tup (da_cons (de_vs 3 (pv 3)) (da_cons (de_ty cd_tuple rfl T.b_tuple (by rfl) (dv_cons (de_b (cd_sorted hu.e) rfl T.b_sorted (by rfl) (dv_cons (de_vv 1 (pv 1)) dv_nil)) dv_nil)) da_nil))))))))))
def F__law_great_web (a : Ad) : SF := (sSeq (sPar 3 4 (eCall (G__law_pick a) [(eVar 0), (eLst [(eC (.int 5)), (eC (.int 6)), (eC (.int 7)), (eC (.int 8)), (eC (.int 8))])]) (eCall (G__law_pick a) [(eVar 0), (eLst [(eC (.int 8)), (eC (.int 10)), (eC (.int 13)), (eC (.int 14)), (eC (.int 14))])])) (sSeq (sSet 1 (eLst [])) (sSeq (sFor (iA rR1 [(eVar 4)]) (.nm 2) (sSeq (sPar 5 6 (eCall (G__law_take a) [(eVar 0), (eVar 3)]) (eCall (G__law_take a) [(eVar 0), (eVar 3)])) (sSeq (sApp 1 (eTup [(eB bMin [(eVar 5), (eVar 6)]), (eB bMax [(eVar 5), (eVar 6)])])) sNil))) (sRet (eTup [(eVar 3), (eB bTuple [(eB bSorted [(eVar 1)])])])))))
def G__law_great_web (a : Ad) : GF := fnF 7 (F__law_great_web a)
theorem ok__law_great_web (T : Tx K mg a) : Pm P w K mg base "_law_great_web" 4 (top 35) ["draw"] TT [.st] .stable (G__law_great_web a) :=
  Pm.of T.f__law_great_web fun f fd F => def_ok (FF := F__law_great_web a) (N := ["draw", "ties", "lap", "places", "many", "one", "other"]) (o' := []) (lo := []) F ⟨rfl, rfl, rfl, by decide +kernel, rfl, by decide +kernel, by decide +kernel⟩ rfl (ws_ok rfl) fun cdv A outer s H M E hr => by
    have hu := us_of hr
    have tk : Takes (cnOf P w K mg base TT ["draw", "ties", "lap", "places", "many", "one", "other"] "_law_great_web" (top 35) f cdv A outer s H H M E).X (cnOf P w K mg base TT ["draw", "ties", "lap", "places", "many", "one", "other"] "_law_great_web" (top 35) f cdv A outer s H H M E).W := takes_of rfl rfl rfl rfl
    have hp : PassesOwn (model (cnOf P w K mg base TT ["draw", "ties", "lap", "places", "many", "one", "other"] "_law_great_web" (top 35) f cdv A outer s H H M E).X.prog (cnOf P w K mg base TT ["draw", "ties", "lap", "places", "many", "one", "other"] "_law_great_web" (top 35) f cdv A outer s H H M E).X.w) (cnOf P w K mg base TT ["draw", "ties", "lap", "places", "many", "one", "other"] "_law_great_web" (top 35) f cdv A outer s H H M E).X.A (cnOf P w K mg base TT ["draw", "ties", "lap", "places", "many", "one", "other"] "_law_great_web" (top 35) f cdv A outer s H H M E).X.env (cnOf P w K mg base TT ["draw", "ties", "lap", "places", "many", "one", "other"] "_law_great_web" (top 35) f cdv A outer s H H M E).X.xe := passes_of rfl
    have hc : (cnOf P w K mg base TT ["draw", "ties", "lap", "places", "many", "one", "other"] "_law_great_web" (top 35) f cdv A outer s H H M E).X.calm = true := rfl
    have hN : (cnOf P w K mg base TT ["draw", "ties", "lap", "places", "many", "one", "other"] "_law_great_web" (top 35) f cdv A outer s H H M E).X.N.Nodup := (by decide +kernel : (["draw", "ties", "lap", "places", "many", "one", "other"] : List Str).Nodup)
    have d__law_pick : Dn (cnOf P w K mg base TT ["draw", "ties", "lap", "places", "many", "one", "other"] "_law_great_web" (top 35) f cdv A outer s H H M E) "_law_pick" [.st, .vw] .stable (G__law_pick a) := (ok__law_pick T).dn (hr.mono (by decide))
    have d__law_take : Dn (cnOf P w K mg base TT ["draw", "ties", "lap", "places", "many", "one", "other"] "_law_great_web" (top 35) f cdv A outer s H H M E) "_law_take" [.st, .st] .stable (G__law_take a) := (ok__law_take T).dn (hr.mono (by decide))
    exact (dss_cons (ds_par 3 4 .st .st hc hN rfl rfl rfl rfl (de_call tk d__law_pick rfl (dr_cons .st (de_vs 0 (pv 0)) (dr_cons .vw (de_look (de_lst (da_cons de_int (da_cons de_int (da_cons de_int (da_cons de_int (da_cons de_int da_nil))))))) dr_nil))) (de_call tk d__law_pick rfl (dr_cons .st (de_vs 0 (pv 0)) (dr_cons .vw (de_look (de_lst (da_cons de_int (da_cons de_int (da_cons de_int (da_cons de_int (da_cons de_int da_nil))))))) dr_nil))) rfl) (dss_cons (ds_set 1 .ow hN rfl (.inl rfl) (de_lst da_nil)) (dss_cons (ds_for (P := (.nm 2)) hp hc (di_r1 (dv_cons (de_vs 4 (pv 4)) dv_nil) rfl T.b_range) (dg_nm 2 hN rfl (.inl rfl)) (dss_cons (ds_par 5 6 .st .st hc hN rfl rfl rfl rfl (de_call tk d__law_take rfl (dr_cons .st (de_vs 0 (pv 0)) (dr_cons .st (de_vs 3 (pv 3)) dr_nil))) (de_call tk d__law_take rfl (dr_cons .st (de_vs 0 (pv 0)) (dr_cons .st (de_vs 3 (pv 3)) dr_nil))) rfl) (dss_cons (ds_app 1 (pv 1) (de_tup (da_cons (de_b (cd_min hc) rfl T.b_min (by rfl) (dv_cons (de_vs 5 (pv 5)) (dv_cons (de_vs 6 (pv 6)) dv_nil))) (da_cons (de_b (cd_max hc) rfl T.b_max (by rfl) (dv_cons (de_vs 5 (pv 5)) (dv_cons (de_vs 6 (pv 6)) dv_nil))) da_nil)))) dss_nil))) (dss_one (ds_ret (de_tup (da_cons (de_vs 3 (pv 3)) (da_cons (de_ty cd_tuple rfl T.b_tuple (by rfl) (dv_cons (de_b (cd_sorted hu.e) rfl T.b_sorted (by rfl) (dv_cons (de_vv 1 (pv 1)) dv_nil)) dv_nil)) da_nil))))))))
def F__law_no_number (a : Ad) : SF := (sRet (eCall (G__law_pick a) [(eVar 0), (eLst [(eC .non), (eOp2 dSub (eVar 1) (eC (.int 1))), (eOp2 dAdd (eVar 2) (eC (.int 1))), (eC (.str "1")), (eC (.bl true)), (eTup [(eVar 1)]), (eLst []), (eOp2 dSub (eC (.int 0)) (eOp2 dPow (eC (.int 10)) (eC (.int 20)))), (eOp2 dPow (eC (.int 10)) (eC (.int 20)))])]))
def G__law_no_number (a : Ad) : GF := fnF 3 (F__law_no_number a)
theorem ok__law_no_number (T : Tx K mg a) : Pm P w K mg base "_law_no_number" 4 (top 36) ["draw", "low", "high"] TT [.st, .st, .st] .stable (G__law_no_number a) :=
  Pm.of T.f__law_no_number fun f fd F => def_ok (FF := F__law_no_number a) (N := ["draw", "low", "high"]) (o' := []) (lo := []) F ⟨rfl, rfl, rfl, by decide +kernel, rfl, by decide +kernel, by decide +kernel⟩ rfl (ws_ok rfl) fun cdv A outer s H M E hr => by
    have hu := us_of hr
    have tk : Takes (cnOf P w K mg base TT ["draw", "low", "high"] "_law_no_number" (top 36) f cdv A outer s H H M E).X (cnOf P w K mg base TT ["draw", "low", "high"] "_law_no_number" (top 36) f cdv A outer s H H M E).W := takes_of rfl rfl rfl rfl
    have hp : PassesOwn (model (cnOf P w K mg base TT ["draw", "low", "high"] "_law_no_number" (top 36) f cdv A outer s H H M E).X.prog (cnOf P w K mg base TT ["draw", "low", "high"] "_law_no_number" (top 36) f cdv A outer s H H M E).X.w) (cnOf P w K mg base TT ["draw", "low", "high"] "_law_no_number" (top 36) f cdv A outer s H H M E).X.A (cnOf P w K mg base TT ["draw", "low", "high"] "_law_no_number" (top 36) f cdv A outer s H H M E).X.env (cnOf P w K mg base TT ["draw", "low", "high"] "_law_no_number" (top 36) f cdv A outer s H H M E).X.xe := passes_of rfl
    have hc : (cnOf P w K mg base TT ["draw", "low", "high"] "_law_no_number" (top 36) f cdv A outer s H H M E).X.calm = true := rfl
    have hN : (cnOf P w K mg base TT ["draw", "low", "high"] "_law_no_number" (top 36) f cdv A outer s H H M E).X.N.Nodup := (by decide +kernel : (["draw", "low", "high"] : List Str).Nodup)
    have d__law_pick : Dn (cnOf P w K mg base TT ["draw", "low", "high"] "_law_no_number" (top 36) f cdv A outer s H H M E) "_law_pick" [.st, .vw] .stable (G__law_pick a) := (ok__law_pick T).dn (hr.mono (by decide))
    exact (dss_one (ds_ret (de_call tk d__law_pick rfl (dr_cons .st (de_vs 0 (pv 0)) (dr_cons .vw (de_look (de_lst (da_cons de_non (da_cons (de_op (op := .Sub) od_sub (de_vs 1 (pv 1)) (asV de_int)) (da_cons (de_frz (de_op (op := .Add) od_add (de_vs 2 (pv 2)) (asV de_int))) (da_cons de_str (da_cons de_bl (da_cons (de_tup (da_cons (de_vs 1 (pv 1)) da_nil)) (da_cons (de_frz (de_lst da_nil)) (da_cons (de_op (op := .Sub) od_sub (asV de_int) (asV (de_op (op := .Pow) od_pow (asV de_int) (asV de_int)))) (da_cons (de_op (op := .Pow) od_pow (asV de_int) (asV de_int)) da_nil))))))))))) dr_nil)))))
def F__law_back (a : Ad) : SF := (sRet (eOp2 dSub (eOp2 dAdd (eVar 0) (eC (.int 1))) (eOp2 dMul (eC (.int 2)) (eOp2 dMod (eVar 0) (eC (.int 2))))))
def G__law_back (a : Ad) : GF := fnF 1 (F__law_back a)
theorem ok__law_back (T : Tx K mg a) : Pm P w K mg base "_law_back" 1 (top 37) ["way"] TT [.st] .stable (G__law_back a) :=
  Pm.of T.f__law_back fun f fd F => def_ok (FF := F__law_back a) (N := ["way"]) (o' := []) (lo := []) F ⟨rfl, rfl, rfl, by decide +kernel, rfl, by decide +kernel, by decide +kernel⟩ rfl (ws_ok rfl) fun cdv A outer s H M E hr => by
    have hu := us_of hr
    have tk : Takes (cnOf P w K mg base TT ["way"] "_law_back" (top 37) f cdv A outer s H H M E).X (cnOf P w K mg base TT ["way"] "_law_back" (top 37) f cdv A outer s H H M E).W := takes_of rfl rfl rfl rfl
    have hp : PassesOwn (model (cnOf P w K mg base TT ["way"] "_law_back" (top 37) f cdv A outer s H H M E).X.prog (cnOf P w K mg base TT ["way"] "_law_back" (top 37) f cdv A outer s H H M E).X.w) (cnOf P w K mg base TT ["way"] "_law_back" (top 37) f cdv A outer s H H M E).X.A (cnOf P w K mg base TT ["way"] "_law_back" (top 37) f cdv A outer s H H M E).X.env (cnOf P w K mg base TT ["way"] "_law_back" (top 37) f cdv A outer s H H M E).X.xe := passes_of rfl
    have hc : (cnOf P w K mg base TT ["way"] "_law_back" (top 37) f cdv A outer s H H M E).X.calm = true := rfl
    have hN : (cnOf P w K mg base TT ["way"] "_law_back" (top 37) f cdv A outer s H H M E).X.N.Nodup := (by decide +kernel : (["way"] : List Str).Nodup)
    exact (dss_one (ds_ret (de_op (op := .Sub) od_sub (de_op (op := .Add) od_add (de_vs 0 (pv 0)) (asV de_int)) (de_op (op := .Mult) od_mul (asV de_int) (asV (de_op (op := .Mod) od_mod (de_vs 0 (pv 0)) (asV de_int)))))))
def F__law_pairs (a : Ad) : SF := (sSeq (sSet 1 (eLst [])) (sSeq (sFor (iOf dTup (eIx (eVar 0) (eC (.int 1)))) (.tup [(.nm 2), (.nm 3)]) (sSeq (sSet 1 (eOp2 dAdd (eVar 1) (eLst [(eTup [(eVar 2), (eVar 3)]), (eTup [(eVar 3), (eVar 2)])]))) sNil)) (sRet (eVar 1))))
def G__law_pairs (a : Ad) : GF := fnF 4 (F__law_pairs a)
theorem ok__law_pairs (T : Tx K mg a) : Pm P w K mg base "_law_pairs" 1 (top 38) ["web"] TT [.st] .stable (G__law_pairs a) :=
  Pm.of T.f__law_pairs fun f fd F => def_ok (FF := F__law_pairs a) (N := ["web", "found", "one", "other"]) (o' := []) (lo := []) F ⟨rfl, rfl, rfl, by decide +kernel, rfl, by decide +kernel, by decide +kernel⟩ rfl (ws_ok rfl) fun cdv A outer s H M E hr => by
    have hu := us_of hr
    have tk : Takes (cnOf P w K mg base TT ["web", "found", "one", "other"] "_law_pairs" (top 38) f cdv A outer s H H M E).X (cnOf P w K mg base TT ["web", "found", "one", "other"] "_law_pairs" (top 38) f cdv A outer s H H M E).W := takes_of rfl rfl rfl rfl
    have hp : PassesOwn (model (cnOf P w K mg base TT ["web", "found", "one", "other"] "_law_pairs" (top 38) f cdv A outer s H H M E).X.prog (cnOf P w K mg base TT ["web", "found", "one", "other"] "_law_pairs" (top 38) f cdv A outer s H H M E).X.w) (cnOf P w K mg base TT ["web", "found", "one", "other"] "_law_pairs" (top 38) f cdv A outer s H H M E).X.A (cnOf P w K mg base TT ["web", "found", "one", "other"] "_law_pairs" (top 38) f cdv A outer s H H M E).X.env (cnOf P w K mg base TT ["web", "found", "one", "other"] "_law_pairs" (top 38) f cdv A outer s H H M E).X.xe := passes_of rfl
    have hc : (cnOf P w K mg base TT ["web", "found", "one", "other"] "_law_pairs" (top 38) f cdv A outer s H H M E).X.calm = true := rfl
    have hN : (cnOf P w K mg base TT ["web", "found", "one", "other"] "_law_pairs" (top 38) f cdv A outer s H H M E).X.N.Nodup := (by decide +kernel : (["web", "found", "one", "other"] : List Str).Nodup)
    exact (dss_cons (ds_set 1 .st hN rfl (.inl rfl) (de_frz (de_lst da_nil))) (dss_cons (ds_for (P := (.tup [(.nm 2), (.nm 3)])) hp hc (di_tup (de_ix hu.b (de_vs 0 (pv 0)) (asV de_int))) (dg_tup rfl (dgs_cons (dg_nm 2 hN rfl (.inl rfl)) (dgs_cons (dg_nm 3 hN rfl (.inl rfl)) dgs_nil))) (dss_cons (ds_set 1 .st hN rfl (.inl rfl) (de_frz (de_op (op := .Add) od_add (de_vs 1 (pv 1)) (de_lst (da_cons (de_tup (da_cons (de_vs 2 (pv 2)) (da_cons (de_vs 3 (pv 3)) da_nil))) (da_cons (de_tup (da_cons (de_vs 3 (pv 3)) (da_cons (de_vs 2 (pv 2)) da_nil))) da_nil)))))) dss_nil)) (dss_one (ds_ret (de_vs 1 (pv 1))))))
def F__law_follows (a : Ad) : SF := (sSeq (sSet 1 (eCall (G__law_pairs a) [(eVar 0)])) (sRet (eLC [3, 4] (.tup [(.nm 3), (.nm 4)]) (iA rEn1 [(eVar 1)]) tNo (eLC [2] (.nm 2) (iA rR1 [(eB bLen [(eVar 1)])]) (tAn (tOf dBl (eOp2 dEq (eIx (eIx (eVar 1) (eVar 2)) (eC (.int 0))) (eIx (eVar 4) (eC (.int 1))))) (tOf dBl (eOp2 dNe (eVar 2) (eCall (G__law_back a) [(eVar 3)])))) (eVar 2)))))
def G__law_follows (a : Ad) : GF := fnF 5 (F__law_follows a)
theorem ok__law_follows (T : Tx K mg a) : Pm P w K mg base "_law_follows" 2 (top 39) ["web"] TT [.st] .fresh (G__law_follows a) :=
  Pm.of T.f__law_follows fun f fd F => def_ok (FF := F__law_follows a) (N := ["web", "pairs", "late", "way", "pair"]) (o' := []) (lo := []) F ⟨rfl, rfl, rfl, by decide +kernel, rfl, by decide +kernel, by decide +kernel⟩ rfl (ws_ok rfl) fun cdv A outer s H M E hr => by
    have hu := us_of hr
    have tk : Takes (cnOf P w K mg base TT ["web", "pairs", "late", "way", "pair"] "_law_follows" (top 39) f cdv A outer s H H M E).X (cnOf P w K mg base TT ["web", "pairs", "late", "way", "pair"] "_law_follows" (top 39) f cdv A outer s H H M E).W := takes_of rfl rfl rfl rfl
    have hp : PassesOwn (model (cnOf P w K mg base TT ["web", "pairs", "late", "way", "pair"] "_law_follows" (top 39) f cdv A outer s H H M E).X.prog (cnOf P w K mg base TT ["web", "pairs", "late", "way", "pair"] "_law_follows" (top 39) f cdv A outer s H H M E).X.w) (cnOf P w K mg base TT ["web", "pairs", "late", "way", "pair"] "_law_follows" (top 39) f cdv A outer s H H M E).X.A (cnOf P w K mg base TT ["web", "pairs", "late", "way", "pair"] "_law_follows" (top 39) f cdv A outer s H H M E).X.env (cnOf P w K mg base TT ["web", "pairs", "late", "way", "pair"] "_law_follows" (top 39) f cdv A outer s H H M E).X.xe := passes_of rfl
    have hc : (cnOf P w K mg base TT ["web", "pairs", "late", "way", "pair"] "_law_follows" (top 39) f cdv A outer s H H M E).X.calm = true := rfl
    have hN : (cnOf P w K mg base TT ["web", "pairs", "late", "way", "pair"] "_law_follows" (top 39) f cdv A outer s H H M E).X.N.Nodup := (by decide +kernel : (["web", "pairs", "late", "way", "pair"] : List Str).Nodup)
    have d__law_pairs : Dn (cnOf P w K mg base TT ["web", "pairs", "late", "way", "pair"] "_law_follows" (top 39) f cdv A outer s H H M E) "_law_pairs" [.st] .stable (G__law_pairs a) := (ok__law_pairs T).dn (hr.mono (by decide))
    have d__law_back : Dn (cnOf P w K mg base TT ["web", "pairs", "late", "way", "pair"] "_law_follows" (top 39) f cdv A outer s H H M E) "_law_back" [.st] .stable (G__law_back a) := (ok__law_back T).dn (hr.mono (by decide))
    exact (dss_cons (ds_set 1 .st hN rfl (.inr rfl) (de_call tk d__law_pairs rfl (dr_cons .st (de_vs 0 (pv 0)) dr_nil))) (dss_one (ds_ret (de_lc (ow := [("way", 3), ("pair", 4)]) (P := (.tup [(.nm 3), (.nm 4)])) rfl hN (di_en1 (da_cons (de_vs 1 (pv 1)) da_nil) rfl T.b_enumerate) (blkOk_by (by kernel_rfl)) (by decide) (fun s1 H1 Cc1 cl1 fp1 => ⟨(dg_tup rfl (dgs_cons (dg_nm 3 hN rfl (.inr rfl)) (dgs_cons (dg_nm 4 hN rfl (.inr rfl)) dgs_nil))), dts_nil, (de_frz (de_lc (ow := [("late", 2)]) (P := (.nm 2)) rfl hN (di_r1 (dv_cons (asV (de_b cd_len rfl T.b_len (by rfl) (dv_cons (de_vs 1 (pv 1)) dv_nil))) dv_nil) rfl T.b_range) (blkOk_by (by kernel_rfl)) (by decide) (fun s1 H1 Cc1 cl1 fp1 => ⟨(dg_nm 2 hN rfl (.inl rfl)), (dts_one (DW.pt (dw_and (dt_cmp (od_eq hu.c) (de_ix hu.b (de_ix hu.b (de_vs 1 (pv 1)) (de_vs 2 (pv 2))) (asV de_int)) (de_ix hu.b (de_vs 4 (pv 4)) (asV de_int)) rfl) (dw_and1 (dt_cmp (od_ne hu.c) (de_vs 2 (pv 2)) (de_call tk0 d__law_back.blk.blk rfl (dr_cons .st (de_vs 3 (pv 3)) dr_nil)) rfl))))), (de_vs 2 (pv 2))⟩)))⟩)))))
def F__law_degrees (a : Ad) : SF := (sRet (eLC [1] (.nm 1) (iA rR1 [(eIx (eVar 0) (eC (.int 0)))]) tNo (eB bLen [(eLC [2] (.nm 2) (iOf dItr (eCall (G__law_pairs a) [(eVar 0)])) (tOf dBl (eOp2 dEq (eIx (eVar 2) (eC (.int 0))) (eVar 1))) (eC (.int 1)))])))
def G__law_degrees (a : Ad) : GF := fnF 3 (F__law_degrees a)
theorem ok__law_degrees (T : Tx K mg a) : Pm P w K mg base "_law_degrees" 2 (top 40) ["web"] TT [.st] .stable (G__law_degrees a) :=
  Pm.of T.f__law_degrees fun f fd F => def_ok (FF := F__law_degrees a) (N := ["web", "place", "pair"]) (o' := []) (lo := []) F ⟨rfl, rfl, rfl, by decide +kernel, rfl, by decide +kernel, by decide +kernel⟩ rfl (ws_ok rfl) fun cdv A outer s H M E hr => by
    have hu := us_of hr
    have tk : Takes (cnOf P w K mg base TT ["web", "place", "pair"] "_law_degrees" (top 40) f cdv A outer s H H M E).X (cnOf P w K mg base TT ["web", "place", "pair"] "_law_degrees" (top 40) f cdv A outer s H H M E).W := takes_of rfl rfl rfl rfl
    have hp : PassesOwn (model (cnOf P w K mg base TT ["web", "place", "pair"] "_law_degrees" (top 40) f cdv A outer s H H M E).X.prog (cnOf P w K mg base TT ["web", "place", "pair"] "_law_degrees" (top 40) f cdv A outer s H H M E).X.w) (cnOf P w K mg base TT ["web", "place", "pair"] "_law_degrees" (top 40) f cdv A outer s H H M E).X.A (cnOf P w K mg base TT ["web", "place", "pair"] "_law_degrees" (top 40) f cdv A outer s H H M E).X.env (cnOf P w K mg base TT ["web", "place", "pair"] "_law_degrees" (top 40) f cdv A outer s H H M E).X.xe := passes_of rfl
    have hc : (cnOf P w K mg base TT ["web", "place", "pair"] "_law_degrees" (top 40) f cdv A outer s H H M E).X.calm = true := rfl
    have hN : (cnOf P w K mg base TT ["web", "place", "pair"] "_law_degrees" (top 40) f cdv A outer s H H M E).X.N.Nodup := (by decide +kernel : (["web", "place", "pair"] : List Str).Nodup)
    have d__law_pairs : Dn (cnOf P w K mg base TT ["web", "place", "pair"] "_law_degrees" (top 40) f cdv A outer s H H M E) "_law_pairs" [.st] .stable (G__law_pairs a) := (ok__law_pairs T).dn (hr.mono (by decide))
    exact (dss_one (ds_ret (de_frz (de_lc (ow := [("place", 1)]) (P := (.nm 1)) rfl hN (di_r1 (dv_cons (de_ix hu.b (de_vs 0 (pv 0)) (asV de_int)) dv_nil) rfl T.b_range) (blkOk_by (by kernel_rfl)) (by decide) (fun s1 H1 Cc1 cl1 fp1 => ⟨(dg_nm 1 hN rfl (.inr rfl)), dts_nil, (de_b cd_len rfl T.b_len (by rfl) (dv_cons (de_lc (ow := [("pair", 2)]) (P := (.nm 2)) rfl hN (di_any (de_call tk0 d__law_pairs.blk rfl (dr_cons .st (de_vs 0 (pv 0)) dr_nil))) (blkOk_by (by kernel_rfl)) (by decide) (fun s1 H1 Cc1 cl1 fp1 => ⟨(dg_nm 2 hN rfl (.inl rfl)), (dts_one (dt_cmp (od_eq hu.c) (de_ix hu.b (de_vs 2 (pv 2)) (asV de_int)) (de_vs 1 (pv 1)) rfl)), de_int⟩)) dv_nil))⟩)))))
def F__law_ties_table (a : Ad) : SF := (sSeq (sSet 1 (eCall (G__law_pairs a) [(eVar 0)])) (sRet (eLC [2] (.nm 2) (iA rR1 [(eIx (eVar 0) (eC (.int 0)))]) tNo (eLC [3] (.nm 3) (iA rR1 [(eIx (eVar 0) (eC (.int 0)))]) tNo (eB bLen [(eLC [4] (.nm 4) (iOf dLst (eVar 1)) (tOf dBl (eOp2 dEq (eVar 4) (eTup [(eVar 2), (eVar 3)]))) (eC (.int 1)))])))))
def G__law_ties_table (a : Ad) : GF := fnF 5 (F__law_ties_table a)
theorem ok__law_ties_table (T : Tx K mg a) : Pm P w K mg base "_law_ties_table" 2 (top 41) ["web"] TT [.st] .stable (G__law_ties_table a) :=
  Pm.of T.f__law_ties_table fun f fd F => def_ok (FF := F__law_ties_table a) (N := ["web", "pairs", "one", "other", "pair"]) (o' := []) (lo := []) F ⟨rfl, rfl, rfl, by decide +kernel, rfl, by decide +kernel, by decide +kernel⟩ rfl (ws_ok rfl) fun cdv A outer s H M E hr => by
    have hu := us_of hr
    have tk : Takes (cnOf P w K mg base TT ["web", "pairs", "one", "other", "pair"] "_law_ties_table" (top 41) f cdv A outer s H H M E).X (cnOf P w K mg base TT ["web", "pairs", "one", "other", "pair"] "_law_ties_table" (top 41) f cdv A outer s H H M E).W := takes_of rfl rfl rfl rfl
    have hp : PassesOwn (model (cnOf P w K mg base TT ["web", "pairs", "one", "other", "pair"] "_law_ties_table" (top 41) f cdv A outer s H H M E).X.prog (cnOf P w K mg base TT ["web", "pairs", "one", "other", "pair"] "_law_ties_table" (top 41) f cdv A outer s H H M E).X.w) (cnOf P w K mg base TT ["web", "pairs", "one", "other", "pair"] "_law_ties_table" (top 41) f cdv A outer s H H M E).X.A (cnOf P w K mg base TT ["web", "pairs", "one", "other", "pair"] "_law_ties_table" (top 41) f cdv A outer s H H M E).X.env (cnOf P w K mg base TT ["web", "pairs", "one", "other", "pair"] "_law_ties_table" (top 41) f cdv A outer s H H M E).X.xe := passes_of rfl
    have hc : (cnOf P w K mg base TT ["web", "pairs", "one", "other", "pair"] "_law_ties_table" (top 41) f cdv A outer s H H M E).X.calm = true := rfl
    have hN : (cnOf P w K mg base TT ["web", "pairs", "one", "other", "pair"] "_law_ties_table" (top 41) f cdv A outer s H H M E).X.N.Nodup := (by decide +kernel : (["web", "pairs", "one", "other", "pair"] : List Str).Nodup)
    have d__law_pairs : Dn (cnOf P w K mg base TT ["web", "pairs", "one", "other", "pair"] "_law_ties_table" (top 41) f cdv A outer s H H M E) "_law_pairs" [.st] .stable (G__law_pairs a) := (ok__law_pairs T).dn (hr.mono (by decide))
    exact (dss_cons (ds_set 1 .st hN rfl (.inr rfl) (de_call tk d__law_pairs rfl (dr_cons .st (de_vs 0 (pv 0)) dr_nil))) (dss_one (ds_ret (de_frz (de_lc (ow := [("one", 2)]) (P := (.nm 2)) rfl hN (di_r1 (dv_cons (de_ix hu.b (de_vs 0 (pv 0)) (asV de_int)) dv_nil) rfl T.b_range) (blkOk_by (by kernel_rfl)) (by decide) (fun s1 H1 Cc1 cl1 fp1 => ⟨(dg_nm 2 hN rfl (.inr rfl)), dts_nil, (de_frz (de_lc (ow := [("other", 3)]) (P := (.nm 3)) rfl hN (di_r1 (dv_cons (de_ix hu.b (de_vs 0 (pv 0)) (asV de_int)) dv_nil) rfl T.b_range) (blkOk_by (by kernel_rfl)) (by decide) (fun s1 H1 Cc1 cl1 fp1 => ⟨(dg_nm 3 hN rfl (.inr rfl)), dts_nil, (de_b cd_len rfl T.b_len (by rfl) (dv_cons (de_lc (ow := [("pair", 4)]) (P := (.nm 4)) rfl hN (di_list (de_vs 1 (pv 1))) (blkOk_by (by kernel_rfl)) (by decide) (fun s1 H1 Cc1 cl1 fp1 => ⟨(dg_nm 4 hN rfl (.inl rfl)), (dts_one (dt_cmp (od_eq hu.c) (de_vs 4 (pv 4)) (asV (de_tup (da_cons (de_vs 2 (pv 2)) (da_cons (de_vs 3 (pv 3)) da_nil)))) rfl)), de_int⟩)) dv_nil))⟩)))⟩))))))
def F__law_led (a : Ad) : SF := (sSeq (sSet 2 (eOp2 dMul (eLst [(eC (.int 0))]) (eB bLen [(eVar 0)]))) (sSeq (sFor (iA rEn1 [(eVar 1)]) (.tup [(.nm 3), (.nm 4)]) (sSeq (sFor (iOf dLst (eIx (eVar 0) (eVar 3))) (.nm 5) (sSeq (sPut 2 (eVar 5) (eOp2 dAdd (eIx (eVar 2) (eVar 5)) (eVar 4))) sNil)) sNil)) (sRet (eVar 2))))
def G__law_led (a : Ad) : GF := fnF 6 (F__law_led a)
theorem ok__law_led (T : Tx K mg a) : Pm P w K mg base "_law_led" 1 (top 42) ["follows", "counts"] TT [.st, .st] .fresh (G__law_led a) :=
  Pm.of T.f__law_led fun f fd F => def_ok (FF := F__law_led a) (N := ["follows", "counts", "found", "way", "count", "late"]) (o' := []) (lo := []) F ⟨rfl, rfl, rfl, by decide +kernel, rfl, by decide +kernel, by decide +kernel⟩ rfl (ws_ok rfl) fun cdv A outer s H M E hr => by
    have hu := us_of hr
    have tk : Takes (cnOf P w K mg base TT ["follows", "counts", "found", "way", "count", "late"] "_law_led" (top 42) f cdv A outer s H H M E).X (cnOf P w K mg base TT ["follows", "counts", "found", "way", "count", "late"] "_law_led" (top 42) f cdv A outer s H H M E).W := takes_of rfl rfl rfl rfl
    have hp : PassesOwn (model (cnOf P w K mg base TT ["follows", "counts", "found", "way", "count", "late"] "_law_led" (top 42) f cdv A outer s H H M E).X.prog (cnOf P w K mg base TT ["follows", "counts", "found", "way", "count", "late"] "_law_led" (top 42) f cdv A outer s H H M E).X.w) (cnOf P w K mg base TT ["follows", "counts", "found", "way", "count", "late"] "_law_led" (top 42) f cdv A outer s H H M E).X.A (cnOf P w K mg base TT ["follows", "counts", "found", "way", "count", "late"] "_law_led" (top 42) f cdv A outer s H H M E).X.env (cnOf P w K mg base TT ["follows", "counts", "found", "way", "count", "late"] "_law_led" (top 42) f cdv A outer s H H M E).X.xe := passes_of rfl
    have hc : (cnOf P w K mg base TT ["follows", "counts", "found", "way", "count", "late"] "_law_led" (top 42) f cdv A outer s H H M E).X.calm = true := rfl
    have hN : (cnOf P w K mg base TT ["follows", "counts", "found", "way", "count", "late"] "_law_led" (top 42) f cdv A outer s H H M E).X.N.Nodup := (by decide +kernel : (["follows", "counts", "found", "way", "count", "late"] : List Str).Nodup)
    exact (dss_cons (ds_set 2 .ow hN rfl (.inl rfl) (de_op (op := .Mult) od_mul (de_lst (da_cons de_int da_nil)) (asV (de_b cd_len rfl T.b_len (by rfl) (dv_cons (de_vs 0 (pv 0)) dv_nil))))) (dss_cons (ds_for (P := (.tup [(.nm 3), (.nm 4)])) hp hc (di_en1 (da_cons (de_vs 1 (pv 1)) da_nil) rfl T.b_enumerate) (dg_tup rfl (dgs_cons (dg_nm 3 hN rfl (.inl rfl)) (dgs_cons (dg_nm 4 hN rfl (.inl rfl)) dgs_nil))) (dss_cons (ds_for (P := (.nm 5)) hp hc (di_list (de_ix hu.b (de_vs 0 (pv 0)) (de_vs 3 (pv 3)))) (dg_nm 5 hN rfl (.inl rfl)) (dss_cons (ds_put 2 (pv 2) (de_vs 5 (pv 5)) (de_frz (de_op (op := .Add) od_add (de_ix hu.b (de_vv 2 (pv 2)) (de_vs 5 (pv 5))) (de_vs 4 (pv 4))))) dss_nil)) dss_nil)) (dss_one (ds_retO 2 (pv 2)))))
def F__law_walk_count (a : Ad) : SF := (sSeq (sIf (tOf dBl (eOp2 dEq (eVar 3) (eC (.int 0)))) (sRet (eB bInt [(eOp2 dEq (eVar 1) (eVar 2))])) sNil) (sSeq (sPar 6 7 (eCall (G__law_pairs a) [(eVar 0)]) (eCall (G__law_follows a) [(eVar 0)])) (sSeq (sSet 4 (eLC [8] (.nm 8) (iOf dLst (eVar 6)) tNo (eB bInt [(eOp2 dEq (eIx (eVar 8) (eC (.int 0))) (eVar 1))]))) (sSeq (sFor (iA rR1 [(eOp2 dSub (eVar 3) (eC (.int 1)))]) (.nm 5) (sSeq (sSet 4 (eCall (G__law_led a) [(eVar 7), (eVar 4)])) sNil)) (sRet (eB bSum [(eLC [9, 8] (.tup [(.nm 9), (.nm 8)]) (iA rZip [(eVar 4), (eVar 6)]) (tOf dBl (eOp2 dEq (eIx (eVar 8) (eC (.int 1))) (eVar 2))) (eVar 9))]))))))
def G__law_walk_count (a : Ad) : GF := fnF 10 (F__law_walk_count a)
theorem ok__law_walk_count (T : Tx K mg a) : Pm P w K mg base "_law_walk_count" 3 (top 43) ["web", "start", "goal", "length"] TT [.st, .st, .st, .st] .stable (G__law_walk_count a) :=
  Pm.of T.f__law_walk_count fun f fd F => def_ok (FF := F__law_walk_count a) (N := ["web", "start", "goal", "length", "counts", "lap", "pairs", "follows", "pair", "count"]) (o' := []) (lo := []) F ⟨rfl, rfl, rfl, by decide +kernel, rfl, by decide +kernel, by decide +kernel⟩ rfl (ws_ok rfl) fun cdv A outer s H M E hr => by
    have hu := us_of hr
    have tk : Takes (cnOf P w K mg base TT ["web", "start", "goal", "length", "counts", "lap", "pairs", "follows", "pair", "count"] "_law_walk_count" (top 43) f cdv A outer s H H M E).X (cnOf P w K mg base TT ["web", "start", "goal", "length", "counts", "lap", "pairs", "follows", "pair", "count"] "_law_walk_count" (top 43) f cdv A outer s H H M E).W := takes_of rfl rfl rfl rfl
    have hp : PassesOwn (model (cnOf P w K mg base TT ["web", "start", "goal", "length", "counts", "lap", "pairs", "follows", "pair", "count"] "_law_walk_count" (top 43) f cdv A outer s H H M E).X.prog (cnOf P w K mg base TT ["web", "start", "goal", "length", "counts", "lap", "pairs", "follows", "pair", "count"] "_law_walk_count" (top 43) f cdv A outer s H H M E).X.w) (cnOf P w K mg base TT ["web", "start", "goal", "length", "counts", "lap", "pairs", "follows", "pair", "count"] "_law_walk_count" (top 43) f cdv A outer s H H M E).X.A (cnOf P w K mg base TT ["web", "start", "goal", "length", "counts", "lap", "pairs", "follows", "pair", "count"] "_law_walk_count" (top 43) f cdv A outer s H H M E).X.env (cnOf P w K mg base TT ["web", "start", "goal", "length", "counts", "lap", "pairs", "follows", "pair", "count"] "_law_walk_count" (top 43) f cdv A outer s H H M E).X.xe := passes_of rfl
    have hc : (cnOf P w K mg base TT ["web", "start", "goal", "length", "counts", "lap", "pairs", "follows", "pair", "count"] "_law_walk_count" (top 43) f cdv A outer s H H M E).X.calm = true := rfl
    have hN : (cnOf P w K mg base TT ["web", "start", "goal", "length", "counts", "lap", "pairs", "follows", "pair", "count"] "_law_walk_count" (top 43) f cdv A outer s H H M E).X.N.Nodup := (by decide +kernel : (["web", "start", "goal", "length", "counts", "lap", "pairs", "follows", "pair", "count"] : List Str).Nodup)
    have d__law_pairs : Dn (cnOf P w K mg base TT ["web", "start", "goal", "length", "counts", "lap", "pairs", "follows", "pair", "count"] "_law_walk_count" (top 43) f cdv A outer s H H M E) "_law_pairs" [.st] .stable (G__law_pairs a) := (ok__law_pairs T).dn (hr.mono (by decide))
    have d__law_follows : Dn (cnOf P w K mg base TT ["web", "start", "goal", "length", "counts", "lap", "pairs", "follows", "pair", "count"] "_law_walk_count" (top 43) f cdv A outer s H H M E) "_law_follows" [.st] .fresh (G__law_follows a) := (ok__law_follows T).dn (hr.mono (by decide))
    have d__law_led : Dn (cnOf P w K mg base TT ["web", "start", "goal", "length", "counts", "lap", "pairs", "follows", "pair", "count"] "_law_walk_count" (top 43) f cdv A outer s H H M E) "_law_led" [.st, .st] .fresh (G__law_led a) := (ok__law_led T).dn (hr.mono (by decide))
    exact (dss_cons (ds_if (dt_cmp (od_eq hu.c) (de_vs 3 (pv 3)) (asV de_int) rfl) (dss_one (ds_ret (de_ty cd_int rfl T.b_int (by rfl) (dv_cons (asV (de_cmp (od_eq hu.c) (de_vs 1 (pv 1)) (de_vs 2 (pv 2)) rfl)) dv_nil)))) dss_nil) (dss_cons (ds_par 6 7 .st .st hc hN rfl rfl rfl rfl (de_call tk d__law_pairs rfl (dr_cons .st (de_vs 0 (pv 0)) dr_nil)) (de_frz (de_call tk d__law_follows rfl (dr_cons .st (de_vs 0 (pv 0)) dr_nil))) rfl) (dss_cons (ds_setLc 4 (ow := [("pair", 8)]) (P := (.nm 8)) rfl rfl (sw_true rfl rfl rfl rfl) hc hN (di_list (de_vs 6 (pv 6))) (blkOk_by (by kernel_rfl)) (by decide) (fun s1 H1 Cc1 cl1 fp1 => ⟨(dg_nm 8 hN rfl (.inl rfl)), dts_nil, (de_ty cd_int rfl T.b_int (by rfl) (dv_cons (asV (de_cmp (od_eq hu.c) (de_ix hu.b (de_vs 8 (pv 8)) (asV de_int)) (de_vs 1 (pv 1)) rfl)) dv_nil))⟩)) (dss_fz 4 (dss_cons (ds_for (P := (.nm 5)) hp hc (di_r1 (dv_cons (asV (de_op (op := .Sub) od_sub (de_vs 3 (pv 3)) (asV de_int))) dv_nil) rfl T.b_range) (dg_nm 5 hN rfl (.inl rfl)) (dss_cons (ds_set 4 .st hN rfl (.inl rfl) (de_frz (de_call tk d__law_led rfl (dr_cons .st (de_vs 7 (pv 7)) (dr_cons .st (de_vs 4 (pv 4)) dr_nil))))) dss_nil)) (dss_one (ds_ret (de_b (cd_sum hc) rfl T.b_sum (by rfl) (dv_cons (de_lc (ow := [("count", 9), ("pair", 8)]) (P := (.tup [(.nm 9), (.nm 8)])) rfl hN (di_zip (da_cons (de_vs 4 (pv 4)) (da_cons (de_vs 6 (pv 6)) da_nil)) rfl T.b_zip) (blkOk_by (by kernel_rfl)) (by decide) (fun s1 H1 Cc1 cl1 fp1 => ⟨(dg_tup rfl (dgs_cons (dg_nm 9 hN rfl (.inl rfl)) (dgs_cons (dg_nm 8 hN rfl (.inl rfl)) dgs_nil))), (dts_one (dt_cmp (od_eq hu.c) (de_ix hu.b (de_vs 8 (pv 8)) (asV de_int)) (de_vs 2 (pv 2)) rfl)), (de_vs 9 (pv 9))⟩)) dv_nil)))))))))
def F__law_told_table (a : Ad) : SF := (sRet (eLC [2] (.nm 2) (iA rR1 [(eIx (eVar 0) (eC (.int 0)))]) tNo (eLC [3] (.nm 3) (iA rR1 [(eIx (eVar 0) (eC (.int 0)))]) tNo (eCall (G_walk_count a) [(eVar 0), (eVar 2), (eVar 3), (eVar 1)]))))
def G__law_told_table (a : Ad) : GF := fnF 4 (F__law_told_table a)
theorem ok__law_told_table (T : Tx K mg a) : Pm P w K mg base "_law_told_table" 7 (top 44) ["web", "length"] TT [.st, .st] .stable (G__law_told_table a) :=
  Pm.of T.f__law_told_table fun f fd F => def_ok (FF := F__law_told_table a) (N := ["web", "length", "start", "goal"]) (o' := []) (lo := []) F ⟨rfl, rfl, rfl, by decide +kernel, rfl, by decide +kernel, by decide +kernel⟩ rfl (ws_ok rfl) fun cdv A outer s H M E hr => by
    have hu := us_of hr
    have tk : Takes (cnOf P w K mg base TT ["web", "length", "start", "goal"] "_law_told_table" (top 44) f cdv A outer s H H M E).X (cnOf P w K mg base TT ["web", "length", "start", "goal"] "_law_told_table" (top 44) f cdv A outer s H H M E).W := takes_of rfl rfl rfl rfl
    have hp : PassesOwn (model (cnOf P w K mg base TT ["web", "length", "start", "goal"] "_law_told_table" (top 44) f cdv A outer s H H M E).X.prog (cnOf P w K mg base TT ["web", "length", "start", "goal"] "_law_told_table" (top 44) f cdv A outer s H H M E).X.w) (cnOf P w K mg base TT ["web", "length", "start", "goal"] "_law_told_table" (top 44) f cdv A outer s H H M E).X.A (cnOf P w K mg base TT ["web", "length", "start", "goal"] "_law_told_table" (top 44) f cdv A outer s H H M E).X.env (cnOf P w K mg base TT ["web", "length", "start", "goal"] "_law_told_table" (top 44) f cdv A outer s H H M E).X.xe := passes_of rfl
    have hc : (cnOf P w K mg base TT ["web", "length", "start", "goal"] "_law_told_table" (top 44) f cdv A outer s H H M E).X.calm = true := rfl
    have hN : (cnOf P w K mg base TT ["web", "length", "start", "goal"] "_law_told_table" (top 44) f cdv A outer s H H M E).X.N.Nodup := (by decide +kernel : (["web", "length", "start", "goal"] : List Str).Nodup)
    have d_walk_count : Dn (cnOf P w K mg base TT ["web", "length", "start", "goal"] "_law_told_table" (top 44) f cdv A outer s H H M E) "walk_count" [.st, .st, .st, .st] .stable (G_walk_count a) := (ok_walk_count T).dn (hr.mono (by decide))
    exact (dss_one (ds_ret (de_frz (de_lc (ow := [("start", 2)]) (P := (.nm 2)) rfl hN (di_r1 (dv_cons (de_ix hu.b (de_vs 0 (pv 0)) (asV de_int)) dv_nil) rfl T.b_range) (blkOk_by (by kernel_rfl)) (by decide) (fun s1 H1 Cc1 cl1 fp1 => ⟨(dg_nm 2 hN rfl (.inr rfl)), dts_nil, (de_frz (de_lc (ow := [("goal", 3)]) (P := (.nm 3)) rfl hN (di_r1 (dv_cons (de_ix hu.b (de_vs 0 (pv 0)) (asV de_int)) dv_nil) rfl T.b_range) (blkOk_by (by kernel_rfl)) (by decide) (fun s1 H1 Cc1 cl1 fp1 => ⟨(dg_nm 3 hN rfl (.inl rfl)), dts_nil, (de_call tk0 d_walk_count.blk.blk rfl (dr_cons .st (de_vs 0 (pv 0)) (dr_cons .st (de_vs 2 (pv 2)) (dr_cons .st (de_vs 3 (pv 3)) (dr_cons .st (de_vs 1 (pv 1)) dr_nil)))))⟩)))⟩)))))
def F__law_product (a : Ad) : SF := (sRet (eLC [2] (.nm 2) (iOf dItr (eVar 0)) tNo (eLC [3] (.nm 3) (iA rR1 [(eB bLen [(eVar 1)])]) tNo (eB bSum [(eLC [4] (.nm 4) (iA rR1 [(eB bLen [(eVar 1)])]) tNo (eOp2 dMul (eIx (eVar 2) (eVar 4)) (eIx (eIx (eVar 1) (eVar 4)) (eVar 3))))]))))
def G__law_product (a : Ad) : GF := fnF 5 (F__law_product a)
theorem ok__law_product (T : Tx K mg a) : Pm P w K mg base "_law_product" 1 (top 45) ["one", "other"] TT [.st, .st] .stable (G__law_product a) :=
  Pm.of T.f__law_product fun f fd F => def_ok (FF := F__law_product a) (N := ["one", "other", "line", "at", "by"]) (o' := []) (lo := []) F ⟨rfl, rfl, rfl, by decide +kernel, rfl, by decide +kernel, by decide +kernel⟩ rfl (ws_ok rfl) fun cdv A outer s H M E hr => by
    have hu := us_of hr
    have tk : Takes (cnOf P w K mg base TT ["one", "other", "line", "at", "by"] "_law_product" (top 45) f cdv A outer s H H M E).X (cnOf P w K mg base TT ["one", "other", "line", "at", "by"] "_law_product" (top 45) f cdv A outer s H H M E).W := takes_of rfl rfl rfl rfl
    have hp : PassesOwn (model (cnOf P w K mg base TT ["one", "other", "line", "at", "by"] "_law_product" (top 45) f cdv A outer s H H M E).X.prog (cnOf P w K mg base TT ["one", "other", "line", "at", "by"] "_law_product" (top 45) f cdv A outer s H H M E).X.w) (cnOf P w K mg base TT ["one", "other", "line", "at", "by"] "_law_product" (top 45) f cdv A outer s H H M E).X.A (cnOf P w K mg base TT ["one", "other", "line", "at", "by"] "_law_product" (top 45) f cdv A outer s H H M E).X.env (cnOf P w K mg base TT ["one", "other", "line", "at", "by"] "_law_product" (top 45) f cdv A outer s H H M E).X.xe := passes_of rfl
    have hc : (cnOf P w K mg base TT ["one", "other", "line", "at", "by"] "_law_product" (top 45) f cdv A outer s H H M E).X.calm = true := rfl
    have hN : (cnOf P w K mg base TT ["one", "other", "line", "at", "by"] "_law_product" (top 45) f cdv A outer s H H M E).X.N.Nodup := (by decide +kernel : (["one", "other", "line", "at", "by"] : List Str).Nodup)
    exact (dss_one (ds_ret (de_frz (de_lc (ow := [("line", 2)]) (P := (.nm 2)) rfl hN (di_any (de_vs 0 (pv 0))) (blkOk_by (by kernel_rfl)) (by decide) (fun s1 H1 Cc1 cl1 fp1 => ⟨(dg_nm 2 hN rfl (.inr rfl)), dts_nil, (de_frz (de_lc (ow := [("at", 3)]) (P := (.nm 3)) rfl hN (di_r1 (dv_cons (asV (de_b cd_len rfl T.b_len (by rfl) (dv_cons (de_vs 1 (pv 1)) dv_nil))) dv_nil) rfl T.b_range) (blkOk_by (by kernel_rfl)) (by decide) (fun s1 H1 Cc1 cl1 fp1 => ⟨(dg_nm 3 hN rfl (.inr rfl)), dts_nil, (de_b (cd_sum hc) rfl T.b_sum (by rfl) (dv_cons (de_lc (ow := [("by", 4)]) (P := (.nm 4)) rfl hN (di_r1 (dv_cons (asV (de_b cd_len rfl T.b_len (by rfl) (dv_cons (de_vs 1 (pv 1)) dv_nil))) dv_nil) rfl T.b_range) (blkOk_by (by kernel_rfl)) (by decide) (fun s1 H1 Cc1 cl1 fp1 => ⟨(dg_nm 4 hN rfl (.inl rfl)), dts_nil, (de_frz (de_op (op := .Mult) od_mul (de_ix hu.b (de_vs 2 (pv 2)) (de_vs 4 (pv 4))) (de_ix hu.b (de_ix hu.b (de_vs 1 (pv 1)) (de_vs 4 (pv 4))) (de_vs 3 (pv 3)))))⟩)) dv_nil))⟩)))⟩)))))
def F__law_less (a : Ad) : SF := (sRet (eLC [2, 3] (.tup [(.nm 2), (.nm 3)]) (iA rZip [(eVar 0), (eVar 1)]) tNo (eLC [4, 5] (.tup [(.nm 4), (.nm 5)]) (iA rZip [(eVar 2), (eVar 3)]) tNo (eOp2 dSub (eVar 4) (eVar 5)))))
def G__law_less (a : Ad) : GF := fnF 6 (F__law_less a)
theorem ok__law_less (T : Tx K mg a) : Pm P w K mg base "_law_less" 1 (top 46) ["one", "other"] TT [.st, .st] .stable (G__law_less a) :=
  Pm.of T.f__law_less fun f fd F => def_ok (FF := F__law_less a) (N := ["one", "other", "mine", "yours", "first", "second"]) (o' := []) (lo := []) F ⟨rfl, rfl, rfl, by decide +kernel, rfl, by decide +kernel, by decide +kernel⟩ rfl (ws_ok rfl) fun cdv A outer s H M E hr => by
    have hu := us_of hr
    have tk : Takes (cnOf P w K mg base TT ["one", "other", "mine", "yours", "first", "second"] "_law_less" (top 46) f cdv A outer s H H M E).X (cnOf P w K mg base TT ["one", "other", "mine", "yours", "first", "second"] "_law_less" (top 46) f cdv A outer s H H M E).W := takes_of rfl rfl rfl rfl
    have hp : PassesOwn (model (cnOf P w K mg base TT ["one", "other", "mine", "yours", "first", "second"] "_law_less" (top 46) f cdv A outer s H H M E).X.prog (cnOf P w K mg base TT ["one", "other", "mine", "yours", "first", "second"] "_law_less" (top 46) f cdv A outer s H H M E).X.w) (cnOf P w K mg base TT ["one", "other", "mine", "yours", "first", "second"] "_law_less" (top 46) f cdv A outer s H H M E).X.A (cnOf P w K mg base TT ["one", "other", "mine", "yours", "first", "second"] "_law_less" (top 46) f cdv A outer s H H M E).X.env (cnOf P w K mg base TT ["one", "other", "mine", "yours", "first", "second"] "_law_less" (top 46) f cdv A outer s H H M E).X.xe := passes_of rfl
    have hc : (cnOf P w K mg base TT ["one", "other", "mine", "yours", "first", "second"] "_law_less" (top 46) f cdv A outer s H H M E).X.calm = true := rfl
    have hN : (cnOf P w K mg base TT ["one", "other", "mine", "yours", "first", "second"] "_law_less" (top 46) f cdv A outer s H H M E).X.N.Nodup := (by decide +kernel : (["one", "other", "mine", "yours", "first", "second"] : List Str).Nodup)
    exact (dss_one (ds_ret (de_frz (de_lc (ow := [("mine", 2), ("yours", 3)]) (P := (.tup [(.nm 2), (.nm 3)])) rfl hN (di_zip (da_cons (de_vs 0 (pv 0)) (da_cons (de_vs 1 (pv 1)) da_nil)) rfl T.b_zip) (blkOk_by (by kernel_rfl)) (by decide) (fun s1 H1 Cc1 cl1 fp1 => ⟨(dg_tup rfl (dgs_cons (dg_nm 2 hN rfl (.inl rfl)) (dgs_cons (dg_nm 3 hN rfl (.inl rfl)) dgs_nil))), dts_nil, (de_frz (de_lc (ow := [("first", 4), ("second", 5)]) (P := (.tup [(.nm 4), (.nm 5)])) rfl hN (di_zip (da_cons (de_vs 2 (pv 2)) (da_cons (de_vs 3 (pv 3)) da_nil)) rfl T.b_zip) (blkOk_by (by kernel_rfl)) (by decide) (fun s1 H1 Cc1 cl1 fp1 => ⟨(dg_tup rfl (dgs_cons (dg_nm 4 hN rfl (.inl rfl)) (dgs_cons (dg_nm 5 hN rfl (.inl rfl)) dgs_nil))), dts_nil, (de_op (op := .Sub) od_sub (de_vs 4 (pv 4)) (de_vs 5 (pv 5)))⟩)))⟩)))))
def F__law_middle (a : Ad) : SF := (sRet (eLC [1] (.nm 1) (iA rR1 [(eB bLen [(eVar 0)])]) tNo (eLC [2] (.nm 2) (iA rR1 [(eB bLen [(eVar 0)])]) tNo (eIf (tOf dBl (eOp2 dEq (eVar 1) (eVar 2))) (eIx (eVar 0) (eVar 1)) (eC (.int 0))))))
def G__law_middle (a : Ad) : GF := fnF 3 (F__law_middle a)
theorem ok__law_middle (T : Tx K mg a) : Pm P w K mg base "_law_middle" 1 (top 47) ["numbers"] TT [.st] .stable (G__law_middle a) :=
  Pm.of T.f__law_middle fun f fd F => def_ok (FF := F__law_middle a) (N := ["numbers", "at", "late"]) (o' := []) (lo := []) F ⟨rfl, rfl, rfl, by decide +kernel, rfl, by decide +kernel, by decide +kernel⟩ rfl (ws_ok rfl) fun cdv A outer s H M E hr => by
    have hu := us_of hr
    have tk : Takes (cnOf P w K mg base TT ["numbers", "at", "late"] "_law_middle" (top 47) f cdv A outer s H H M E).X (cnOf P w K mg base TT ["numbers", "at", "late"] "_law_middle" (top 47) f cdv A outer s H H M E).W := takes_of rfl rfl rfl rfl
    have hp : PassesOwn (model (cnOf P w K mg base TT ["numbers", "at", "late"] "_law_middle" (top 47) f cdv A outer s H H M E).X.prog (cnOf P w K mg base TT ["numbers", "at", "late"] "_law_middle" (top 47) f cdv A outer s H H M E).X.w) (cnOf P w K mg base TT ["numbers", "at", "late"] "_law_middle" (top 47) f cdv A outer s H H M E).X.A (cnOf P w K mg base TT ["numbers", "at", "late"] "_law_middle" (top 47) f cdv A outer s H H M E).X.env (cnOf P w K mg base TT ["numbers", "at", "late"] "_law_middle" (top 47) f cdv A outer s H H M E).X.xe := passes_of rfl
    have hc : (cnOf P w K mg base TT ["numbers", "at", "late"] "_law_middle" (top 47) f cdv A outer s H H M E).X.calm = true := rfl
    have hN : (cnOf P w K mg base TT ["numbers", "at", "late"] "_law_middle" (top 47) f cdv A outer s H H M E).X.N.Nodup := (by decide +kernel : (["numbers", "at", "late"] : List Str).Nodup)
    exact (dss_one (ds_ret (de_frz (de_lc (ow := [("at", 1)]) (P := (.nm 1)) rfl hN (di_r1 (dv_cons (asV (de_b cd_len rfl T.b_len (by rfl) (dv_cons (de_vs 0 (pv 0)) dv_nil))) dv_nil) rfl T.b_range) (blkOk_by (by kernel_rfl)) (by decide) (fun s1 H1 Cc1 cl1 fp1 => ⟨(dg_nm 1 hN rfl (.inr rfl)), dts_nil, (de_frz (de_lc (ow := [("late", 2)]) (P := (.nm 2)) rfl hN (di_r1 (dv_cons (asV (de_b cd_len rfl T.b_len (by rfl) (dv_cons (de_vs 0 (pv 0)) dv_nil))) dv_nil) rfl T.b_range) (blkOk_by (by kernel_rfl)) (by decide) (fun s1 H1 Cc1 cl1 fp1 => ⟨(dg_nm 2 hN rfl (.inl rfl)), dts_nil, (de_if (dt_cmp (od_eq hu.c) (de_vs 1 (pv 1)) (de_vs 2 (pv 2)) rfl) (de_ix hu.b (de_vs 0 (pv 0)) (de_vs 1 (pv 1))) de_int)⟩)))⟩)))))
def TL (P0 : Addr) : List (Addr × Str) := [(P0, (envOfC "law" (defScope (top 48)) 0 0 .none).qual ++ "<lambda>")]
def Fe_law (a : Ad) : EF := (eCall (G__law_begun a) [(eVar 0)])
def F_law (a : Ad) : SF := (sSeq (sFor (iA rR1 [(eOp2 dAdd (eC (.int 2)) (eB bMin [(eB bLen [(eVar 0)]), (eC (.int 4))]))]) (.nm 2) (sSeq (sSet 4 (eCall (G__law_pick a) [(eVar 1), (eLst [(eCall (G__law_web a) [(eVar 1)]), (eCall (G__law_web a) [(eVar 1)]), (eCall (G__law_great_web a) [(eVar 1)])])])) (sSeq (sTgt (.tup [(.nm 10), (.nm 11), (.nm 12)]) (eTup [(eCall (G__law_take a) [(eVar 1), (eIx (eVar 4) (eC (.int 0)))]), (eCall (G__law_take a) [(eVar 1), (eIx (eVar 4) (eC (.int 0)))]), (eCall (G__law_pick a) [(eVar 1), (eLst [(eC (.int 0)), (eC (.int 1)), (eC (.int 2)), (eC (.int 3)), (eCall (G__law_take a) [(eVar 1), (eC (.int 61))]), (eC (.int 60))])])])) (sSeq (sSet 5 (eCall (G__law_walk_count a) [(eVar 4), (eVar 10), (eVar 11), (eVar 12)])) (sSeq (sSet 3 (eLst [(eCall (G_walk_count a) [(eVar 4), (eVar 10), (eVar 11), (eVar 12)]), (eCallK [3, 2, 1, 0] (G_walk_count a) [(eVar 12), (eVar 11), (eVar 10), (eVar 4)]), (eCall (G_walk_count a) [(eVar 4), (eVar 11), (eVar 10), (eVar 12)])])) (sSeq (sIf (tNt (tOf dTru (eCall (G__law_says a) [(eVar 3), (eOp2 dMul (eLst [(eVar 5)]) (eC (.int 3)))]))) (sRet (eC (.bl false))) sNil) (sSeq (sSet 6 (eCall (G__law_web a) [(eVar 1)])) (sSeq (sPar3 13 14 15 (eCall (G__law_ties_table a) [(eVar 6)]) (eCall (G__law_degrees a) [(eVar 6)]) (eCall (G__law_pick a) [(eVar 1), (eLst [(eC (.int 2)), (eC (.int 3)), (eOp2 dAdd (eC (.int 2)) (eCall (G__law_take a) [(eVar 1), (eC (.int 57))]))])])) (sSeq (sIf (tOf dBl (eOp2 dNe (eLC [16] (.nm 16) (iOf dLst (eLst [(eC (.int 0)), (eC (.int 1)), (eC (.int 2))])) tNo (eCall (G__law_told_table a) [(eVar 6), (eVar 16)])) (eLst [(eCall (G__law_middle a) [(eOp2 dMul (eLst [(eC (.int 1))]) (eIx (eVar 6) (eC (.int 0))))]), (eVar 13), (eCall (G__law_less a) [(eCall (G__law_product a) [(eVar 13), (eVar 13)]), (eCall (G__law_middle a) [(eVar 14)])])]))) (sRet (eC (.bl false))) sNil) (sSeq (sSet 7 (eCall (G__law_product a) [(eCall (G__law_told_table a) [(eVar 6), (eOp2 dSub (eVar 15) (eC (.int 1)))]), (eCall (G__law_middle a) [(eLC [17] (.nm 17) (iOf dItr (eVar 14)) tNo (eOp2 dSub (eVar 17) (eC (.int 1))))])])) (sSeq (sIf (tOf dBl (eOp2 dNe (eCall (G__law_told_table a) [(eVar 6), (eOp2 dAdd (eVar 15) (eC (.int 1)))]) (eCall (G__law_less a) [(eCall (G__law_product a) [(eCall (G__law_told_table a) [(eVar 6), (eVar 15)]), (eVar 13)]), (eVar 7)]))) (sRet (eC (.bl false))) sNil) (sSeq (sIf (tNt (tOf dTru (eIsX a.BadStart (eCaught (cls_l a) (eCall (G_walk_count a) [(eVar 4), (eCall (G__law_no_number a) [(eVar 1), (eC (.int 0)), (eOp2 dSub (eIx (eVar 4) (eC (.int 0))) (eC (.int 1)))]), (eC .non), (eC .non)]))))) (sRet (eC (.bl false))) sNil) (sSeq (sIf (tNt (tOf dTru (eIsX a.BadGoal (eCaught (cls_l a) (eCall (G_walk_count a) [(eVar 4), (eVar 10), (eCall (G__law_no_number a) [(eVar 1), (eC (.int 0)), (eOp2 dSub (eIx (eVar 4) (eC (.int 0))) (eC (.int 1)))]), (eC .non)]))))) (sRet (eC (.bl false))) sNil) (sSeq (sIf (tNt (tOf dTru (eIsX a.BadLength (eCaught (cls_l a) (eCall (G_walk_count a) [(eVar 4), (eVar 10), (eVar 11), (eCall (G__law_no_number a) [(eVar 1), (eC (.int 0)), (eC (.int 60))])]))))) (sRet (eC (.bl false))) sNil) sNil)))))))))))))) (sSeq (sTgt (.tup [(.nm 8), (.nm 9)]) (eTup [(eTup [(eC (.int 3)), (eTup [(eTup [(eC (.int 0)), (eC (.int 1))]), (eTup [(eC (.int 0)), (eC (.int 2))]), (eTup [(eC (.int 1)), (eC (.int 2))])])]), (eTup [(eC (.int 1)), (eTup [(eTup [(eC (.int 0)), (eC (.int 0))]), (eTup [(eC (.int 0)), (eC (.int 0))])])])])) (sSeq (sSet 3 (eOp2 dAdd (eOp2 dAdd (eLC [16] (.nm 16) (iOf dLst (eLst [(eC (.int 0)), (eC (.int 1)), (eC (.int 2)), (eC (.int 3)), (eC (.int 4)), (eC (.int 60))])) tNo (eCall (G_walk_count a) [(eVar 8), (eC (.int 0)), (eC (.int 0)), (eVar 16)])) (eLC [16] (.nm 16) (iOf dLst (eLst [(eC (.int 1)), (eC (.int 2)), (eC (.int 3))])) tNo (eCall (G_walk_count a) [(eVar 9), (eC (.int 0)), (eC (.int 0)), (eVar 16)]))) (eLst [(eCall (G_walk_count a) [(eTup [(eC (.int 2)), (eTup [(eTup [(eC (.int 0)), (eC (.int 1))])])]), (eC (.int 0)), (eC (.int 0)), (eC (.int 2))])]))) (sRet (eCall (G__law_says a) [(eVar 3), (eLst [(eC (.int 1)), (eC (.int 0)), (eC (.int 0)), (eC (.int 2)), (eC (.int 0)), (eC (.int 2)), (eC (.int 4)), (eC (.int 12)), (eC (.int 36)), (eC (.int 0))])])))))
theorem ok_law {c P0 fa : Addr} {fd : FuncData} (T : Tx K mg a) (TB : LamX.TabB base mg c P0)
    (F : ∃ (oc : Value) (od : Option Addr) (kV doc pm : Value) (an : Option Addr) (ct : Value) (osl : Array (Option Value)), fd = PySem.W.fnOf "law" "law" (defArgs (top 48)) (defBody (top 48)) (defScope (top 48)) .none kV doc pm an (.ref c) ct ∧ K.lookup fa = some ⟨oc, od, .func fd, osl⟩ ∧ PySem.W.codeIn K (.ref c) "law" = true) :
    FnOk P w K mg base (L2.CX P w) 13 fa fd ["script"] (spLaw K (TL P0) (LawGood 18 1 (Fe_law a) (F_law a))) :=
  law_fn (N := ["script", "draw", "turn", "told", "web", "due", "small", "less", "ring", "loops", "start", "goal", "length", "ties", "degrees", "at", "late", "number"]) (i := 1) (Fe := Fe_law a) (FF := F_law a) (o' := []) (g := .stable) (fun _ _ => trivial) (by decide) ⟨rfl, rfl, rfl, by decide +kernel, rfl, by decide +kernel, by decide +kernel⟩ F fun A outer s H H0 E hr => by
    have hu := us_of hr
    have tk : Takes (cnOf P w K mg base (TL P0) ["script", "draw", "turn", "told", "web", "due", "small", "less", "ring", "loops", "start", "goal", "length", "ties", "degrees", "at", "late", "number"] "law" (top 48) fa (.ref c) A outer s H H0 noM E).X (cnOf P w K mg base (TL P0) ["script", "draw", "turn", "told", "web", "due", "small", "less", "ring", "loops", "start", "goal", "length", "ties", "degrees", "at", "late", "number"] "law" (top 48) fa (.ref c) A outer s H H0 noM E).W := takes_of rfl rfl rfl rfl
    have hp : PassesOwn (model (cnOf P w K mg base (TL P0) ["script", "draw", "turn", "told", "web", "due", "small", "less", "ring", "loops", "start", "goal", "length", "ties", "degrees", "at", "late", "number"] "law" (top 48) fa (.ref c) A outer s H H0 noM E).X.prog (cnOf P w K mg base (TL P0) ["script", "draw", "turn", "told", "web", "due", "small", "less", "ring", "loops", "start", "goal", "length", "ties", "degrees", "at", "late", "number"] "law" (top 48) fa (.ref c) A outer s H H0 noM E).X.w) (cnOf P w K mg base (TL P0) ["script", "draw", "turn", "told", "web", "due", "small", "less", "ring", "loops", "start", "goal", "length", "ties", "degrees", "at", "late", "number"] "law" (top 48) fa (.ref c) A outer s H H0 noM E).X.A (cnOf P w K mg base (TL P0) ["script", "draw", "turn", "told", "web", "due", "small", "less", "ring", "loops", "start", "goal", "length", "ties", "degrees", "at", "late", "number"] "law" (top 48) fa (.ref c) A outer s H H0 noM E).X.env (cnOf P w K mg base (TL P0) ["script", "draw", "turn", "told", "web", "due", "small", "less", "ring", "loops", "start", "goal", "length", "ties", "degrees", "at", "late", "number"] "law" (top 48) fa (.ref c) A outer s H H0 noM E).X.xe := passes_of rfl
    have hc : (cnOf P w K mg base (TL P0) ["script", "draw", "turn", "told", "web", "due", "small", "less", "ring", "loops", "start", "goal", "length", "ties", "degrees", "at", "late", "number"] "law" (top 48) fa (.ref c) A outer s H H0 noM E).X.calm = true := rfl
    have hN : (cnOf P w K mg base (TL P0) ["script", "draw", "turn", "told", "web", "due", "small", "less", "ring", "loops", "start", "goal", "length", "ties", "degrees", "at", "late", "number"] "law" (top 48) fa (.ref c) A outer s H H0 noM E).X.N.Nodup := (by decide +kernel : (["script", "draw", "turn", "told", "web", "due", "small", "less", "ring", "loops", "start", "goal", "length", "ties", "degrees", "at", "late", "number"] : List Str).Nodup)
    obtain ⟨gfC, fdC, FC, hmC, hbC⟩ := T.f__law_caught.ex
    have hkC := FC.kp
    obtain ⟨ocC, odC, kVC, docC, pmC, anC, cdvC, ctC, oslC, rfl, lkC, hcC⟩ := FC.ex
    have SgC : FnScope ["work", "caught", "error"] ["work"] (defScope (top 31)) := ⟨rfl, rfl, rfl, by decide +kernel, rfl, by decide +kernel, by decide +kernel⟩
    have hmT : (P0, (cnOf P w K mg base (TL P0) ["script", "draw", "turn", "told", "web", "due", "small", "less", "ring", "loops", "start", "goal", "length", "ties", "degrees", "at", "late", "number"] "law" (top 48) fa (.ref c) A outer s H H0 noM E).X.env.qual ++ "<lambda>") ∈ TL P0 := List.mem_singleton.mpr rfl
    have huT : ∀ p ∈ TL P0, p.1 = P0 → p.2 = (cnOf P w K mg base (TL P0) ["script", "draw", "turn", "told", "web", "due", "small", "less", "ring", "loops", "start", "goal", "length", "ties", "degrees", "at", "late", "number"] "law" (top 48) fa (.ref c) A outer s H H0 noM E).X.env.qual ++ "<lambda>" := fun p hp _ => by rw [List.mem_singleton.mp hp]; rfl
    have d__law_begun : Dn (cnOf P w K mg base (TL P0) ["script", "draw", "turn", "told", "web", "due", "small", "less", "ring", "loops", "start", "goal", "length", "ties", "degrees", "at", "late", "number"] "law" (top 48) fa (.ref c) A outer s H H0 noM E) "_law_begun" [.st] .fresh (G__law_begun a) := (ok__law_begun T).dn (hr.mono (by decide))
    have d__law_pick : Dn (cnOf P w K mg base (TL P0) ["script", "draw", "turn", "told", "web", "due", "small", "less", "ring", "loops", "start", "goal", "length", "ties", "degrees", "at", "late", "number"] "law" (top 48) fa (.ref c) A outer s H H0 noM E) "_law_pick" [.st, .vw] .stable (G__law_pick a) := (ok__law_pick T).dn (hr.mono (by decide))
    have d__law_web : Dn (cnOf P w K mg base (TL P0) ["script", "draw", "turn", "told", "web", "due", "small", "less", "ring", "loops", "start", "goal", "length", "ties", "degrees", "at", "late", "number"] "law" (top 48) fa (.ref c) A outer s H H0 noM E) "_law_web" [.st] .stable (G__law_web a) := (ok__law_web T).dn (hr.mono (by decide))
    have d__law_great_web : Dn (cnOf P w K mg base (TL P0) ["script", "draw", "turn", "told", "web", "due", "small", "less", "ring", "loops", "start", "goal", "length", "ties", "degrees", "at", "late", "number"] "law" (top 48) fa (.ref c) A outer s H H0 noM E) "_law_great_web" [.st] .stable (G__law_great_web a) := (ok__law_great_web T).dn (hr.mono (by decide))
    have d__law_take : Dn (cnOf P w K mg base (TL P0) ["script", "draw", "turn", "told", "web", "due", "small", "less", "ring", "loops", "start", "goal", "length", "ties", "degrees", "at", "late", "number"] "law" (top 48) fa (.ref c) A outer s H H0 noM E) "_law_take" [.st, .st] .stable (G__law_take a) := (ok__law_take T).dn (hr.mono (by decide))
    have d__law_walk_count : Dn (cnOf P w K mg base (TL P0) ["script", "draw", "turn", "told", "web", "due", "small", "less", "ring", "loops", "start", "goal", "length", "ties", "degrees", "at", "late", "number"] "law" (top 48) fa (.ref c) A outer s H H0 noM E) "_law_walk_count" [.st, .st, .st, .st] .stable (G__law_walk_count a) := (ok__law_walk_count T).dn (hr.mono (by decide))
    have d_walk_count : Dn (cnOf P w K mg base (TL P0) ["script", "draw", "turn", "told", "web", "due", "small", "less", "ring", "loops", "start", "goal", "length", "ties", "degrees", "at", "late", "number"] "law" (top 48) fa (.ref c) A outer s H H0 noM E) "walk_count" [.st, .st, .st, .st] .stable (G_walk_count a) := (ok_walk_count T).dn (hr.mono (by decide))
    have d__law_says : Dn (cnOf P w K mg base (TL P0) ["script", "draw", "turn", "told", "web", "due", "small", "less", "ring", "loops", "start", "goal", "length", "ties", "degrees", "at", "late", "number"] "law" (top 48) fa (.ref c) A outer s H H0 noM E) "_law_says" [.st, .st] .stable (G__law_says a) := (ok__law_says T).dn (hr.mono (by decide))
    have d__law_ties_table : Dn (cnOf P w K mg base (TL P0) ["script", "draw", "turn", "told", "web", "due", "small", "less", "ring", "loops", "start", "goal", "length", "ties", "degrees", "at", "late", "number"] "law" (top 48) fa (.ref c) A outer s H H0 noM E) "_law_ties_table" [.st] .stable (G__law_ties_table a) := (ok__law_ties_table T).dn (hr.mono (by decide))
    have d__law_degrees : Dn (cnOf P w K mg base (TL P0) ["script", "draw", "turn", "told", "web", "due", "small", "less", "ring", "loops", "start", "goal", "length", "ties", "degrees", "at", "late", "number"] "law" (top 48) fa (.ref c) A outer s H H0 noM E) "_law_degrees" [.st] .stable (G__law_degrees a) := (ok__law_degrees T).dn (hr.mono (by decide))
    have d__law_told_table : Dn (cnOf P w K mg base (TL P0) ["script", "draw", "turn", "told", "web", "due", "small", "less", "ring", "loops", "start", "goal", "length", "ties", "degrees", "at", "late", "number"] "law" (top 48) fa (.ref c) A outer s H H0 noM E) "_law_told_table" [.st, .st] .stable (G__law_told_table a) := (ok__law_told_table T).dn (hr.mono (by decide))
    have d__law_middle : Dn (cnOf P w K mg base (TL P0) ["script", "draw", "turn", "told", "web", "due", "small", "less", "ring", "loops", "start", "goal", "length", "ties", "degrees", "at", "late", "number"] "law" (top 48) fa (.ref c) A outer s H H0 noM E) "_law_middle" [.st] .stable (G__law_middle a) := (ok__law_middle T).dn (hr.mono (by decide))
    have d__law_less : Dn (cnOf P w K mg base (TL P0) ["script", "draw", "turn", "told", "web", "due", "small", "less", "ring", "loops", "start", "goal", "length", "ties", "degrees", "at", "late", "number"] "law" (top 48) fa (.ref c) A outer s H H0 noM E) "_law_less" [.st, .st] .stable (G__law_less a) := (ok__law_less T).dn (hr.mono (by decide))
    have d__law_product : Dn (cnOf P w K mg base (TL P0) ["script", "draw", "turn", "told", "web", "due", "small", "less", "ring", "loops", "start", "goal", "length", "ties", "degrees", "at", "late", "number"] "law" (top 48) fa (.ref c) A outer s H H0 noM E) "_law_product" [.st, .st] .stable (G__law_product a) := (ok__law_product T).dn (hr.mono (by decide))
    have d__law_no_number : Dn (cnOf P w K mg base (TL P0) ["script", "draw", "turn", "told", "web", "due", "small", "less", "ring", "loops", "start", "goal", "length", "ties", "degrees", "at", "late", "number"] "law" (top 48) fa (.ref c) A outer s H H0 noM E) "_law_no_number" [.st, .st, .st] .stable (G__law_no_number a) := (ok__law_no_number T).dn (hr.mono (by decide))
    exact dss_share (n := 18) (i := 1) (o' := []) (g := .stable) (Fe := Fe_law a) (FF := F_law a) hN rfl (.inr rfl) (de_call tk d__law_begun rfl (dr_cons .st (de_vs 0 (pv 0)) dr_nil)) (dss_cons (ds_for (P := (.nm 2)) hp hc (di_r1 (dv_cons (de_op (op := .Add) od_add (asV de_int) (asV (de_b (cd_min hc) rfl T.b_min (by rfl) (dv_cons (asV (de_b cd_len rfl T.b_len (by rfl) (dv_cons (de_vs 0 (pv 0)) dv_nil))) (dv_cons (asV de_int) dv_nil))))) dv_nil) rfl T.b_range) (dg_nm 2 hN rfl (.inl rfl)) (dss_cons (ds_set 4 .st hN rfl (.inr rfl) (de_call tk d__law_pick rfl (dr_cons .st (de_vs 1 (pv 1)) (dr_cons .vw (de_look (de_lst (da_cons (de_call tk d__law_web rfl (dr_cons .st (de_vs 1 (pv 1)) dr_nil)) (da_cons (de_call tk d__law_web rfl (dr_cons .st (de_vs 1 (pv 1)) dr_nil)) (da_cons (de_call tk d__law_great_web rfl (dr_cons .st (de_vs 1 (pv 1)) dr_nil)) da_nil))))) dr_nil)))) (dss_cons (ds_tgt (de_tup (da_cons (de_call tk d__law_take rfl (dr_cons .st (de_vs 1 (pv 1)) (dr_cons .st (de_ix hu.b (de_vs 4 (pv 4)) (asV de_int)) dr_nil))) (da_cons (de_call tk d__law_take rfl (dr_cons .st (de_vs 1 (pv 1)) (dr_cons .st (de_ix hu.b (de_vs 4 (pv 4)) (asV de_int)) dr_nil))) (da_cons (de_call tk d__law_pick rfl (dr_cons .st (de_vs 1 (pv 1)) (dr_cons .vw (de_look (de_lst (da_cons de_int (da_cons de_int (da_cons de_int (da_cons de_int (da_cons (de_call tk d__law_take rfl (dr_cons .st (de_vs 1 (pv 1)) (dr_cons .st de_int dr_nil))) (da_cons de_int da_nil)))))))) dr_nil))) da_nil)))) (dg_tup rfl (dgs_cons (dg_nm 10 hN rfl (.inr rfl)) (dgs_cons (dg_nm 11 hN rfl (.inr rfl)) (dgs_cons (dg_nm 12 hN rfl (.inl rfl)) dgs_nil))))) (dss_cons (ds_set 5 .st hN rfl (.inl rfl) (de_call tk d__law_walk_count rfl (dr_cons .st (de_vs 4 (pv 4)) (dr_cons .st (de_vs 10 (pv 10)) (dr_cons .st (de_vs 11 (pv 11)) (dr_cons .st (de_vs 12 (pv 12)) dr_nil)))))) (dss_cons (ds_set 3 .st hN rfl (.inl rfl) (de_frz (de_lst (da_cons (de_call tk d_walk_count rfl (dr_cons .st (de_vs 4 (pv 4)) (dr_cons .st (de_vs 10 (pv 10)) (dr_cons .st (de_vs 11 (pv 11)) (dr_cons .st (de_vs 12 (pv 12)) dr_nil))))) (da_cons (de_callK tk (Pm.dk (ks := ["length", "goal", "start", "web"]) (idx := [3, 2, 1, 0]) (ok_walk_count T) (hr.mono (by decide)) (fun _ _ _ _ _ _ us hl => match us, hl with | [], h => (by simp [permL] at h) | [_], h => (by simp [permL] at h) | [_, _], h => (by simp [permL] at h) | [_, _, _], h => (by simp [permL] at h) | _ :: _ :: _ :: _ :: _, _ => rfl)) rfl (dk_cons (de_vs 12 (pv 12)) (dk_cons (de_vs 11 (pv 11)) (dk_cons (de_vs 10 (pv 10)) (dk_cons (de_vs 4 (pv 4)) dk_nil))))) (da_cons (de_call tk d_walk_count rfl (dr_cons .st (de_vs 4 (pv 4)) (dr_cons .st (de_vs 11 (pv 11)) (dr_cons .st (de_vs 10 (pv 10)) (dr_cons .st (de_vs 12 (pv 12)) dr_nil))))) da_nil)))))) (dss_cons (ds_if (dt_not (dt_val (de_call tk d__law_says rfl (dr_cons .st (de_vs 3 (pv 3)) (dr_cons .st (de_frz (de_op (op := .Mult) od_mul (de_lst (da_cons (de_vs 5 (pv 5)) da_nil)) (asV de_int))) dr_nil))))) (dss_one (ds_ret de_bl)) dss_nil) (dss_cons (ds_set 6 .st hN rfl (.inr rfl) (de_call tk d__law_web rfl (dr_cons .st (de_vs 1 (pv 1)) dr_nil))) (dss_cons (ds_par3 13 14 15 .st .st .st hc hN rfl rfl rfl rfl rfl rfl (de_call tk d__law_ties_table rfl (dr_cons .st (de_vs 6 (pv 6)) dr_nil)) (de_call tk d__law_degrees rfl (dr_cons .st (de_vs 6 (pv 6)) dr_nil)) (de_call tk d__law_pick rfl (dr_cons .st (de_vs 1 (pv 1)) (dr_cons .vw (de_look (de_lst (da_cons de_int (da_cons de_int (da_cons (de_frz (de_op (op := .Add) od_add (asV de_int) (de_call tk d__law_take rfl (dr_cons .st (de_vs 1 (pv 1)) (dr_cons .st de_int dr_nil))))) da_nil))))) dr_nil))) rfl) (dss_cons (ds_if (dt_cmp (od_ne hu.c) (de_lc (ow := [("late", 16)]) (P := (.nm 16)) rfl hN (di_list (de_frz (de_lst (da_cons de_int (da_cons de_int (da_cons de_int da_nil)))))) (blkOk_by (by kernel_rfl)) (by decide) (fun s1 H1 Cc1 cl1 fp1 => ⟨(dg_nm 16 hN rfl (.inl rfl)), dts_nil, (de_call tk0 d__law_told_table.blk rfl (dr_cons .st (de_vs 6 (pv 6)) (dr_cons .st (de_vs 16 (pv 16)) dr_nil)))⟩)) (de_lst (da_cons (de_call tk d__law_middle rfl (dr_cons .st (de_frz (de_op (op := .Mult) od_mul (de_lst (da_cons de_int da_nil)) (de_ix hu.b (de_vs 6 (pv 6)) (asV de_int)))) dr_nil)) (da_cons (de_vs 13 (pv 13)) (da_cons (de_call tk d__law_less rfl (dr_cons .st (de_call tk d__law_product rfl (dr_cons .st (de_vs 13 (pv 13)) (dr_cons .st (de_vs 13 (pv 13)) dr_nil))) (dr_cons .st (de_call tk d__law_middle rfl (dr_cons .st (de_vs 14 (pv 14)) dr_nil)) dr_nil))) da_nil)))) rfl) (dss_one (ds_ret de_bl)) dss_nil) (dss_cons (ds_set 7 .st hN rfl (.inl rfl) (de_call tk d__law_product rfl (dr_cons .st (de_call tk d__law_told_table rfl (dr_cons .st (de_vs 6 (pv 6)) (dr_cons .st (de_op (op := .Sub) od_sub (de_vs 15 (pv 15)) (asV de_int)) dr_nil))) (dr_cons .st (de_call tk d__law_middle rfl (dr_cons .st (de_frz (de_lc (ow := [("number", 17)]) (P := (.nm 17)) rfl hN (di_any (de_vs 14 (pv 14))) (blkOk_by (by kernel_rfl)) (by decide) (fun s1 H1 Cc1 cl1 fp1 => ⟨(dg_nm 17 hN rfl (.inl rfl)), dts_nil, (de_op (op := .Sub) od_sub (de_vs 17 (pv 17)) (asV de_int))⟩))) dr_nil)) dr_nil)))) (dss_cons (ds_if (dt_cmp (od_ne hu.c) (de_call tk d__law_told_table rfl (dr_cons .st (de_vs 6 (pv 6)) (dr_cons .st (de_frz (de_op (op := .Add) od_add (de_vs 15 (pv 15)) (asV de_int))) dr_nil))) (de_call tk d__law_less rfl (dr_cons .st (de_call tk d__law_product rfl (dr_cons .st (de_call tk d__law_told_table rfl (dr_cons .st (de_vs 6 (pv 6)) (dr_cons .st (de_vs 15 (pv 15)) dr_nil))) (dr_cons .st (de_vs 13 (pv 13)) dr_nil))) (dr_cons .st (de_vs 7 (pv 7)) dr_nil))) rfl) (dss_one (ds_ret de_bl)) dss_nil) (dss_cons (ds_if (dt_not (dt_val (asV (de_isX (asV (de_caught (k := 10) (cls_l a) T.caughtOk rfl hmC hkC lkC hcC hbC SgC (caught_gives rfl T.x_TurnError.g rfl rfl rfl rfl) TB rfl hmT huT (hr.mono (by decide)) (LamX.lamS_by (by kernel_rfl)) rfl (fun _ _ _ _ _ => rfl) (fun A1 outer1 s1 H1 E1 f1 c1 hr1 => (de_look (de_call (takes_of rfl rfl rfl rfl) (Pm.dl (C := (cnOf P w K mg base (TL P0) ["script", "draw", "turn", "told", "web", "due", "small", "less", "ring", "loops", "start", "goal", "length", "ties", "degrees", "at", "late", "number"] "law" (top 48) fa (.ref c) A outer s H H0 noM E)) (ok_walk_count T) (hr1.mono (by decide))) rfl (dr_cons .st (de_vs 4 (pv 4)) (dr_cons .st (de_call (takes_of rfl rfl rfl rfl) (Pm.dl (C := (cnOf P w K mg base (TL P0) ["script", "draw", "turn", "told", "web", "due", "small", "less", "ring", "loops", "start", "goal", "length", "ties", "degrees", "at", "late", "number"] "law" (top 48) fa (.ref c) A outer s H H0 noM E)) (ok__law_no_number T) (hr1.mono (by decide))) rfl (dr_cons .st (de_vs 1 (pv 1)) (dr_cons .st de_int (dr_cons .st (de_op (op := .Sub) od_sub (de_ix (us_of hr1).b (de_vs 4 (pv 4)) (asV de_int)) (asV de_int)) dr_nil)))) (dr_cons .st de_non (dr_cons .st de_non dr_nil))))))))) T.i_BadStart rfl T.b_isinstance rfl T.x_BadStart.g)))) (dss_one (ds_ret de_bl)) dss_nil) (dss_cons (ds_if (dt_not (dt_val (asV (de_isX (asV (de_caught (k := 10) (cls_l a) T.caughtOk rfl hmC hkC lkC hcC hbC SgC (caught_gives rfl T.x_TurnError.g rfl rfl rfl rfl) TB rfl hmT huT (hr.mono (by decide)) (LamX.lamS_by (by kernel_rfl)) rfl (fun _ _ _ _ _ => rfl) (fun A1 outer1 s1 H1 E1 f1 c1 hr1 => (de_look (de_call (takes_of rfl rfl rfl rfl) (Pm.dl (C := (cnOf P w K mg base (TL P0) ["script", "draw", "turn", "told", "web", "due", "small", "less", "ring", "loops", "start", "goal", "length", "ties", "degrees", "at", "late", "number"] "law" (top 48) fa (.ref c) A outer s H H0 noM E)) (ok_walk_count T) (hr1.mono (by decide))) rfl (dr_cons .st (de_vs 4 (pv 4)) (dr_cons .st (de_vs 10 (pv 10)) (dr_cons .st (de_call (takes_of rfl rfl rfl rfl) (Pm.dl (C := (cnOf P w K mg base (TL P0) ["script", "draw", "turn", "told", "web", "due", "small", "less", "ring", "loops", "start", "goal", "length", "ties", "degrees", "at", "late", "number"] "law" (top 48) fa (.ref c) A outer s H H0 noM E)) (ok__law_no_number T) (hr1.mono (by decide))) rfl (dr_cons .st (de_vs 1 (pv 1)) (dr_cons .st de_int (dr_cons .st (de_op (op := .Sub) od_sub (de_ix (us_of hr1).b (de_vs 4 (pv 4)) (asV de_int)) (asV de_int)) dr_nil)))) (dr_cons .st de_non dr_nil))))))))) T.i_BadGoal rfl T.b_isinstance rfl T.x_BadGoal.g)))) (dss_one (ds_ret de_bl)) dss_nil) (dss_cons (ds_if (dt_not (dt_val (asV (de_isX (asV (de_caught (k := 10) (cls_l a) T.caughtOk rfl hmC hkC lkC hcC hbC SgC (caught_gives rfl T.x_TurnError.g rfl rfl rfl rfl) TB rfl hmT huT (hr.mono (by decide)) (LamX.lamS_by (by kernel_rfl)) rfl (fun _ _ _ _ _ => rfl) (fun A1 outer1 s1 H1 E1 f1 c1 hr1 => (de_look (de_call (takes_of rfl rfl rfl rfl) (Pm.dl (C := (cnOf P w K mg base (TL P0) ["script", "draw", "turn", "told", "web", "due", "small", "less", "ring", "loops", "start", "goal", "length", "ties", "degrees", "at", "late", "number"] "law" (top 48) fa (.ref c) A outer s H H0 noM E)) (ok_walk_count T) (hr1.mono (by decide))) rfl (dr_cons .st (de_vs 4 (pv 4)) (dr_cons .st (de_vs 10 (pv 10)) (dr_cons .st (de_vs 11 (pv 11)) (dr_cons .st (de_call (takes_of rfl rfl rfl rfl) (Pm.dl (C := (cnOf P w K mg base (TL P0) ["script", "draw", "turn", "told", "web", "due", "small", "less", "ring", "loops", "start", "goal", "length", "ties", "degrees", "at", "late", "number"] "law" (top 48) fa (.ref c) A outer s H H0 noM E)) (ok__law_no_number T) (hr1.mono (by decide))) rfl (dr_cons .st (de_vs 1 (pv 1)) (dr_cons .st de_int (dr_cons .st de_int dr_nil)))) dr_nil))))))))) T.i_BadLength rfl T.b_isinstance rfl T.x_BadLength.g)))) (dss_one (ds_ret de_bl)) dss_nil) dss_nil)))))))))))))) (dss_cons (ds_tgt (de_tup (da_cons (de_tup (da_cons de_int (da_cons (de_tup (da_cons (de_tup (da_cons de_int (da_cons de_int da_nil))) (da_cons (de_tup (da_cons de_int (da_cons de_int da_nil))) (da_cons (de_tup (da_cons de_int (da_cons de_int da_nil))) da_nil)))) da_nil))) (da_cons (de_tup (da_cons de_int (da_cons (de_tup (da_cons (de_tup (da_cons de_int (da_cons de_int da_nil))) (da_cons (de_tup (da_cons de_int (da_cons de_int da_nil))) da_nil))) da_nil))) da_nil))) (dg_tup rfl (dgs_cons (dg_nm 8 hN rfl (.inr rfl)) (dgs_cons (dg_nm 9 hN rfl (.inr rfl)) dgs_nil)))) (dss_cons (ds_set 3 .st hN rfl (.inl rfl) (de_frz (de_op (op := .Add) od_add (de_op (op := .Add) od_add (de_lc (ow := [("late", 16)]) (P := (.nm 16)) rfl hN (di_list (de_frz (de_lst (da_cons de_int (da_cons de_int (da_cons de_int (da_cons de_int (da_cons de_int (da_cons de_int da_nil))))))))) (blkOk_by (by kernel_rfl)) (by decide) (fun s1 H1 Cc1 cl1 fp1 => ⟨(dg_nm 16 hN rfl (.inl rfl)), dts_nil, (de_call tk0 d_walk_count.blk rfl (dr_cons .st (de_vs 8 (pv 8)) (dr_cons .st de_int (dr_cons .st de_int (dr_cons .st (de_vs 16 (pv 16)) dr_nil)))))⟩)) (de_lc (ow := [("late", 16)]) (P := (.nm 16)) rfl hN (di_list (de_frz (de_lst (da_cons de_int (da_cons de_int (da_cons de_int da_nil)))))) (blkOk_by (by kernel_rfl)) (by decide) (fun s1 H1 Cc1 cl1 fp1 => ⟨(dg_nm 16 hN rfl (.inl rfl)), dts_nil, (de_call tk0 d_walk_count.blk rfl (dr_cons .st (de_vs 9 (pv 9)) (dr_cons .st de_int (dr_cons .st de_int (dr_cons .st (de_vs 16 (pv 16)) dr_nil)))))⟩))) (de_lst (da_cons (de_call tk d_walk_count rfl (dr_cons .st (de_tup (da_cons de_int (da_cons (de_tup (da_cons (de_tup (da_cons de_int (da_cons de_int da_nil))) da_nil)) da_nil))) (dr_cons .st de_int (dr_cons .st de_int (dr_cons .st de_int dr_nil))))) da_nil))))) (dss_one (ds_ret (de_call tk d__law_says rfl (dr_cons .st (de_vs 3 (pv 3)) (dr_cons .st (de_frz (de_lst (da_cons de_int (da_cons de_int (da_cons de_int (da_cons de_int (da_cons de_int (da_cons de_int (da_cons de_int (da_cons de_int (da_cons de_int (da_cons de_int da_nil)))))))))))) dr_nil))))))))
end
end K02
end Tn

end

set_option Elab.async false
set_option linter.all false
set_option maxRecDepth 100000
set_option maxHeartbeats 4000000
namespace Tn.K02
open PySem PySem.Spec PyProof.Rows L2
open Builtin.Int (intBits)
variable {a : Ad} {M : Mem} {p : Addr} {wh n m : Int} {cs : List Int} {Q : D → Mem → Prop}
@[simp] theorem is_whole_int (i : Int) : G_is_whole a [.int i] M = .ok (.bl true) M := rfl
@[simp] theorem is_whole_bl (i : Bool) : G_is_whole a [.bl i] M = .ok (.bl false) M := rfl
@[simp] theorem is_whole_str (i : Str) : G_is_whole a [.str i] M = .ok (.bl false) M := rfl
@[simp] theorem is_whole_non : G_is_whole a [.non] M = .ok (.bl false) M := rfl
@[simp] theorem is_whole_tup (l : List D) : G_is_whole a [.tup l] M = .ok (.bl false) M := rfl
@[simp] theorem is_whole_lst (l : List D) : G_is_whole a [.lst l] M = .ok (.bl false) M := rfl
theorem is_tie_of (n : Int) (p : Int × Int) : G_is_tie_of a [.int n, tieD p] M = .ok (.bl (decide (0 ≤ p.1) && decide (p.1 ≤ p.2) && decide (p.2 < n))) M := by
  obtain ⟨x, y⟩ := p
  simp [G_is_tie_of, F_is_tie_of, tieD]
  by_cases h1 : 0 ≤ x <;> by_cases h2 : x ≤ y <;> simp [h1, h2]
theorem back_of (i : Int) : G_back_of a [.int i] M = .ok (.int (if i % 2 = 0 then i + 1 else i - 1)) M := by
  simp [G_back_of, F_back_of, dMod, fmod_pos]
  by_cases h : i % 2 = 0 <;> simp [h]
theorem law_back (i : Int) : G__law_back a [.int i] M = .ok (.int (i + 1 - 2 * (i % 2))) M := by
  have : IntMulOk 2 (i % 2) := IntMulOk.of_left (by decide)
  simp [G__law_back, F__law_back, dMod, fmod_pos, dMul, this]
theorem mixed (hl : cs.length ≤ 63) : ∃ r, G__law_mixed a [.ref p] (drM p M wh cs n) = .ok (.int r) (drM p M wh cs (n + 1)) := by
  have loop : ∀ (l : List Int) (r : Int) (d : D), ∃ r' d', forF (.nm 2) (sSeq (sSet 1 (eOp2 dMod (eB bInt [eOp2 dMul (eOp2 dAdd (eVar 1) (eVar 2)) (eC (.int 1099511628211))]) (eOp2 dSub (eOp2 dPow (eC (.int 2)) (eC (.int 61))) (eC (.int 1))))) (sSeq (sSet 1 (eOp2 dAdd (eVar 1) (eOp2 dDiv (eVar 1) (eOp2 dPow (eC (.int 2)) (eC (.int 17)))))) sNil)) (l.map .int) [.ref p, .int r, d] (drM p M wh cs (n + 1)) = .ok (.nx [.ref p, .int r', d']) (drM p M wh cs (n + 1)) := by
    intro l
    induction l with
    | nil => intro r d; exact ⟨r, d, rfl⟩
    | cons x l ih =>
      intro r d
      obtain ⟨r', d', e⟩ := ih ((r + x) * 1099511628211 % 2305843009213693951 + (r + x) * 1099511628211 % 2305843009213693951 / 131072) (.int x)
      refine ⟨r', d', ?_⟩
      simp [dMul_r (show Builtin.Int.intBits 1099511628211 ≤ 64 by decide), bInt, dMod_s, dDiv_s, e]
  obtain ⟨r, d, e⟩ := loop (cs ++ [n + 1]) (1469598103934665603 + 97 * (n + 1)) .und
  refine ⟨r, ?_⟩
  simp [G__law_mixed, F__law_mixed, sDput, dMul_l (show Builtin.Int.intBits 97 ≤ 64 by decide)]
  have hz : cs.length + 1 ≤ sizeLine := Nat.le_trans (show cs.length + 1 ≤ 64 by omega) (by decide)
  have e' := e
  rw [List.map_append] at e'
  simp only [List.map_cons, List.map_nil] at e'
  rw [if_pos hz, e']
  simp
/-- a drawn number -/
theorem take (hl : cs.length ≤ 63) {amt : Int} (h1 : 1 ≤ amt) (h2 : amt ≤ 1125899906842624) : ∃ r wh' n', G__law_take a [.ref p, .int amt] (drM p M wh cs n) = .ok (.int r) (drM p M wh' cs n') ∧ 0 ≤ r ∧ r < amt := by
  by_cases ha : amt < 2
  · exact ⟨0, wh, n, by simp [G__law_take, F__law_take, ha], by omega, by omega⟩
  · have hpos : 0 < amt := by omega
    by_cases hw : 0 < wh
    · refine ⟨wh % amt, wh / amt, n, ?_, Int.emod_nonneg _ (by omega), Int.emod_lt_of_pos _ hpos⟩
      simp [G__law_take, F__law_take, ha, hw, bInt, dMod_s hpos, dDiv_s hpos (by omega), sDput]
    · obtain ⟨r, e⟩ := mixed (a := a) (M := M) (p := p) (wh := wh) (n := n) hl
      refine ⟨r / 1024 % amt, wh, n + 1, ?_, Int.emod_nonneg _ (by omega), Int.emod_lt_of_pos _ hpos⟩
      have hng : ¬ (1125899906842624 < amt) := by omega
      have hwl : sWhl (tAn (tOf dBl (eOp2 dGt (eVar 1) (eOp2 dPow (eC (.int 2)) (eC (.int 50))))) (tOf dBl (eOp2 dLt (eVar 2) (eOp2 dMul (eVar 1) (eVar 1))))) (sSeq (sSet 2 (eOp2 dAdd (eOp2 dMul (eVar 2) (eOp2 dPow (eC (.int 2)) (eC (.int 61)))) (eCall (G__law_mixed a) [(eVar 0)]))) sNil) [.ref p, .int amt, .int r] (drM p M wh cs (n + 1)) = .ok (.nx [.ref p, .int amt, .int r]) (drM p M wh cs (n + 1)) := by
        refine sWhl_eq (n := 1) ?_ (by simp)
        simp [whileF, hng]
      simp [G__law_take, F__law_take, ha, hw, e, hwl, bInt, dMod_s hpos, dDiv_s]
/-- a drawn one of a list -/
theorem pick (hl : cs.length ≤ 63) {l : List D} (h0 : l ≠ []) (h2 : l.length ≤ 1000) : ∃ (i : Nat) (d : D) (wh' n' : Int), G__law_pick a [.ref p, .lst l] (drM p M wh cs n) = .ok d (drM p M wh' cs n') ∧ l[i]? = some d := by
  have hlen : 0 < l.length := List.length_pos_iff.mpr h0
  obtain ⟨r, wh', n', e, h3, h4⟩ := take (a := a) (M := M) (p := p) (wh := wh) (n := n) hl (amt := (l.length : Int)) (by omega) (by omega)
  obtain ⟨k, rfl⟩ := Int.eq_ofNat_of_zero_le h3
  have hk : k < l.length := by omega
  refine ⟨k, l[k], wh', n', ?_, List.getElem?_eq_getElem hk⟩
  simp [G__law_pick, F__law_pick, e, dIx_lst (List.getElem?_eq_getElem hk)]
theorem is_web_of {w : Web} (h : WebOk w) : G_is_web_of a [webD w] M = .ok (.bl true) M := by
  obtain ⟨n, ts⟩ := w
  obtain ⟨h1, h2, h3, h4, h5⟩ := h
  have hlc : lcF (t1F (.nm 3) tNo (eCall (G_is_tie_of a) [eVar 1, eVar 3]) [.tup [.int n, .tup (ts.map tieD)], .int n, .tup (ts.map tieD), .und]) (ts.map tieD) M = .ok (ts.map fun _ => .bl true) M := by
    refine lcF_map fun t ht => ?_
    obtain ⟨a1, a2, a3⟩ := h4 t ht
    simp only at a1 a2 a3
    have e := is_tie_of (a := a) (M := M) n t
    simp only [a1, a2, a3, decide_true, Bool.and_self] at e
    simp [t1F, elF, tNo, e, isU_tie]
  have hmap : (ts.map fun _ => D.bl true) = List.replicate ts.length (.bl true) := List.map_const'
  simp only at h1 h2 h3 h5
  have hz : ts.length ≤ sizeLine := Nat.le_trans (show ts.length ≤ 1000 by omega) (by decide)
  have hf : dEq (.lst (ts.map tieD)) (.lst (ts.map tieD)) = some (.bl true) := dEq_refl (flats_map flat_tie ts) (by
    show deps (ts.map tieD) + 1 ≤ 64
    have := deps_map (f := tieD) (k := 1) (fun x => Nat.le_of_eq (dep_tie x)) ts
    omega)
  simp [G_is_web_of, F_is_web_of, webD, eLC, wipeE, hlc, hmap, all_true, sorted_tiesT, merge_srt h5, bList, hf, hz, h1, show ¬ (8 : Int) < n by omega, show ¬ (14 : Int) < ts.length by omega]
theorem need_web {w : Web} (h : WebOk w) (s : Str) : G_need_web a [webD w, .str s] M = .ok .non M := by
  simp [G_need_web, F_need_web, is_web_of h]
theorem need_length {i : Int} (h1 : 1 ≤ i) (h2 : i ≤ 200) : G_need_length a [.int i, .int 1, .int 200] M = .ok .non M := by
  simp [G_need_length, F_need_length, h1, show ¬ 200 < i by omega]
theorem ways_by (w : Web) (hl : w.2.length ≤ 1000) : G_ways_by a [webD w] M = .ok (.lst ((waysL w.2).map tieD)) M := by
  have loop : ∀ (ts : List (Int × Int)) (l : List D) (d1 d2 : D), l.length + 2 * ts.length ≤ 2000 → ∃ d1' d2', forF (.tup [.nm 2, .nm 3]) (sSeq (sExt 1 (eLst [eTup [eVar 2, eVar 3], eTup [eVar 3, eVar 2]])) sNil) (ts.map tieD) [webD w, .lst l, d1, d2] M = .ok (.nx [webD w, .lst (l ++ (waysL ts).map tieD), d1', d2']) M := by
    intro ts
    induction ts with
    | nil => intro l d1 d2 _; exact ⟨d1, d2, by simp [waysL]⟩
    | cons t ts ih =>
      intro l d1 d2 hl
      simp only [List.length_cons] at hl
      obtain ⟨d1', d2', e⟩ := ih (l ++ [tieD t, tieD (t.2, t.1)]) (.int t.1) (.int t.2) (by simp; omega)
      refine ⟨d1', d2', ?_⟩
      have hz : l.length + 2 ≤ sizeLine := Nat.le_trans (show l.length + 2 ≤ 2000 by omega) (by decide)
      have e' : (l ++ [tieD t, tieD (t.2, t.1)]) ++ (waysL ts).map tieD = l ++ (waysL (t :: ts)).map tieD := by simp [waysL]
      rw [e'] at e
      rw [← e]
      simp [sExt, hz, tieD]
  obtain ⟨d1, d2, e⟩ := loop w.2 [] .und .und (by simp; omega)
  simp [G_ways_by, F_ways_by, e]
theorem law_pairs (w : Web) (hl : w.2.length ≤ 1000) : G__law_pairs a [webD w] M = .ok (.lst ((waysL w.2).map tieD)) M := by
  have loop : ∀ (ts : List (Int × Int)) (l : List D) (d1 d2 : D), l.length + 2 * ts.length ≤ 2000 → ∃ d1' d2', forF (.tup [.nm 2, .nm 3]) (sSeq (sSet 1 (eOp2 dAdd (eVar 1) (eLst [eTup [eVar 2, eVar 3], eTup [eVar 3, eVar 2]]))) sNil) (ts.map tieD) [webD w, .lst l, d1, d2] M = .ok (.nx [webD w, .lst (l ++ (waysL ts).map tieD), d1', d2']) M := by
    intro ts
    induction ts with
    | nil => intro l d1 d2 _; exact ⟨d1, d2, by simp [waysL]⟩
    | cons t ts ih =>
      intro l d1 d2 hl
      simp only [List.length_cons] at hl
      obtain ⟨d1', d2', e⟩ := ih (l ++ [tieD t, tieD (t.2, t.1)]) (.int t.1) (.int t.2) (by simp; omega)
      refine ⟨d1', d2', ?_⟩
      have hz : l.length + 2 ≤ sizeLine := Nat.le_trans (show l.length + 2 ≤ 2000 by omega) (by decide)
      have e' : (l ++ [tieD t, tieD (t.2, t.1)]) ++ (waysL ts).map tieD = l ++ (waysL (t :: ts)).map tieD := by simp [waysL]
      rw [e'] at e
      rw [← e]
      simp [hz, tieD]
  obtain ⟨d1, d2, e⟩ := loop w.2 [] .und .und (by simp; omega)
  simp [G__law_pairs, F__law_pairs, e]
theorem follows_in (ps : List (Int × Int)) (i : Nat) (w f x5 x6 : D) (hz : ps.length ≤ 1000) :
    eLC [5, 6] (.tup [.nm 5, .nm 6]) (iA rEn1 [eVar 1]) (tAn (tOf dBl (eOp2 dEq (eIx (eVar 6) (eC (.int 0))) (eIx (eVar 4) (eC (.int 1))))) (tOf dBl (eOp2 dNe (eVar 5) (eCall (G_back_of a) [eVar 3])))) (eVar 5) [w, .lst (ps.map tieD), f, .int (i : Nat), tieD (nth ps i), x5, x6] M = .ok (.lst ((folL ps i).map natD)) M := by
  have h : lcF (t1F (.tup [.nm 5, .nm 6]) (tAn (tOf dBl (eOp2 dEq (eIx (eVar 6) (eC (.int 0))) (eIx (eVar 4) (eC (.int 1))))) (tOf dBl (eOp2 dNe (eVar 5) (eCall (G_back_of a) [eVar 3])))) (eVar 5) [w, .lst (ps.map tieD), f, .int (i : Nat), tieD (nth ps i), .und, .und])
      ((List.range ps.length).map fun j => .tup [.int (j : Nat), tieD (nth ps j)]) M = .ok (((List.range ps.length).filter (fol ps i)).map natD) M := by
    refine lcF_flt fun j hj => ?_
    simp [t1F, elF, back_of, bk_int, fol, natD]
    by_cases h1 : (nth ps j).1 = (nth ps i).2 <;> by_cases h2 : j = bk i <;> simp [h1, h2] <;> omega
  have hz2 : (folL ps i).length ≤ sizeLine := Nat.le_trans (Nat.le_trans (List.length_filter_le _ _) (by simpa using hz)) (by decide)
  have hz3 : ((folL ps i).map natD).length ≤ sizeLine := by rw [List.length_map]; exact hz2
  simp only [eLC, rEn1, iA, eArgs, wipeE, List.set_cons_succ, List.set_cons_zero]
  simp [enD_map, h]
  exact if_pos hz2
theorem follows_by (w : Web) (hl : w.2.length ≤ 500) : G_follows_by a [webD w] M = .ok (.lst (follD (waysL w.2))) M := by
  have hz : (waysL w.2).length ≤ 1000 := by rw [waysL_len]; omega
  generalize hps : waysL w.2 = ps at hz
  have loop : ∀ (l : List Nat) (acc : List D) (d3 d4 d5 d6 : D), acc.length + l.length ≤ 1000 → ∃ d3' d4' d5' d6', forF (.tup [.nm 3, .nm 4]) (sSeq (sApp 2 (eLC [5, 6] (.tup [.nm 5, .nm 6]) (iA rEn1 [eVar 1]) (tAn (tOf dBl (eOp2 dEq (eIx (eVar 6) (eC (.int 0))) (eIx (eVar 4) (eC (.int 1))))) (tOf dBl (eOp2 dNe (eVar 5) (eCall (G_back_of a) [eVar 3])))) (eVar 5))) sNil)
      (l.map fun j => .tup [.int (j : Nat), tieD (nth ps j)]) [webD w, .lst (ps.map tieD), .lst acc, d3, d4, d5, d6] M = .ok (.nx [webD w, .lst (ps.map tieD), .lst (acc ++ l.map fun i => .lst ((folL ps i).map natD)), d3', d4', d5', d6']) M := by
    intro l
    induction l with
    | nil => intro acc d3 d4 d5 d6 _; exact ⟨d3, d4, d5, d6, by simp⟩
    | cons i l ih =>
      intro acc d3 d4 d5 d6 hl
      simp only [List.length_cons] at hl
      obtain ⟨e3, e4, e5, e6, e⟩ := ih (acc ++ [.lst ((folL ps i).map natD)]) (.int (i : Nat)) (tieD (nth ps i)) d5 d6 (by simp; omega)
      refine ⟨e3, e4, e5, e6, ?_⟩
      have hz2 : acc.length < sizeLine := Nat.lt_of_le_of_lt (show acc.length ≤ 1000 by omega) (by decide)
      have fi := follows_in (a := a) (M := M) ps i (webD w) (.lst acc) d5 d6 hz
      have e' : (acc ++ [D.lst ((folL ps i).map natD)]) ++ (l.map fun i => .lst ((folL ps i).map natD)) = acc ++ ((i :: l).map fun i => .lst ((folL ps i).map natD)) := by simp
      rw [e'] at e
      rw [← e]
      simp [sApp, fi, hz2]
  obtain ⟨e3, e4, e5, e6, e⟩ := loop (List.range ps.length) [] .und .und .und .und (by simpa using hz)
  have wb := ways_by (a := a) (M := M) w (by omega)
  rw [hps] at wb
  simp [G_follows_by, F_follows_by, wb, rEn1, enD_map, e, follD]
theorem lfollows_in (ps : List (Int × Int)) (i : Nat) (w x2 : D) (hz : ps.length ≤ 1000) :
    eLC [2] (.nm 2) (iA rR1 [eB bLen [eVar 1]]) (tAn (tOf dBl (eOp2 dEq (eIx (eIx (eVar 1) (eVar 2)) (eC (.int 0))) (eIx (eVar 4) (eC (.int 1))))) (tOf dBl (eOp2 dNe (eVar 2) (eCall (G__law_back a) [eVar 3])))) (eVar 2) [w, .lst (ps.map tieD), x2, .int (i : Nat), tieD (nth ps i)] M = .ok (.lst ((folL ps i).map natD)) M := by
  have hb : ((i : Int) + 1 - 2 * ((i : Int) % 2)) = (bk i : Nat) := by
    unfold bk
    split <;> omega
  have h : lcF (t1F (.nm 2) (tAn (tOf dBl (eOp2 dEq (eIx (eIx (eVar 1) (eVar 2)) (eC (.int 0))) (eIx (eVar 4) (eC (.int 1))))) (tOf dBl (eOp2 dNe (eVar 2) (eCall (G__law_back a) [eVar 3])))) (eVar 2) [w, .lst (ps.map tieD), .und, .int (i : Nat), tieD (nth ps i)])
      ((List.range ps.length).map natD) M = .ok (((List.range ps.length).filter (fol ps i)).map natD) M := by
    refine lcF_flt fun j hj => ?_
    have hj : j < ps.length := List.mem_range.mp hj
    have hix : dIx (.lst (ps.map tieD)) (.int (j : Nat)) = some (tieD (nth ps j)) := dIx_lst (by rw [List.getElem?_map, nth_get hj]; rfl)
    simp [t1F, elF, law_back, hb, fol, natD, hix]
    by_cases h1 : (nth ps j).1 = (nth ps i).2 <;> by_cases h2 : j = bk i <;> simp [h1, h2] <;> omega
  have hz2 : (folL ps i).length ≤ sizeLine := Nat.le_trans (Nat.le_trans (List.length_filter_le _ _) (by simpa using hz)) (by decide)
  have hr : rR1 [.int (ps.length : Nat)] = some ((List.range ps.length).map natD) :=
    rR1_nat (by omega)
  exact eLC_eq (iA_eq (by simp) hr) h (by rw [List.length_map]; exact hz2)
theorem x1 (ps : List (Int × Int)) (w : Web) (hz : ps.length ≤ 1000) : lcF (t1F (.tup [.nm 3, .nm 4]) tNo (eLC [2] (.nm 2) (iA rR1 [eB bLen [eVar 1]]) (tAn (tOf dBl (eOp2 dEq (eIx (eIx (eVar 1) (eVar 2)) (eC (.int 0))) (eIx (eVar 4) (eC (.int 1))))) (tOf dBl (eOp2 dNe (eVar 2) (eCall (G__law_back a) [eVar 3])))) (eVar 2)) [webD w, .lst (ps.map tieD), .und, .und, .und])
      ((List.range ps.length).map fun j => .tup [.int (j : Nat), tieD (nth ps j)]) M = .ok ((List.range ps.length).map fun i => .lst ((folL ps i).map natD)) M :=
  lcF_map (f := fun j => .tup [.int (j : Nat), tieD (nth ps j)]) (g := fun i => .lst ((folL ps i).map natD)) fun i _ => turn_x ps i (webD w) .und .und _ _ (lfollows_in ps i (webD w) .und hz)
theorem law_follows (w : Web) (hl : w.2.length ≤ 500) : G__law_follows a [webD w] M = .ok (.lst (follD (waysL w.2))) M := by
  have hz : (waysL w.2).length ≤ 1000 := by rw [waysL_len]; omega
  generalize hps : waysL w.2 = ps at hz
  have wb := law_pairs (a := a) (M := M) w (by omega)
  rw [hps] at wb
  have h := x1 (a := a) (M := M) ps w hz
  have hz2 : ps.length ≤ sizeLine := Nat.le_trans hz (by decide)
  have hI : iA rEn1 [(eVar 1)] [webD w, .lst (ps.map tieD), .und, .und, .und] M = .ok ((List.range ps.length).map fun j => .tup [.int (j : Nat), tieD (nth ps j)]) M := iA_eq (ds := [.lst (ps.map tieD)]) (by simp) (by simp [rEn1, enD_map])
  have e := eLC_eq (vs := [3, 4]) hI h (by simpa using hz2)
  have e1 : sSet 1 (eCall (G__law_pairs a) [eVar 0]) [webD w, .und, .und, .und, .und] M = .ok (.nx [webD w, .lst (ps.map tieD), .und, .und, .und]) M := by simp [wb]
  unfold G__law_follows F__law_follows
  rw [fnF_eq]
  simp only [List.length_cons, List.length_nil, Nat.zero_add, Nat.add_one_sub_one, List.replicate_succ, List.replicate_zero, List.cons_append, List.nil_append, Nat.reduceSub, sSeq, e1, Res.bind_ok, sNx, sRet, e, fnK]
  rfl
theorem led_on {n : Nat} {fs : Nat → List Nat} (hn : n ≤ 1000) (hf : ∀ i < n, ∀ j ∈ fs i, j < n) (cs : List Int) (hc : ∀ i, 0 ≤ nth cs i) (hl : cs.length = n) : G_led_on a [.lst (folD n fs), .lst (cs.map .int)] M = .ok (.lst ((ledL n fs cs).map .int)) M := by
  obtain ⟨y3, y4, y5, e⟩ := led_loop (M := M) hf cs hc (List.range n) (List.replicate n 0) .und .und .und (by simp) fun i hi => List.mem_range.mp hi
  unfold G_led_on F_led_on
  refine fnF_rt (sSeq_eq (e11 hn) (sSeq_eq ((sFor_eq (hI1 cs hl)).trans e) ?_))
  rw [ledL, hl]
  rfl
theorem law_led {n : Nat} {fs : Nat → List Nat} (hn : n ≤ 1000) (hf : ∀ i < n, ∀ j ∈ fs i, j < n) (cs : List Int) (hl : cs.length = n) : G__law_led a [.lst (folD n fs), .lst (cs.map .int)] M = .ok (.lst ((ledL n fs cs).map .int)) M := by
  obtain ⟨y3, y4, y5, e⟩ := lled_loop (M := M) hf cs (List.range n) (List.replicate n 0) .und .und .und (by simp) fun i hi => List.mem_range.mp hi
  unfold G__law_led F__law_led
  refine fnF_rt (sSeq_eq (e11 hn) (sSeq_eq ((sFor_eq (hI1 cs hl)).trans e) ?_))
  rw [ledL, hl]
  rfl
theorem counts_in {n : Nat} {fs : Nat → List Nat} (hn : n ≤ 1000) (hf : ∀ i < n, ∀ j ∈ fs i, j < n) (w most : D) (way : Nat) (hw : way < n) (x7 : D) : ∀ (ats : List Nat) (found cs : List Int) (x6 : D), cs.length = n → (∀ i, 0 ≤ nth cs i) → (∀ t ∈ ats, t < found.length) → ∃ x6',
    forF (.nm 6) (sSeq (sSet 5 (eCall (G_led_on a) [(eVar 3), (eVar 5)])) (sSeq (sAput 4 (eVar 6) (eIx (eVar 5) (eVar 2))) sNil)) (ats.map natD) [w, most, natD way, .lst (folD n fs), .lst (found.map .int), .lst (cs.map .int), x6, x7] M
      = .ok (.nx [w, most, natD way, .lst (folD n fs), .lst ((ats.foldl (stp n fs way) (cs, found)).2.map .int), .lst ((ats.foldl (stp n fs way) (cs, found)).1.map .int), x6', x7]) M
  | [], found, cs, x6, _, _, _ => ⟨x6, rfl⟩
  | t :: ats, found, cs, x6, hl, hc, ht => by
    have htl := ht t List.mem_cons_self
    obtain ⟨x6', e⟩ := counts_in hn hf w most way hw x7 ats (addAt found t (nth (ledL n fs cs) way)) (ledL n fs cs) (natD t) (ledL_len cs) (ledL_pos hc) fun k hk => by rw [addAt_len]; exact ht k (List.mem_cons_of_mem _ hk)
    refine ⟨x6', ?_⟩
    have l1 := led_on (a := a) (M := M) hn hf cs hc hl
    have h1 : dIx (.lst ((ledL n fs cs).map .int)) (.int (way : Nat)) = some (.int (nth (ledL n fs cs) way)) := ix_ints (by rw [ledL_len]; exact hw)
    have h2 := ix_ints htl
    have h3 := put_nat (ds := found.map .int) (d := .int (nth found t + nth (ledL n fs cs) way)) (by simpa using htl)
    rw [map_addAt] at h3
    have b1 : sSet 5 (eCall (G_led_on a) [(eVar 3), (eVar 5)]) [w, most, natD way, .lst (folD n fs), .lst (found.map .int), .lst (cs.map .int), .int (t : Nat), x7] M = .ok (.nx [w, most, natD way, .lst (folD n fs), .lst (found.map .int), .lst ((ledL n fs cs).map .int), .int (t : Nat), x7]) M :=
      sSet_eq (eCall_eq (ds := [.lst (folD n fs), .lst (cs.map .int)]) (by simp) l1)
    have b2 : sAput 4 (eVar 6) (eIx (eVar 5) (eVar 2)) [w, most, .int (way : Nat), .lst (folD n fs), .lst (found.map .int), .lst ((ledL n fs cs).map .int), .int (t : Nat), x7] M = .ok (.nx [w, most, .int (way : Nat), .lst (folD n fs), .lst ((addAt found t (nth (ledL n fs cs) way)).map .int), .lst ((ledL n fs cs).map .int), .int (t : Nat), x7]) M := by
      simp [sAput, h1, h2, onII, h3]
    rw [List.foldl_cons, List.map_cons]
    exact forF_cons (by rw [bindP]; rfl) (sSeq_eq b1 (sNil_eq b2)) e
theorem lcounts_in {n : Nat} {fs : Nat → List Nat} (hn : n ≤ 1000) (hf : ∀ i < n, ∀ j ∈ fs i, j < n) (w most : D) (way : Nat) (hw : way < n) : ∀ (ats : List Nat) (found cs : List Int) (x6 : D), cs.length = n → (∀ t ∈ ats, t < found.length) → ∃ x6',
    forF (.nm 6) (sSeq (sSet 5 (eCall (G__law_led a) [(eVar 3), (eVar 5)])) (sSeq (sPut 4 (eVar 6) (eOp2 dAdd (eIx (eVar 4) (eVar 6)) (eIx (eVar 5) (eVar 2)))) sNil)) (ats.map natD) [w, most, natD way, .lst (folD n fs), .lst (found.map .int), .lst (cs.map .int), x6] M
      = .ok (.nx [w, most, natD way, .lst (folD n fs), .lst ((ats.foldl (stp n fs way) (cs, found)).2.map .int), .lst ((ats.foldl (stp n fs way) (cs, found)).1.map .int), x6']) M
  | [], found, cs, x6, _, _ => ⟨x6, rfl⟩
  | t :: ats, found, cs, x6, hl, ht => by
    have htl := ht t List.mem_cons_self
    obtain ⟨x6', e⟩ := lcounts_in hn hf w most way hw ats (addAt found t (nth (ledL n fs cs) way)) (ledL n fs cs) (natD t) (ledL_len cs) fun k hk => by rw [addAt_len]; exact ht k (List.mem_cons_of_mem _ hk)
    refine ⟨x6', ?_⟩
    have l1 := law_led (a := a) (M := M) hn hf cs hl
    have h1 : dIx (.lst ((ledL n fs cs).map .int)) (.int (way : Nat)) = some (.int (nth (ledL n fs cs) way)) := ix_ints (by rw [ledL_len]; exact hw)
    have h2 := ix_ints htl
    have h3 := put_nat (ds := found.map .int) (d := .int (nth found t + nth (ledL n fs cs) way)) (by simpa using htl)
    rw [map_addAt] at h3
    have b1 : sSet 5 (eCall (G__law_led a) [(eVar 3), (eVar 5)]) [w, most, natD way, .lst (folD n fs), .lst (found.map .int), .lst (cs.map .int), .int (t : Nat)] M = .ok (.nx [w, most, natD way, .lst (folD n fs), .lst (found.map .int), .lst ((ledL n fs cs).map .int), .int (t : Nat)]) M :=
      sSet_eq (eCall_eq (ds := [.lst (folD n fs), .lst (cs.map .int)]) (by simp) l1)
    have b2 : sPut 4 (eVar 6) (eOp2 dAdd (eIx (eVar 4) (eVar 6)) (eIx (eVar 5) (eVar 2))) [w, most, .int (way : Nat), .lst (folD n fs), .lst (found.map .int), .lst ((ledL n fs cs).map .int), .int (t : Nat)] M = .ok (.nx [w, most, .int (way : Nat), .lst (folD n fs), .lst ((addAt found t (nth (ledL n fs cs) way)).map .int), .lst ((ledL n fs cs).map .int), .int (t : Nat)]) M := by
      simp [sPut, h1, h2, h3]
    rw [List.foldl_cons, List.map_cons]
    exact forF_cons (by rw [bindP]; rfl) (sSeq_eq b1 (sNil_eq b2)) e
theorem kinds {d : D} (h1 : flat d = true) (h2 : dep d ≤ 63) (h3 : nod d ≤ 100000) : G__law_kinds a [d] M = .ok (.lst ((kindL d).map .str)) M := by
  obtain ⟨y3, y4, e⟩ := kinds_loop (M := M) (nod d) [d] [] d .und .und (by simp [nods]) (by simpa [nods] using h3) (by simpa [flats] using h1) (by simpa [deps] using h2)
  have e2 := sWhl_eq e (by simp)
  have hd : isU d = false := by cases d <;> simp [flat] at h1 <;> rfl
  simp only [kindLs, List.nil_append] at e2
  have hF : F__law_kinds a = (sSeq (sPar 1 2 (eLst []) (eLst [(eVar 0)])) (sSeq (sWhl kA kB) (sRet (eVar 1)))) := rfl
  unfold G__law_kinds
  rw [hF]
  simp [hd] at e2 ⊢
  simp [e2]
theorem says {d : D} (h1 : flat d = true) (h2 : dep d ≤ 63) (h3 : nod d ≤ 100000) : G__law_says a [d, d] M = .ok (.bl true) M := by
  have hd : isU d = false := by cases d <;> simp [flat] at h1 <;> rfl
  have e1 : dEq (.lst ((kindL d).map .str)) (.lst ((kindL d).map .str)) = some (.bl true) := dEq_refl (by simp only [flat]; exact flats_strs _ (kindL_ok d)) (by simp [dep, deps_strs])
  have e2 : dEq d d = some (.bl true) := dEq_refl h1 (by omega)
  simp [G__law_says, F__law_says, hd, kinds h1 h2 h3, e1, e2]
theorem begun {ns : List Int} (hl : ns.length ≤ 63) (hb : ∀ z ∈ ns, intBits z ≤ 1048576) : ∃ wh, G__law_begun a [.scr (ns.map .int)] M = .ok (.dct drK (drV wh ns 0)) M := by
  obtain ⟨wh, d, e⟩ := begun_loop (M := M) ns (.scr (ns.map .int)) .und 0 [] 0 (by decide) (by omega) (by simpa using hl) hb
  refine ⟨wh, ?_⟩
  simp [G__law_begun, F__law_begun] at e ⊢
  have s1 : (("whole" : Str) == ("cells" : Str)) = false := by decide +kernel
  have s2 : (("whole" : Str) == ("count" : Str)) = false := by decide +kernel
  have s3 : (("cells" : Str) == ("count" : Str)) = false := by decide +kernel
  simp [e, eDisp, dsP, dPutK, dPutV, kD, keyB, s1, s2, s3, drK, drV]
theorem wp_take (hl : cs.length ≤ 63) {amt : Int} (h1 : 1 ≤ amt) (h2 : amt ≤ 1000000) (h : ∀ (r : Nat) wh' n', (r : Int) < amt → Q (.int (r : Nat)) (drM p M wh' cs n')) : (G__law_take a [.ref p, .int amt] (drM p M wh cs n)).wp Q := by
  obtain ⟨r, wh', n', e, h3, h4⟩ := take (a := a) (M := M) (p := p) (wh := wh) (n := n) hl h1 (by omega)
  obtain ⟨k, rfl⟩ := Int.eq_ofNat_of_zero_le h3
  exact Res.wp_of e (h k wh' n' h4)
theorem wp_pick (hl : cs.length ≤ 63) {α : Type} {en : α → D} {l : List α} (h0 : l ≠ []) (h2 : l.length ≤ 1000) (h : ∀ x ∈ l, ∀ wh' n', Q (en x) (drM p M wh' cs n')) : (G__law_pick a [.ref p, .lst (l.map en)] (drM p M wh cs n)).wp Q := by
  obtain ⟨i, d, wh', n', e, h3⟩ := pick (a := a) (M := M) (p := p) (wh := wh) (n := n) hl (l := l.map en) (by simpa using h0) (by simpa using h2)
  rw [List.getElem?_map] at h3
  obtain ⟨x, h4, rfl⟩ := Option.map_eq_some_iff.mp h3
  exact Res.wp_of e (h x (List.mem_of_getElem? h4) wh' n')
theorem wp_pickI (hl : cs.length ≤ 63) (l : List Int) (h0 : l ≠ []) (h2 : l.length ≤ 1000) (h : ∀ x ∈ l, ∀ wh' n', Q (.int x) (drM p M wh' cs n')) : (G__law_pick a [.ref p, .lst (l.map .int)] (drM p M wh cs n)).wp Q := wp_pick hl h0 h2 h
theorem wp_great_web (hl : cs.length ≤ 63) (h : ∀ w wh' n', WebOk w → Q (webD w) (drM p M wh' cs n')) : (G__law_great_web a [.ref p] (drM p M wh cs n)).wp Q := by
  unfold G__law_great_web F__law_great_web
  simp
  refine wp_pickI hl [5, 6, 7, 8, 8] (by simp) (by simp) fun pl hpl wh1 n1 => ?_
  refine wp_pickI hl [8, 10, 13, 14, 14] (by simp) (by simp) fun mn hmn wh2 n2 => ?_
  have p1 : 1 ≤ pl ∧ pl ≤ 8 := by simp at hpl; omega
  have p2 : 0 ≤ mn ∧ mn ≤ 14 := by simp at hmn; omega
  rw [rR1_int (by omega) (by omega)]
  simp
  obtain ⟨Inv, hInv⟩ : ∃ Inv : Nat → Env → Mem → Prop, ∀ i η m, Inv i η m ↔ ∃ ts x2 x5 x6 wh' n', η = [.ref p, .lst (ts.map tieD), x2, .int pl, .int mn, x5, x6] ∧ m = drM p M wh' cs n' ∧ TiesIn pl ts ∧ ts.length = i := ⟨_, fun _ _ _ => Iff.rfl⟩
  refine wp_forF (i := 0) (Inv := Inv) ?_ ?_ ?_
  · exact (hInv _ _ _).mpr ⟨[], .und, .und, .und, wh2, n2, rfl, rfl, (fun _ h => nomatch h), rfl⟩
  · intro j d η m hd hi
    obtain ⟨ts, x2, x5, x6, wh', n', rfl, rfl, h5, h6⟩ := (hInv _ _ _).mp hi
    have hj : j < mn.toNat := by
      have := (List.getElem?_eq_some_iff.mp hd).1
      simpa using this
    have hu : isU d = false := by
      rw [List.getElem?_map] at hd
      obtain ⟨x, _, rfl⟩ := Option.map_eq_some_iff.mp hd
      rfl
    refine ⟨_, rfl, ?_⟩
    simp
    refine wp_take hl (by omega) (by omega) fun r1 wh3 n3 hr1 => ?_
    try simp
    refine wp_take hl (by omega) (by omega) fun r2 wh4 n4 hr2 => ?_
    have hz : ts.length < sizeLine := lt_line (by omega)
    simp [sApp, bMin, bMax, hz]
    refine (hInv _ _ _).mpr ⟨ts ++ [(min (r1 : Int) r2, max (r1 : Int) r2)], _, _, _, _, _, by simp [tieD]; exact ⟨rfl, rfl, rfl⟩, rfl, ?_, by simp [h6]⟩
    intro t ht
    rcases List.mem_append.mp ht with ht | ht
    · exact h5 t ht
    · rw [List.mem_singleton.mp ht]
      simp only
      omega
  · intro η m hi
    obtain ⟨ts, x2, x5, x6, wh', n', rfl, rfl, h5, h6⟩ := (hInv _ _ _).mp hi
    simp at h6
    simp [ties_sorted, bTuple]
    exact h (pl, ts.mergeSort tle) wh' n' (tle_merge_ok (by omega) (by omega) (by omega) h5)
theorem wp_web (hl : cs.length ≤ 63) (h : ∀ w wh' n', WebOk w → w.1 ≤ 5 → w.2.length ≤ 7 → Q (webD w) (drM p M wh' cs n')) : (G__law_web a [.ref p] (drM p M wh cs n)).wp Q := by
  refine wpf fun K0 k0 _ => wps fun K k _ => ?_
  simp
  refine wp_pickI hl [1, 1, 2, 2, 3, 3, 4, 4, 5] (by simp) (by simp) fun pl hpl wh1 n1 => ?_
  refine wp_pickI hl [0, 1, 2, 3, 4, 5, 6, 7] (by simp) (by simp) fun mn hmn wh2 n2 => ?_
  have p1 : 1 ≤ pl ∧ pl ≤ 5 := by simp at hpl; omega
  have p2 : 0 ≤ mn ∧ mn ≤ 7 := by simp at hmn; omega
  clear hpl hmn
  refine k _ _ (wps fun K k _ => ?_)
  simp
  obtain ⟨J, hJ⟩ : ∃ J : Env → Mem → Prop, ∀ η m, J η m ↔ ∃ ts wh' n' x7, η = [.ref p, .lst (ts.map tieD), .und, .int pl, .int mn, .und, .und, x7] ∧ m = drM p M wh' cs n' ∧ TiesIn pl ts ∧ ts.length ≤ 5 := ⟨_, fun _ _ => Iff.rfl⟩
  refine k _ _ (wps fun K k _ => wpi fun T t f => ?_)
  simp
  refine wp_take hl (by omega) (by omega) fun r0 wh3 n3 hr0 => ?_
  have mid : ∀ η m, J η m → K (.nx η) m := fun η m hj => by
    obtain ⟨ts, wh', n', x7, rfl, rfl, h5, h6⟩ := (hJ _ _).mp hj
    clear t f hJ hj
    refine k _ _ (wps fun K k _ => ?_)
    have hI : iA rR1 [eOp2 dSub (eVar 4) (eB bLen [eVar 1])] [.ref p, .lst (ts.map tieD), .und, .int pl, .int mn, .und, .und, x7] (drM p M wh' cs n') = .ok ((List.range (mn - ts.length).toNat).map natD) (drM p M wh' cs n') :=
      iA_eq (ds := [.int (mn - ts.length)]) (by simp) (rR1_int (by omega) (by omega))
    obtain ⟨Inv, hInv⟩ : ∃ Inv : Nat → Env → Mem → Prop, ∀ i η m, Inv i η m ↔ ∃ ts' x2 x5 x6 x7 wh' n', η = [.ref p, .lst (ts'.map tieD), x2, .int pl, .int mn, x5, x6, x7] ∧ m = drM p M wh' cs n' ∧ TiesIn pl ts' ∧ ts'.length = ts.length + i := ⟨_, fun _ _ _ => Iff.rfl⟩
    refine wpfor hI Inv ((hInv _ _ _).mpr ⟨ts, _, _, _, _, _, _, rfl, rfl, h5, rfl⟩) (fun j d η m hd hi => ?_) fun η m hi => ?_
    · obtain ⟨ts', x2, x5, x6, x7, wh', n', rfl, rfl, h5, h6⟩ := (hInv _ _ _).mp hi
      have hj : j < (mn - ts.length).toNat := by
        have := (List.getElem?_eq_some_iff.mp hd).1
        simpa using this
      have hu : isU d = false := by
        rw [List.getElem?_map] at hd
        obtain ⟨x, _, rfl⟩ := Option.map_eq_some_iff.mp hd
        rfl
      refine ⟨_, rfl, fun K k _ => ?_⟩
      simp
      refine wp_take hl (by omega) (by omega) fun r1 wh3 n3 hr1 => ?_
      try simp
      refine wp_take hl (by omega) (by omega) fun r2 wh4 n4 hr2 => ?_
      have hz : ts'.length < sizeLine := lt_line (by omega)
      simp [sApp, bMin, bMax, hz]
      refine k _ _ ((hInv _ _ _).mpr ⟨ts' ++ [(min (r1 : Int) r2, max (r1 : Int) r2)], _, _, _, _, _, _, by simp [tieD]; exact ⟨rfl, rfl, rfl, rfl⟩, rfl, ?_, by simp [h6]; omega⟩)
      intro t ht
      rcases List.mem_append.mp ht with ht | ht
      · exact h5 t ht
      · rw [List.mem_singleton.mp ht]
        simp only
        omega
    · obtain ⟨ts', x2, x5, x6, x7, wh', n', rfl, rfl, h5, h7⟩ := (hInv _ _ _).mp hi
      simp at h7
      refine k _ _ (wps fun K k _ => wpi fun T t f => ?_)
      have fin : ∀ ts : List (Int × Int), TiesIn pl ts → ts.length ≤ 7 → ∀ wh' n', K (.nx [.ref p, .lst (ts.map tieD), x2, .int pl, .int mn, x5, x6, x7]) (drM p M wh' cs n') := fun ts h5 h7 wh' n' => by
        refine k _ _ ?_
        simp [ties_sorted, bTuple]
        exact k0 _ _ (h (pl, ts.mergeSort tle) wh' n' (tle_merge_ok (by omega) (by omega) (by omega) h5) (by simp; omega) (by simpa [List.length_mergeSort] using h7))
      have h8 : ts'.length ≤ 7 := by omega
      have e := dNe_ties ts'
      by_cases he : ts' = []
      · subst he
        simp at e
        simp [e]
        exact f _ (fin [] h5 (by simp) _ _)
      · have he2 : ts'.isEmpty = false := by simpa using he
        simp only [he2, Bool.not_false] at e
        simp [e]
        by_cases hs : ts'.length < 7
        · have hs2 : (ts'.length : Int) < 7 := by omega
          simp [hs2]
          refine wp_take hl (by omega) (by omega) fun r1 wh3 n3 hr1 => ?_
          simp
          by_cases hr : r1 = 0
          · simp [hr]
            refine t _ ?_
            simp [sApp]
            refine wp_pick hl he (by omega) fun x hx wh4 n4 => ?_
            have hz : ts'.length < sizeLine := lt_line (by omega)
            simp [hz]
            have := fin (ts' ++ [x]) (fun t ht => by
              rcases List.mem_append.mp ht with ht | ht
              · exact h5 t ht
              · rw [List.mem_singleton.mp ht]; exact h5 x hx) (by simp; omega) wh4 n4
            simpa using this
          · simp [hr]
            exact f _ (fin ts' h5 h8 _ _)
        · have hs2 : ¬ (ts'.length : Int) < 7 := by omega
          simp [hs2]
          exact f _ (fin ts' h5 h8 _ _)
  by_cases hr : r0 = 0
  · by_cases hp : 2 < pl
    · simp [hr, hp]
      refine t _ ?_
      obtain ⟨ts, h1, h2, h3⟩ := ring_ok (M := drM p M wh3 cs n3) hp p1.2 (η := [.ref p, .lst [], .und, .int pl, .int mn, .und, .und, .und]) rfl (by simp)
      simp only [sSeq, sSet, h3, Res.bind_ok, sNx, sNil, Res.wp_ok]
      exact mid _ _ ((hJ _ _).mpr ⟨ts, _, _, _, rfl, rfl, h1, by omega⟩)
    · simp [hr, hp]
      exact f _ (mid _ _ ((hJ _ _).mpr ⟨[], _, _, _, rfl, rfl, (fun _ h => nomatch h), by simp⟩))
  · simp [hr]
    exact f _ (mid _ _ ((hJ _ _).mpr ⟨[], _, _, _, rfl, rfl, (fun _ h => nomatch h), by simp⟩))
theorem wp_no_number (hl : cs.length ≤ 63) {lo hi : Int} (h1 : -1000 ≤ lo) (h2 : hi ≤ 1000) (h : ∀ d, NoNum lo hi d → isU d = false → ∀ wh' n', Q d (drM p M wh' cs n')) : (G__law_no_number a [.ref p, .int lo, .int hi] (drM p M wh cs n)).wp Q := by
  refine wpf fun K0 k0 _ => ?_
  simp [F__law_no_number]
  refine wp_pick (en := id) hl (by simp) (l := [.non, .int (lo - 1), .int (hi + 1), .str "1", .bl true, .tup [.int lo], .lst [], .int (-100000000000000000000), .int 100000000000000000000]) (by simp) fun x hx wh' n' => ?_
  have key : NoNum lo hi x ∧ isU x = false := by
    simp only [List.mem_cons, List.not_mem_nil, or_false] at hx
    rcases hx with rfl | rfl | rfl | rfl | rfl | rfl | rfl | rfl | rfl
    · exact ⟨.inr (.inl rfl), rfl⟩
    · exact ⟨.inl ⟨_, rfl, .inl (by omega)⟩, rfl⟩
    · exact ⟨.inl ⟨_, rfl, .inr (by omega)⟩, rfl⟩
    · exact ⟨.inr (.inl rfl), rfl⟩
    · exact ⟨.inr (.inr ⟨_, rfl⟩), rfl⟩
    · exact ⟨.inr (.inl rfl), rfl⟩
    · exact ⟨.inr (.inl rfl), rfl⟩
    · exact ⟨.inl ⟨_, rfl, .inl (by omega)⟩, rfl⟩
    · exact ⟨.inl ⟨_, rfl, .inr (by omega)⟩, rfl⟩
  exact k0 _ _ (h x key.1 key.2 wh' n')
theorem whole_lc (l : List Int) (η0 : Env) (h4 : 4 < η0.length) : lcF (t1F (.nm 4) tNo (eCall (G_is_whole a) [(eVar 4)]) η0) (l.map .int) M = .ok (l.map fun _ => .bl true) M :=
  lcF_map fun x _ => by
    have e1 : eVar 4 (η0.set 4 (.int x)) M = .ok (.int x) M := by
      rw [eVar_at]; simp [List.getElem?_set, h4]
    simp [t1F, elF, tNo, e1]
theorem whole_no {d : D} (hu : isU d = false) (h : isTy "int" d = some (.bl false) ∨ ∃ b, d = .bl b) : G_is_whole a [d] M = .ok (.bl false) M := by
  rcases h with h | ⟨b, rfl⟩
  · simp [G_is_whole, F_is_whole, hu, h]
  · rfl
theorem no_length {d : D} {lo hi : Int} (hu : isU d = false) (h : NoNum lo hi d) : G_need_length a [d, .int lo, .int hi] M = .err a.BadLength [] [] M := by
  rcases h with ⟨i, rfl, h⟩ | h
  · by_cases h1 : lo ≤ i
    · have h2 : ¬ i ≤ hi := by omega
      simp [G_need_length, F_need_length, h1, h2]
    · simp [G_need_length, F_need_length, h1]
  · have := whole_no (a := a) (M := M) hu h
    simp [G_need_length, F_need_length, hu, this]
end Tn.K02

set_option Elab.async false
set_option linter.all false
set_option maxRecDepth 100000
set_option maxHeartbeats 4000000
namespace Tn.K02
open PySem PySem.Spec PyProof.Rows L2
open Builtin.Int (intBits)
variable {a : Ad} {M : Mem} {p : Addr} {wh n m : Int} {cs : List Int} {Q : D → Mem → Prop}
theorem place_yes {w : Web} {i : Int} (h1 : 0 ≤ i) (h2 : i < w.1) : G_is_place_of a [webD w, .int i] M = .ok (.bl true) M := by
  simp [G_is_place_of, F_is_place_of, h1, h2]
theorem place_no {w : Web} {d : D} (hu : isU d = false) (h : NoNum 0 (w.1 - 1) d) : G_is_place_of a [webD w, d] M = .ok (.bl false) M := by
  rcases h with ⟨i, rfl, h⟩ | h
  · by_cases h1 : 0 ≤ i
    · have h2 : ¬ i < w.1 := by omega
      simp [G_is_place_of, F_is_place_of, h1, h2]
    · simp [G_is_place_of, F_is_place_of, h1]
  · have := whole_no (a := a) (M := M) hu h
    simp [G_is_place_of, F_is_place_of, hu, this]
theorem need_length_ok {i lo hi : Int} (h1 : lo ≤ i) (h2 : i ≤ hi) : G_need_length a [.int i, .int lo, .int hi] M = .ok .non M := by
  simp [G_need_length, F_need_length, h1, show ¬ hi < i by omega]
theorem need_asked {w : Web} (hw : WebOk w) {s g l : Int} (h1 : 0 ≤ s) (h2 : s < w.1) (h3 : 0 ≤ g) (h4 : g < w.1) (h5 : 0 ≤ l) (h6 : l ≤ 60) : G_need_asked a [webD w, .int s, .int g, .int l] M = .ok .non M := by
  simp [G_need_asked, F_need_asked, need_web hw, place_yes h1 h2, place_yes h3 h4, need_length_ok h5 h6]
theorem follows_by' (w : Web) (hl : w.2.length ≤ 500) : G_follows_by a [webD w] M = .ok (.lst (folD (waysL w.2).length (folL (waysL w.2)))) M := follows_by w hl
theorem law_follows' (w : Web) (hl : w.2.length ≤ 500) : G__law_follows a [webD w] M = .ok (.lst (folD (waysL w.2).length (folL (waysL w.2)))) M := law_follows w hl
theorem count_by {w : Web} (hl : w.2.length ≤ 500) {s g : Int} {L : Nat} (hL : L ≤ 1000) : G_count_by a [webD w, .int s, .int g, .int (L : Nat)] M = .ok (.int (wc (waysL w.2) s g L)) M := by
  have hn : (waysL w.2).length ≤ 1000 := by rw [waysL_len]; omega
  refine Res.eq_of_wp (wpf fun K0 k0 _ => wps fun K k kr => wpi fun T t f => ?_)
  cases L with
  | zero =>
    simp
    refine t _ ?_
    simp
    by_cases h : s = g
    · simp [h]
      exact kr _ _ (k0 _ _ ⟨by rw [h]; simp [wc], rfl⟩)
    · simp [h]
      exact kr _ _ (k0 _ _ ⟨by simp [wc, h], rfl⟩)
  | succ L =>
    have h0 : ¬ ((L : Int) + 1 = 0) := by omega
    simp [h0]
    refine f _ (k _ _ (wps fun K k _ => ?_))
    simp [ways_by w (show w.2.length ≤ 1000 by omega), follows_by' w hl]
    refine k _ _ (wps fun K k _ => ?_)
    have hst : ∀ F' : Env → Env, True := fun _ => trivial
    simp only [sSet, Res.wp_bind]
    refine wpLC (xs := waysL w.2) (en := tieD) (g := fun q => .int (if q.1 = s then 1 else 0)) (by simp) (by omega) (fun q _ => ⟨_, bindP_1, fun K k => ?_⟩) ?_
    · simp [wipeE]
      by_cases h : q.1 = s
      · simpa [h] using k
      · simpa [h] using k
    have e0 : ((waysL w.2).map fun q => D.int (if q.1 = s then 1 else 0)) = (cntL (waysL w.2) s 0).map .int := by simp [cntL, stL]
    rw [e0, Res.wp_ok]
    refine k _ _ (wps fun K k _ => ?_)
    have hI : iA rR1 [eOp2 dSub (eVar 3) (eC (.int 1))] [webD w, .int s, .int g, .int ((L : Int) + 1), .lst ((cntL (waysL w.2) s 0).map .int), .und, .lst ((waysL w.2).map tieD), .lst (folD (waysL w.2).length (folL (waysL w.2))), .und, .und] M = .ok ((List.range L).map natD) M :=
      iA_eq (ds := [.int (L : Int)]) (by simp) (rR1_nat (by omega))
    obtain ⟨Inv, hInv⟩ : ∃ Inv : Nat → Env → Mem → Prop, ∀ j η m, Inv j η m ↔ ∃ x5, η = [webD w, .int s, .int g, .int ((L : Int) + 1), .lst ((cntL (waysL w.2) s j).map .int), x5, .lst ((waysL w.2).map tieD), .lst (folD (waysL w.2).length (folL (waysL w.2))), .und, .und] ∧ m = M := ⟨_, fun _ _ _ => Iff.rfl⟩
    refine wpfor hI Inv ((hInv _ _ _).mpr ⟨_, rfl, rfl⟩) (fun j d η m hd hi => ?_) fun η m hi => ?_
    · obtain ⟨x5, e1, e2⟩ := (hInv _ _ _).mp hi
      subst e1 e2
      refine ⟨_, bindP_1, fun K k _ => ?_⟩
      have e := led_on (a := a) (M := m) hn (fs := folL (waysL w.2)) (fun i _ k hk => folL_lt hk) (cntL (waysL w.2) s j) (cntL_pos _ _ _) (cntL_len _ _ _)
      simp [e]
      exact k _ _ ((hInv _ _ _).mpr ⟨d, by simp only [cntL], rfl⟩)
    · obtain ⟨x5, e1, e2⟩ := (hInv _ _ _).mp hi
      subst e1 e2
      refine k _ _ ?_
      rw [List.length_map, List.length_range]
      simp only [sRet, eB, eArgs, Res.wp_bind]
      refine wpLCf (xs := (cntL (waysL w.2) s L).zip (waysL w.2)) (en := fun z => .tup [.int z.1, tieD z.2]) (g := fun z => .int z.1) (p := fun z => decide (z.2.2 = g)) ?_ ?_ (fun z _ => ⟨_, bindP_2, ?_, fun _ K k => ?_⟩) ?_
      · exact iA_eq (ds := [.lst ((cntL (waysL w.2) s L).map .int), .lst ((waysL w.2).map tieD)]) (by simp) (rZip_map _ _ _ _)
      · rw [List.length_zip, cntL_len]; omega
      · simp [wipeE]
      · simpa [wipeE] using k
      · have e2 : (((cntL (waysL w.2) s L).zip (waysL w.2)).filter fun z => decide (z.2.2 = g)).map (fun z => D.int z.1) = ((((cntL (waysL w.2) s L).zip (waysL w.2)).filter fun z => decide (z.2.2 = g)).map fun z => z.1).map .int := by rw [List.map_map]; rfl
        rw [e2]
        simp only [Res.wp_ok, bSum_ints, Res.wp_opt_some, wc_list]
        exact k0 _ _ ⟨rfl, rfl⟩
theorem law_walk_count {w : Web} (hl : w.2.length ≤ 500) {s g : Int} {L : Nat} (hL : L ≤ 1000) : G__law_walk_count a [webD w, .int s, .int g, .int (L : Nat)] M = .ok (.int (wc (waysL w.2) s g L)) M := by
  have hn : (waysL w.2).length ≤ 1000 := by rw [waysL_len]; omega
  refine Res.eq_of_wp (wpf fun K0 k0 _ => wps fun K k kr => wpi fun T t f => ?_)
  cases L with
  | zero =>
    simp
    refine t _ ?_
    simp
    by_cases h : s = g
    · simp [h]
      exact kr _ _ (k0 _ _ ⟨by rw [h]; simp [wc], rfl⟩)
    · simp [h]
      exact kr _ _ (k0 _ _ ⟨by simp [wc, h], rfl⟩)
  | succ L =>
    have h0 : ¬ ((L : Int) + 1 = 0) := by omega
    simp [h0]
    refine f _ (k _ _ (wps fun K k _ => ?_))
    simp [law_pairs w (show w.2.length ≤ 1000 by omega), law_follows' w hl]
    refine k _ _ (wps fun K k _ => ?_)
    have hst : ∀ F' : Env → Env, True := fun _ => trivial
    simp only [sSet, Res.wp_bind]
    refine wpLC (xs := waysL w.2) (en := tieD) (g := fun q => .int (if q.1 = s then 1 else 0)) (by simp) (by omega) (fun q _ => ⟨_, bindP_1, fun K k => ?_⟩) ?_
    · simp [wipeE]
      by_cases h : q.1 = s
      · simpa [h] using k
      · simpa [h] using k
    have e0 : ((waysL w.2).map fun q => D.int (if q.1 = s then 1 else 0)) = (cntL (waysL w.2) s 0).map .int := by simp [cntL, stL]
    rw [e0, Res.wp_ok]
    refine k _ _ (wps fun K k _ => ?_)
    have hI : iA rR1 [eOp2 dSub (eVar 3) (eC (.int 1))] [webD w, .int s, .int g, .int ((L : Int) + 1), .lst ((cntL (waysL w.2) s 0).map .int), .und, .lst ((waysL w.2).map tieD), .lst (folD (waysL w.2).length (folL (waysL w.2))), .und, .und] M = .ok ((List.range L).map natD) M :=
      iA_eq (ds := [.int (L : Int)]) (by simp) (rR1_nat (by omega))
    obtain ⟨Inv, hInv⟩ : ∃ Inv : Nat → Env → Mem → Prop, ∀ j η m, Inv j η m ↔ ∃ x5, η = [webD w, .int s, .int g, .int ((L : Int) + 1), .lst ((cntL (waysL w.2) s j).map .int), x5, .lst ((waysL w.2).map tieD), .lst (folD (waysL w.2).length (folL (waysL w.2))), .und, .und] ∧ m = M := ⟨_, fun _ _ _ => Iff.rfl⟩
    refine wpfor hI Inv ((hInv _ _ _).mpr ⟨_, rfl, rfl⟩) (fun j d η m hd hi => ?_) fun η m hi => ?_
    · obtain ⟨x5, e1, e2⟩ := (hInv _ _ _).mp hi
      subst e1 e2
      refine ⟨_, bindP_1, fun K k _ => ?_⟩
      have e := law_led (a := a) (M := m) hn (fs := folL (waysL w.2)) (fun i _ k hk => folL_lt hk) (cntL (waysL w.2) s j) (cntL_len _ _ _)
      simp [e]
      exact k _ _ ((hInv _ _ _).mpr ⟨d, by simp only [cntL], rfl⟩)
    · obtain ⟨x5, e1, e2⟩ := (hInv _ _ _).mp hi
      subst e1 e2
      refine k _ _ ?_
      rw [List.length_map, List.length_range]
      simp only [sRet, eB, eArgs, Res.wp_bind]
      refine wpLCf (xs := (cntL (waysL w.2) s L).zip (waysL w.2)) (en := fun z => .tup [.int z.1, tieD z.2]) (g := fun z => .int z.1) (p := fun z => decide (z.2.2 = g)) ?_ ?_ (fun z _ => ⟨_, bindP_2, ?_, fun _ K k => ?_⟩) ?_
      · exact iA_eq (ds := [.lst ((cntL (waysL w.2) s L).map .int), .lst ((waysL w.2).map tieD)]) (by simp) (rZip_map _ _ _ _)
      · rw [List.length_zip, cntL_len]; omega
      · simp [wipeE]
      · simpa [wipeE] using k
      · have e2 : (((cntL (waysL w.2) s L).zip (waysL w.2)).filter fun z => decide (z.2.2 = g)).map (fun z => D.int z.1) = ((((cntL (waysL w.2) s L).zip (waysL w.2)).filter fun z => decide (z.2.2 = g)).map fun z => z.1).map .int := by rw [List.map_map]; rfl
        rw [e2]
        simp only [Res.wp_ok, bSum_ints, Res.wp_opt_some, wc_list]
        exact k0 _ _ ⟨rfl, rfl⟩
theorem walk_count {w : Web} (hw : WebOk w) {s g : Int} {L : Nat} (h1 : 0 ≤ s) (h2 : s < w.1) (h3 : 0 ≤ g) (h4 : g < w.1) (hL : L ≤ 60) : G_walk_count a [webD w, .int s, .int g, .int (L : Nat)] M = .ok (.int (wc (waysL w.2) s g L)) M := by
  have e1 := need_asked (a := a) (M := M) hw h1 h2 h3 h4 (l := (L : Int)) (by omega) (by omega)
  have w14 := hw.t14
  have e2 := count_by (a := a) (M := M) (w := w) (by omega) (s := s) (g := g) (L := L) (by omega)
  simp [G_walk_count, F_walk_count, e1, e2]
/-! tables -/
theorem law_pairs' (w : Web) (hl : w.2.length ≤ 500) : G__law_pairs a [webD w] M = .ok (.lst ((waysL w.2).map tieD)) M := law_pairs w (by omega)
theorem len_filter {α : Type} [Inhabited α] (p : α → Bool) : ∀ l : List α, ((l.filter p).length : Int) = sumR l.length fun j => if p (nth l j) = true then 1 else 0
  | [] => rfl
  | x :: l => by
    rw [List.length_cons, sumR_front, List.filter_cons]
    show _ = (if p x = true then 1 else 0) + sumR l.length (fun j => if p (nth l j) = true then 1 else 0)
    rw [← len_filter p l]
    by_cases h : p x = true
    · simp only [h, if_true, List.length_cons]; omega
    · simp only [h, if_false]; simp
theorem law_degrees {w : Web} (hw : WebOk w) {n : Nat} (hn : w.1 = (n : Int)) : G__law_degrees a [webD w] M = .ok (.lst (((List.range n).map fun (i : Nat) => dgw (waysL w.2) i).map .int)) M := by
  have hn8 : n ≤ 8 := by have := hw.p8; omega
  have w14 := hw.t14
  refine Res.eq_of_wp (wpf fun K0 k0 _ => ?_)
  simp only [F__law_degrees, sRet, Res.wp_bind]
  refine wpLC (xs := List.range n) (en := natD) (g := fun i => .int (dgw (waysL w.2) i)) (iA_eq (ds := [.int (n : Int)]) (by simp [hn]) (rR1_nat (by omega))) (by simp; omega) (fun i _ => ⟨_, bindP_1, fun K k => ?_⟩) ?_
  · simp only [eB, eArgs, Res.wp_bind]
    refine wpLCf (xs := waysL w.2) (en := tieD) (p := fun q => decide (q.1 = (i : Int))) (g := fun _ => .int 1) ?_ (by rw [waysL_len]; omega) (fun q _ => ⟨_, bindP_1, ?_, fun _ K k => ?_⟩) ?_
    · simp [wipeE, law_pairs' w (show w.2.length ≤ 500 by omega), natD]
    · simp [wipeE, natD]
    · simpa using k
    · simp
      have e := len_filter (fun q : Int × Int => decide (q.1 = (i : Int))) (waysL w.2)
      rw [e]
      simpa [dgw] using k
  · rw [Res.wp_ok]
    exact k0 _ _ ⟨by simp, rfl⟩
theorem law_ties_table {w : Web} (hw : WebOk w) {n : Nat} (hn : w.1 = (n : Int)) : G__law_ties_table a [webD w] M = .ok (tabD (tab n fun i j => Aw (waysL w.2) i j)) M := by
  have hn8 : n ≤ 8 := by have := hw.p8; omega
  have w14 := hw.t14
  refine Res.eq_of_wp (wpf fun K0 k0 _ => wps fun K k _ => ?_)
  simp [law_pairs' w (show w.2.length ≤ 500 by omega)]
  refine k _ _ ?_
  simp only [sRet, Res.wp_bind]
  refine wpLC (xs := List.range n) (en := natD) (g := fun i => .lst ((List.range n).map fun (j : Nat) => .int (Aw (waysL w.2) i j))) (iA_eq (ds := [.int (n : Int)]) (by simp [hn]) (rR1_nat (by omega))) (by simp; omega) (fun i _ => ⟨_, bindP_1, fun K k => ?_⟩) ?_
  · refine wpLC (xs := List.range n) (en := natD) (g := fun j => .int (Aw (waysL w.2) i j)) (iA_eq (ds := [.int (n : Int)]) (by simp [hn, wipeE]) (rR1_nat (by omega))) (by simp; omega) (fun j _ => ⟨_, bindP_1, fun K k => ?_⟩) k
    simp only [eB, eArgs, Res.wp_bind]
    refine wpLCf (xs := waysL w.2) (en := tieD) (p := fun q => decide (q.1 = (i : Int) ∧ q.2 = (j : Int))) (g := fun _ => .int 1) ?_ (by rw [waysL_len]; omega) (fun q _ => ⟨_, bindP_1, ?_, fun _ K k => ?_⟩) ?_
    · simp [wipeE]
    · simp [wipeE, natD, tieD, dEq, cmpOk, flat, flats, dep, deps, eqD, eqDs, beqI]
    · simpa using k
    · simp
      have e := len_filter (fun q : Int × Int => decide (q.1 = (i : Int) ∧ q.2 = (j : Int))) (waysL w.2)
      simp only [Bool.decide_and] at e
      rw [e]
      simpa [Aw] using k
  · rw [Res.wp_ok]
    exact k0 _ _ ⟨(tabD_tab _ _).symm, rfl⟩
theorem law_told_table {w : Web} (hw : WebOk w) {n : Nat} (hn : w.1 = (n : Int)) {L : Nat} (hL : L ≤ 60) : G__law_told_table a [webD w, .int (L : Nat)] M = .ok (tabD (tab n fun i j => wc (waysL w.2) i j L)) M := by
  have hn8 : n ≤ 8 := by have := hw.p8; omega
  refine Res.eq_of_wp (wpf fun K0 k0 _ => ?_)
  simp only [F__law_told_table, sRet, Res.wp_bind]
  refine wpLC (xs := List.range n) (en := natD) (g := fun i => .lst ((List.range n).map fun (j : Nat) => .int (wc (waysL w.2) i j L))) (iA_eq (ds := [.int (n : Int)]) (by simp [hn]) (rR1_nat (by omega))) (by simp; omega) (fun i hi => ⟨_, bindP_1, fun K k => ?_⟩) ?_
  · refine wpLC (xs := List.range n) (en := natD) (g := fun j => .int (wc (waysL w.2) i j L)) (iA_eq (ds := [.int (n : Int)]) (by simp [hn, wipeE]) (rR1_nat (by omega))) (by simp; omega) (fun j hj => ⟨_, bindP_1, fun K k => ?_⟩) k
    have h1 := List.mem_range.mp hi
    have h2 := List.mem_range.mp hj
    have e := walk_count (a := a) (M := M) hw (s := i) (g := j) (by omega) (by omega) (by omega) (by omega) hL
    simpa [wipeE, natD, e] using k
  · rw [Res.wp_ok]
    exact k0 _ _ ⟨(tabD_tab _ _).symm, rfl⟩
theorem law_product {n : Nat} (hn : n ≤ 1000) {f g : Nat → Nat → Int} (hg : ∀ i < n, ∀ j < n, intBits (g i j) ≤ 64) : G__law_product a [tabD (tab n f), tabD (tab n g)] M = .ok (tabD (tab n fun i j => sumR n fun k => f i k * g k j)) M := by
  rw [tabD_tab, tabD_tab]
  refine Res.eq_of_wp (wpf fun K0 k0 _ => ?_)
  simp only [F__law_product, sRet, Res.wp_bind]
  refine wpLC (xs := List.range n) (en := fun i => .lst ((List.range n).map fun j => .int (f i j))) (g := fun i => .lst ((List.range n).map fun (j : Nat) => .int (sumR n fun k => f i k * g k j))) (by simp) (by simp; omega) (fun i hi => ⟨_, bindP_1, fun K k => ?_⟩) ?_
  · refine wpLC (xs := List.range n) (en := natD) (g := fun j => .int (sumR n fun k => f i k * g k j)) (iA_eq (ds := [.int (n : Int)]) (by simp [wipeE]) (rR1_nat (by omega))) (by simp; omega) (fun j hj => ⟨_, bindP_1, fun K k => ?_⟩) k
    simp only [eB, eArgs, Res.wp_bind]
    refine wpLC (xs := List.range n) (en := natD) (g := fun k => .int (f i k * g k j)) (iA_eq (ds := [.int (n : Int)]) (by simp [wipeE]) (rR1_nat (by omega))) (by simp; omega) (fun c hc => ⟨_, bindP_1, fun K k => ?_⟩) ?_
    · have h1 := List.mem_range.mp hc
      have h2 := List.mem_range.mp hj
      have i1 := ix_range h1 fun k => D.int (f i k)
      have i2 := ix_range h1 fun i => D.lst ((List.range n).map fun j => D.int (g i j))
      have i3 := ix_range h2 fun j => D.int (g c j)
      have m1 := dMul_r (i := f i c) (hg c h1 j h2)
      simpa [wipeE, natD, i1, i2, i3, m1] using k
    · simp only [Res.wp_ok, bSum_map, Res.wp_opt_some]
      exact k
  · rw [Res.wp_ok]
    exact k0 _ _ ⟨(tabD_tab _ _).symm, rfl⟩
theorem law_less {n : Nat} (hn : n ≤ 1000) {f g : Nat → Nat → Int} : G__law_less a [tabD (tab n f), tabD (tab n g)] M = .ok (tabD (tab n fun i j => f i j - g i j)) M := by
  rw [tabD_tab, tabD_tab]
  refine Res.eq_of_wp (wpf fun K0 k0 _ => ?_)
  simp only [F__law_less, sRet, Res.wp_bind]
  refine wpLC (xs := List.range n) (en := fun i => .tup [.lst ((List.range n).map fun j => .int (f i j)), .lst ((List.range n).map fun j => .int (g i j))]) (g := fun i => .lst ((List.range n).map fun (j : Nat) => .int (f i j - g i j))) (iA_eq (ds := [.lst ((List.range n).map fun i => .lst ((List.range n).map fun j => .int (f i j))), .lst ((List.range n).map fun i => .lst ((List.range n).map fun j => .int (g i j)))]) (by simp) (rZip_self _ _ _)) (by simp; omega) (fun i hi => ⟨_, bindP_2, fun K k => ?_⟩) ?_
  · refine wpLC (xs := List.range n) (en := fun j => .tup [.int (f i j), .int (g i j)]) (g := fun j => .int (f i j - g i j)) (iA_eq (ds := [.lst ((List.range n).map fun j => .int (f i j)), .lst ((List.range n).map fun j => .int (g i j))]) (by simp [wipeE]) (rZip_self _ _ _)) (by simp; omega) (fun j hj => ⟨_, bindP_2, fun K k => ?_⟩) k
    simpa [wipeE] using k
  · rw [Res.wp_ok]
    exact k0 _ _ ⟨(tabD_tab _ _).symm, rfl⟩
theorem law_middle {n : Nat} (hn : n ≤ 1000) {f : Nat → Int} : G__law_middle a [.lst (((List.range n).map f).map .int)] M = .ok (tabD (tab n fun i j => if i = j then f i else 0)) M := by
  have e0 : ((List.range n).map f).map D.int = (List.range n).map fun i => .int (f i) := by rw [List.map_map]; rfl
  rw [e0]
  refine Res.eq_of_wp (wpf fun K0 k0 _ => ?_)
  simp only [F__law_middle, sRet, Res.wp_bind]
  refine wpLC (xs := List.range n) (en := natD) (g := fun i => .lst ((List.range n).map fun (j : Nat) => .int (if i = j then f i else 0))) (iA_eq (ds := [.int (n : Int)]) (by simp) (rR1_nat (by omega))) (by simp; omega) (fun i hi => ⟨_, bindP_1, fun K k => ?_⟩) ?_
  · refine wpLC (xs := List.range n) (en := natD) (g := fun j => .int (if i = j then f i else 0)) (iA_eq (ds := [.int (n : Int)]) (by simp [wipeE]) (rR1_nat (by omega))) (by simp; omega) (fun j hj => ⟨_, bindP_1, fun K k => ?_⟩) k
    have i1 := ix_range (List.mem_range.mp hi) fun i => D.int (f i)
    by_cases h : i = j
    · subst h
      simpa [wipeE, natD, i1] using k
    · have h' : ¬ (i : Int) = (j : Int) := by omega
      simpa [wipeE, natD, h, h'] using k
  · rw [Res.wp_ok]
    exact k0 _ _ ⟨(tabD_tab _ _).symm, rfl⟩
end Tn.K02

set_option Elab.async false
set_option linter.all false
set_option maxRecDepth 100000
set_option maxHeartbeats 4000000
namespace Tn.K02
open PySem PySem.Spec PyProof.Rows L2
open Builtin.Int (intBits)
variable {a : Ad} {M : Mem} {p : Addr} {wh n m : Int} {cs : List Int} {Q : D → Mem → Prop}
theorem ex_no (hl : cs.length ≤ 63) {lo hi : Int} (h1 : -1000 ≤ lo) (h2 : hi ≤ 1000) : ∃ d wh' n', G__law_no_number a [.ref p, .int lo, .int hi] (drM p M wh cs n) = .ok d (drM p M wh' cs n') ∧ NoNum lo hi d ∧ isU d = false := by
  obtain ⟨d, m, e, h1, h2, wh', n', rfl⟩ := Res.wp_ex (wp_no_number (a := a) (M := M) (p := p) (wh := wh) (n := n) (Q := fun d m => NoNum lo hi d ∧ isU d = false ∧ ∃ wh' n', m = drM p M wh' cs n') hl h1 h2 fun d h1 h2 wh' n' => ⟨h1, h2, wh', n', rfl⟩)
  exact ⟨d, wh', n', e, h1, h2⟩
theorem says_ints (l : List Int) (h : l.length ≤ 1000) (M : Mem) : G__law_says a [.lst (l.map .int), .lst (l.map .int)] M = .ok (.bl true) M := by
  refine says (by simp only [flat]; exact flats_ints l) (by have := deps_ints l; simp only [dep]; omega) ?_
  simp only [nod, nods_ints]; omega
theorem wc_no_start {w : Web} (hw : WebOk w) {d x y : D} (hu : isU d = false) (h : NoNum 0 (w.1 - 1) d) (hx : isU x = false) (hy : isU y = false) : G_walk_count a [webD w, d, x, y] M = .err a.BadStart [] [] M := by
  simp [G_walk_count, F_walk_count, G_need_asked, F_need_asked, need_web hw, place_no hu h, hu, hx, hy]
theorem wc_no_goal {w : Web} (hw : WebOk w) {s : Int} {d y : D} (h1 : 0 ≤ s) (h2 : s < w.1) (hu : isU d = false) (h : NoNum 0 (w.1 - 1) d) (hy : isU y = false) : G_walk_count a [webD w, .int s, d, y] M = .err a.BadGoal [] [] M := by
  simp [G_walk_count, F_walk_count, G_need_asked, F_need_asked, need_web hw, place_yes h1 h2, place_no hu h, hu, hy]
theorem wc_no_length {w : Web} (hw : WebOk w) {s g : Int} {d : D} (h1 : 0 ≤ s) (h2 : s < w.1) (h3 : 0 ≤ g) (h4 : g < w.1) (hu : isU d = false) (h : NoNum 0 60 d) : G_walk_count a [webD w, .int s, .int g, d] M = .err a.BadLength [] [] M := by
  simp [G_walk_count, F_walk_count, G_need_asked, F_need_asked, need_web hw, place_yes h1 h2, place_yes h3 h4, no_length hu h, hu]
theorem sumR_01 (n : Nat) (f : Nat → Int) (h : ∀ i < n, 0 ≤ f i ∧ f i ≤ 1) : 0 ≤ sumR n f ∧ sumR n f ≤ n := by
  induction n with
  | zero => exact ⟨Int.le_refl _, Int.le_refl _⟩
  | succ n ih =>
    have h1 := ih fun i hi => h i (by omega)
    have h2 := h n (by omega)
    rw [sumR_succ]
    omega
theorem bits_small {x : Int} (h1 : 0 ≤ x) (h2 : x ≤ 1000000) : intBits x ≤ 64 := by
  obtain ⟨k, rfl⟩ := Int.eq_ofNat_of_zero_le h1
  exact intBits_cast_le (le_line (by omega))
theorem Aw_01 (ps : List (Int × Int)) (s g : Int) : 0 ≤ Aw ps s g ∧ Aw ps s g ≤ ps.length := sumR_01 _ _ fun i _ => by split <;> decide
theorem dgw_01 (ps : List (Int × Int)) (s : Int) : 0 ≤ dgw ps s ∧ dgw ps s ≤ ps.length := sumR_01 _ _ fun i _ => by split <;> decide
theorem ways_in {w : Web} (hw : WebOk w) {n : Nat} (hn : w.1 = (n : Int)) : ∀ j, j < 2 * w.2.length → 0 ≤ (nth (waysL w.2) j).1 ∧ (nth (waysL w.2) j).1 < n := fun j hj => by
  have hm : nth (waysL w.2) j ∈ waysL w.2 := List.mem_of_getElem? (nth_get (by rw [waysL_len]; exact hj))
  obtain ⟨t, ht, h⟩ := List.mem_flatMap.mp hm
  have := hw.ties t ht
  simp only [List.mem_cons, List.not_mem_nil, or_false] at h
  rcases h with h | h <;> rw [h] <;> (try simp only) <;> omega
theorem middle_one {n : Nat} (hn : n ≤ 1000) : G__law_middle a [.lst (List.replicate n (.int 1))] M = .ok (tabD (tab n fun i j => if i = j then 1 else 0)) M := by
  have := law_middle (a := a) (M := M) hn (f := fun _ => 1)
  rw [List.map_const', List.length_range, List.map_replicate] at this
  exact this
def ringW : Web := (3, [(0, 1), (0, 2), (1, 2)])
def loopW : Web := (1, [(0, 0), (0, 0)])
theorem z0 : wc (waysL ringW.2) 0 0 0 = 1 := rfl
theorem z1 : wc (waysL ringW.2) 0 0 1 = 0 ∧ wc (waysL ringW.2) 0 0 2 = 0 ∧ wc (waysL ringW.2) 0 0 3 = 2 ∧ wc (waysL ringW.2) 0 0 4 = 0 ∧ wc (waysL ringW.2) 0 0 60 = 2 := by
  refine ⟨?_, ?_, ?_, ?_, ?_⟩ <;> (rw [← wc_list]; decide +kernel)
theorem z2 : wc (waysL loopW.2) 0 0 1 = 4 ∧ wc (waysL loopW.2) 0 0 2 = 12 ∧ wc (waysL loopW.2) 0 0 3 = 36 := by
  refine ⟨?_, ?_, ?_⟩ <;> (rw [← wc_list]; decide +kernel)
theorem z3 : wc (waysL [(0, 1)]) 0 0 2 = 0 := by rw [← wc_list]; decide +kernel
theorem wc_lc {w : Web} (hw : WebOk w) {F : EF} {η : Env} (hF : ∀ d, F ((wipeE η [16]).set 16 d) M = .ok (webD w) M) (h : 16 < η.length) (ms : List Nat) (hm : ∀ m ∈ ms, m ≤ 60) (hz : ms.length ≤ 1000) {I : IF} (hI : I η M = .ok (ms.map natD) M) : eLC [16] (.nm 16) I tNo (eCall (G_walk_count a) [F, eC (.int 0), eC (.int 0), eVar 16]) η M = .ok (.lst (ms.map fun m => .int (wc (waysL w.2) 0 0 m))) M := by
  refine Res.eq_of_wp (wpLC (xs := ms) (en := natD) (g := fun m => .int (wc (waysL w.2) 0 0 m)) hI (by omega) (fun m hm' => ⟨_, bindP_1, fun K k => ?_⟩) ⟨rfl, rfl⟩)
  have p1 := hw.p1
  have e := walk_count (a := a) (M := M) hw (s := 0) (g := 0) (L := m) (by omega) (by omega) (by omega) (by omega) (hm m hm')
  have ev : eVar 16 ((wipeE η [16]).set 16 (natD m)) M = .ok (natD m) M := by
    rw [eVar_at]; simp [List.getElem?_set, h, natD, wipeE]
  exact Res.wp_of (eCall_eq (eA (hF _) (eA rfl (eA rfl (eA ev eA0)))) e) k
theorem law_true (hl : cs.length ≤ 63) : (F_law a (lawE 18 cs |>.set 1 (.ref p)) (drM p M wh cs n)).wp fun c _ => c = .rt (.bl true) := by
  have hη : (lawE 18 cs).set 1 (.ref p) = [.scr (cs.map .int), .ref p, .und, .und, .und, .und, .und, .und, .und, .und, .und, .und, .und, .und, .und, .und, .und, .und] := rfl
  rw [hη]
  refine wps fun K k _ => ?_
  have hI : iA rR1 [(eOp2 dAdd (eC (.int 2)) (eB bMin [(eB bLen [(eVar 0)]), (eC (.int 4))]))] [.scr (cs.map .int), .ref p, .und, .und, .und, .und, .und, .und, .und, .und, .und, .und, .und, .und, .und, .und, .und, .und] (drM p M wh cs n) = .ok ((List.range (2 + min (cs.length : Int) 4).toNat).map natD) (drM p M wh cs n) :=
    iA_eq (ds := [.int (2 + min (cs.length : Int) 4)]) (by simp [bMin]) (rR1_int (by omega) (by omega))
  obtain ⟨Inv, hInv⟩ : ∃ Inv : Nat → Env → Mem → Prop, ∀ i η m, Inv i η m ↔ ∃ x2 x3 x4 x5 x6 x7 x8 x9 x10 x11 x12 x13 x14 x15 x16 x17 wh' n', η = [.scr (cs.map .int), .ref p, x2, x3, x4, x5, x6, x7, x8, x9, x10, x11, x12, x13, x14, x15, x16, x17] ∧ m = drM p M wh' cs n' := ⟨_, fun _ _ _ => Iff.rfl⟩
  refine wpfor hI Inv ((hInv _ _ _).mpr ⟨_, _, _, _, _, _, _, _, _, _, _, _, _, _, _, _, _, _, rfl, rfl⟩) (fun j d η m hd hi => ?_) fun η m hi => ?_
  · obtain ⟨x2, x3, x4, x5, x6, x7, x8, x9, x10, x11, x12, x13, x14, x15, x16, x17, wh', n', rfl, rfl⟩ := (hInv _ _ _).mp hi
    have hInv' := hInv
    clear hd hi hI k
    refine ⟨_, bindP_1, fun K k _ => wps fun K' k' _ => ?_⟩
    simp
    refine wp_web hl fun w1 wh1 n1 hw1 _ _ => ?_
    refine wp_web hl fun w2 wh1 n1 hw2 _ _ => ?_
    refine wp_great_web hl fun w3 wh1 n1 hw3 => ?_
    refine wp_pick (en := webD) (l := [w1, w2, w3]) hl (by simp) (by simp) fun w hw wh1 n1 => ?_
    replace hw : WebOk w := by
      simp only [List.mem_cons, List.not_mem_nil, or_false] at hw
      rcases hw with rfl | rfl | rfl <;> assumption
    refine k' _ _ (wps fun K' k' _ => wptgt fun T t => ?_)
    have p1 := hw.p1
    have p8 := hw.p8
    have p14 := hw.t14
    simp
    refine wp_take hl (by omega) (by omega) fun s wh2 n2 hs => ?_
    try simp
    refine wp_take hl (by omega) (by omega) fun g wh3 n3 hg => ?_
    try simp
    refine wp_take hl (by omega) (by omega) fun r0 wh4 n4 hr0 => ?_
    try simp
    refine wp_pickI hl [0, 1, 2, 3, (r0 : Int), 60] (by simp) (by simp) fun le hle wh5 n5 => ?_
    obtain ⟨L, rfl, hL⟩ : ∃ L : Nat, le = (L : Int) ∧ L ≤ 60 := ⟨le.toNat, by simp at hle; omega, by simp at hle; omega⟩
    clear hle hr0
    refine t _ _ _ bindP_3 (k' _ _ (wps fun K' k' _ => ?_))
    clear t
    have e1 := fun M => law_walk_count (a := a) (M := M) (w := w) (by omega) (s := s) (g := g) (L := L) (by omega)
    have e2 := fun M => walk_count (a := a) (M := M) hw (s := s) (g := g) (L := L) (by omega) (by omega) (by omega) (by omega) hL
    have e3 := fun M => walk_count (a := a) (M := M) hw (s := g) (g := s) (L := L) (by omega) (by omega) (by omega) (by omega) hL
    rw [wc_sym (wy_ways _)] at e3
    refine wpset (e1 _) rfl (k' _ _ (wps fun K' k' _ => ?_))
    refine wpsetE (M2 := drM p M wh5 cs n5) (d := .lst [.int (wc (waysL w.2) s g L), .int (wc (waysL w.2) s g L), .int (wc (waysL w.2) s g L)]) (by simp [eCallK, permL, e2, e3]) (k' _ _ (wps fun K' k' _ => wpi fun T t f => ?_))
    have e4 := dMul_rep (d := .int (wc (waysL w.2) s g L)) (k := 3) (by omega)
    have e4' : dMul (.lst [.int (wc (waysL w.2) s g L)]) (.int 3) = some (.lst [.int (wc (waysL w.2) s g L), .int (wc (waysL w.2) s g L), .int (wc (waysL w.2) s g L)]) := e4
    refine wp_nsays (d := .lst [.int (wc (waysL w.2) s g L), .int (wc (waysL w.2) s g L), .int (wc (waysL w.2) s g L)]) (M1 := drM p M wh5 cs n5) (M2 := drM p M wh5 cs n5) (fun M => says_ints [wc (waysL w.2) s g L, wc (waysL w.2) s g L, wc (waysL w.2) s g L] (by simp) M) rfl (by simp [e4']) (f _ (k' _ _ (wps fun K' k' _ => ?_)))
    simp
    refine wp_web hl fun v wh6 n6 hv _ _ => ?_
    refine k' _ _ (wps fun K' k' _ => ?_)
    obtain ⟨nn, hnn⟩ : ∃ nn : Nat, v.1 = (nn : Int) := ⟨v.1.toNat, by have := hv.p1; omega⟩
    have v8 := hv.p8
    have v14 := hv.t14
    simp [law_ties_table hv hnn, law_degrees hv hnn]
    refine wp_take hl (by omega) (by omega) fun r1 wh7 n7 hr1 => ?_
    try simp
    refine wp_pickI hl [2, 3, 2 + (r1 : Int)] (by simp) (by simp) fun le hle wh8 n8 => ?_
    obtain ⟨t, hle2, ht⟩ : ∃ t : Nat, le = ((t + 2 : Nat) : Int) ∧ t + 2 ≤ 58 := ⟨(le - 2).toNat, by simp at hle; omega, by simp at hle; omega⟩
    clear hle hr1
    have hdg : (List.map (D.int ∘ fun (i : Nat) => dgw (waysL v.2) i) (List.range nn)) = ((List.range nn).map fun (i : Nat) => dgw (waysL v.2) i).map .int := by rw [List.map_map]
    rw [hdg]
    have hy := wy_ways v.2
    have hin := ways_in hv hnn
    have hlen : (waysL v.2).length ≤ 28 := by rw [waysL_len]; omega
    generalize hps : waysL v.2 = ps at *
    have bA : ∀ i < nn, ∀ j < nn, intBits (Aw ps (i : Nat) (j : Nat)) ≤ 64 := fun i _ j _ => by
      have := Aw_01 ps i j
      exact bits_small this.1 (by omega)
    have t0 : tab nn (fun i j => wc ps i j 0) = tab nn fun i j => if i = j then 1 else 0 := tab_congr fun i _ j _ => by
      show (if (i : Int) = (j : Int) then (1 : Int) else 0) = _
      by_cases h : i = j
      · subst h; simp
      · have : ¬ (i : Int) = (j : Int) := by omega
        rw [if_neg h, if_neg this]
    have t1 : tab nn (fun i j => wc ps i j 1) = tab nn fun i j => Aw ps i j := tab_congr fun i _ j _ => wc_one _ _
    have t2 : tab nn (fun i j => wc ps i j 2) = tab nn fun i j => (sumR nn fun c => Aw ps i c * Aw ps c j) - if i = j then dgw ps i else 0 := tab_congr fun i _ j _ => by
      exact wc_two' hy hin i j
    have told := fun (L : Nat) (hL : L ≤ 60) (M : Mem) => law_told_table (a := a) (M := M) hv hnn (L := L) hL
    rw [hps] at told
    have prodA := fun (M : Mem) (f : Nat → Nat → Int) => law_product (a := a) (M := M) (n := nn) (by omega) (f := f) bA
    refine k' _ _ (wps fun K' k' _ => wpi fun T q f => ?_)
    refine wp_ne (M1 := drM p M wh8 cs n8) (M2 := drM p M wh8 cs n8) (d := .lst [tabD (tab nn fun i j => wc ps i j 0), tabD (tab nn fun i j => wc ps i j 1), tabD (tab nn fun i j => wc ps i j 2)]) ?_ ?_ ?_ ?_ (f _ (k' _ _ (wps fun K' k' _ => ?_)))
    · refine Res.eq_of_wp (wpLC (xs := [0, 1, 2]) (en := natD) (g := fun L => tabD (tab nn fun i j => wc ps i j L)) rfl (by simp) (fun L hL => ⟨_, bindP_1, fun K k => ?_⟩) ⟨rfl, rfl⟩)
      have e := told L (by simp at hL; omega) (drM p M wh8 cs n8)
      simpa [wipeE, natD, e] using k
    · rw [t0, t1, t2]
      have m1 := middle_one (a := a) (M := drM p M wh8 cs n8) (n := nn) (by omega)
      have m2 := law_middle (a := a) (M := drM p M wh8 cs n8) (n := nn) (by omega) (f := fun i => dgw ps i)
      have r1 := dMul_rep (d := .int 1) (k := nn) (by omega)
      have l1 := law_less (a := a) (M := drM p M wh8 cs n8) (n := nn) (by omega) (f := fun i j => sumR nn fun c => Aw ps i c * Aw ps c j) (g := fun i j => if i = j then dgw ps i else 0)
      rw [List.map_map] at m2
      simp [hnn, r1, m1, prodA, m2, l1]
    · simp [flat, flats, flat_tabD]
    · have d0 := dep_tabD (tab nn fun i j => wc ps i j 0)
      have d1 := dep_tabD (tab nn fun i j => wc ps i j 1)
      have d2 := dep_tabD (tab nn fun i j => wc ps i j 2)
      simp only [dep, deps]
      omega
    have x1 : ∀ M, G__law_told_table a [webD v, .int (le - 1)] M = .ok (tabD (tab nn fun i j => wc ps i j (t + 1))) M := fun M => by
      have := told (t + 1) (by omega) M
      rwa [show ((t + 1 : Nat) : Int) = le - 1 by omega] at this
    have x2 : ∀ M, G__law_told_table a [webD v, .int le] M = .ok (tabD (tab nn fun i j => wc ps i j (t + 2))) M := fun M => by
      have := told (t + 2) (by omega) M
      rwa [← hle2] at this
    have x3 : ∀ M, G__law_told_table a [webD v, .int (le + 1)] M = .ok (tabD (tab nn fun i j => wc ps i j (t + 3))) M := fun M => by
      have := told (t + 3) (by omega) M
      rwa [show ((t + 3 : Nat) : Int) = le + 1 by omega] at this
    have bD : ∀ i < nn, ∀ j < nn, intBits (if i = j then dgw ps (i : Nat) - 1 else 0) ≤ 64 := fun i _ j _ => by
      have := dgw_01 ps i
      by_cases h : i = j
      · rw [if_pos h]
        exact Nat.le_trans (intBits_sub_le (m := 62) (n := 62) (Nat.le_trans (intBits_le_of_natAbs (y := 28) (by omega) (show intBits 28 ≤ 5 by decide)) (by omega)) (by decide)) (by decide)
      · rw [if_neg h]; decide
    have pD := law_product (a := a) (M := drM p M wh8 cs n8) (n := nn) (by omega) (f := fun i j => wc ps i j (t + 1)) bD
    have mD := law_middle (a := a) (M := drM p M wh8 cs n8) (n := nn) (by omega) (f := fun i => dgw ps i - 1)
    have lcD : eLC [17] (.nm 17) (iOf dItr (eVar 14)) tNo (eOp2 dSub (eVar 17) (eC (.int 1))) [.scr (cs.map .int), .ref p, d, .lst [.int (wc (waysL w.2) s g L), .int (wc (waysL w.2) s g L), .int (wc (waysL w.2) s g L)], webD w, .int (wc (waysL w.2) s g L), webD v, x7, x8, x9, .int (s : Nat), .int (g : Nat), .int (L : Nat), tabD (tab nn fun i j => Aw ps i j), .lst (((List.range nn).map fun (i : Nat) => dgw ps i).map .int), .int le, x16, x17] (drM p M wh8 cs n8) = .ok (.lst (((List.range nn).map fun (i : Nat) => dgw ps i - 1).map .int)) (drM p M wh8 cs n8) := by
      refine Res.eq_of_wp (wpLC (xs := (List.range nn).map fun (i : Nat) => dgw ps i) (en := .int) (g := fun z => .int (z - 1)) rfl (by simp; omega) (fun z _ => ⟨_, bindP_1, fun K k => ?_⟩) ⟨by simp, rfl⟩)
      simpa [wipeE] using k
    refine wpsetE (M2 := drM p M wh8 cs n8) (d := tabD (tab nn fun i j => sumR nn fun c => wc ps i c (t + 1) * if c = j then dgw ps c - 1 else 0)) ?_ (k' _ _ (wps fun K' k' _ => wpi fun T q f => ?_))
    · exact eCall_eq (eA (eCall_eq (by simp) (x1 _)) (eA (eCall_eq (eA lcD eA0) mD) eA0)) pD
    have t3 : tab nn (fun i j => wc ps i j (t + 3)) = tab nn fun i j => (sumR nn fun c => wc ps i c (t + 2) * Aw ps c j) - sumR nn fun c => wc ps i c (t + 1) * if c = j then dgw ps c - 1 else 0 := tab_congr fun i _ j hj => by
      rw [wc_three hy hin, sum_mid hj]
    have l3 := law_less (a := a) (M := drM p M wh8 cs n8) (n := nn) (by omega) (f := fun i j => sumR nn fun c => wc ps i c (t + 2) * Aw ps c j) (g := fun i j => sumR nn fun c => wc ps i c (t + 1) * if c = j then dgw ps c - 1 else 0)
    refine wp_ne (M1 := drM p M wh8 cs n8) (M2 := drM p M wh8 cs n8) (d := tabD (tab nn fun i j => wc ps i j (t + 3))) ?_ ?_ (flat_tabD _) (Nat.le_trans (dep_tabD _) (by decide)) (f _ (k' _ _ (wps fun K' k' _ => wpi fun T q f => ?_)))
    · simp [x3]
    · rw [t3]
      simp [x2, prodA, l3]
    clear prodA told x1 x2 x3 pD mD lcD l3 t0 t1 t2 t3 bA bD
    obtain ⟨no, wha, na, eno, hno, huno⟩ := ex_no (a := a) (M := M) (p := p) (wh := wh8) (n := n8) hl (lo := 0) (hi := w.1 - 1) (by omega) (by omega)
    refine wp_refused (eCall_eq (eA rfl (eA (eCall_eq (by simp) eno) (eA rfl (eA rfl eA0)))) (wc_no_start hw huno hno rfl rfl)) (by simp [cls_l]) (f _ (k' _ _ (wps fun K' k' _ => wpi fun T q f => ?_)))
    obtain ⟨no2, whb, nb, eno, hno, huno⟩ := ex_no (a := a) (M := M) (p := p) (wh := wha) (n := na) hl (lo := 0) (hi := w.1 - 1) (by omega) (by omega)
    refine wp_refused (eCall_eq (eA rfl (eA rfl (eA (eCall_eq (by simp) eno) (eA rfl eA0)))) (wc_no_goal hw (s := s) (by omega) (by omega) huno hno rfl)) (by simp [cls_l]) (f _ (k' _ _ (wps fun K' k' _ => wpi fun T q f => ?_)))
    obtain ⟨no3, whc, nc, eno, hno, huno⟩ := ex_no (a := a) (M := M) (p := p) (wh := whb) (n := nb) hl (lo := 0) (hi := 60) (by omega) (by omega)
    refine wp_refused (eCall_eq (eA rfl (eA rfl (eA rfl (eA (eCall_eq (by simp) eno) eA0)))) (wc_no_length hw (s := s) (g := g) (by omega) (by omega) (by omega) (by omega) huno hno)) (by simp [cls_l]) (f _ (k' _ _ ?_))
    exact Res.wp_ok.mpr (k _ _ ((hInv' _ _ _).mpr ⟨_, _, _, _, _, _, _, _, _, _, _, _, _, _, _, _, _, _, rfl, rfl⟩))
  · obtain ⟨x2, x3, x4, x5, x6, x7, x8, x9, x10, x11, x12, x13, x14, x15, x16, x17, wh', n', rfl, rfl⟩ := (hInv _ _ _).mp hi
    clear hi hI
    refine k _ _ (wps fun K k _ => wptgt fun T t => ?_)
    simp
    refine t _ _ _ bindP_2 (k _ _ (wps fun K k _ => ?_))
    have kring : WebOk ringW := ⟨by decide, by decide, by decide, by decide, by unfold Srt; decide⟩
    have kloop : WebOk loopW := ⟨by decide, by decide, by decide, by decide, by unfold Srt; decide⟩
    have ktwo : WebOk (2, [(0, 1)]) := ⟨by decide, by decide, by decide, by decide, by unfold Srt; decide⟩
    show (sSet 3 _ [.scr (cs.map .int), .ref p, x2, x3, x4, x5, x6, x7, webD ringW, webD loopW, x10, x11, x12, x13, x14, x15, x16, x17] (drM p M wh' cs n')).wp _
    have c1 := wc_lc (a := a) (M := drM p M wh' cs n') kring (F := eVar 8) (η := [.scr (cs.map .int), .ref p, x2, x3, x4, x5, x6, x7, webD ringW, webD loopW, x10, x11, x12, x13, x14, x15, x16, x17]) (fun d => rfl) (by simp) [0, 1, 2, 3, 4, 60] (by simp) (by simp) (I := iOf dLst (eLst [(eC (.int 0)), (eC (.int 1)), (eC (.int 2)), (eC (.int 3)), (eC (.int 4)), (eC (.int 60))])) rfl
    have c2 := wc_lc (a := a) (M := drM p M wh' cs n') kloop (F := eVar 9) (η := [.scr (cs.map .int), .ref p, x2, x3, x4, x5, x6, x7, webD ringW, webD loopW, x10, x11, x12, x13, x14, x15, x16, x17]) (fun d => rfl) (by simp) [1, 2, 3] (by simp) (by simp) (I := iOf dLst (eLst [(eC (.int 1)), (eC (.int 2)), (eC (.int 3))])) rfl
    simp only [List.map_cons, List.map_nil, z0, z1.1, z1.2.1, z1.2.2.1, z1.2.2.2.1, z1.2.2.2.2, z2.1, z2.2.1, z2.2.2] at c1 c2
    have c3 := walk_count (a := a) (M := drM p M wh' cs n') ktwo (s := 0) (g := 0) (L := 2) (by omega) (by decide) (by omega) (by decide) (by omega)
    rw [z3] at c3
    have c3' : G_walk_count a [.tup [.int 2, .tup [.tup [.int 0, .int 1]]], .int 0, .int 0, .int 2] (drM p M wh' cs n') = .ok (.int 0) (drM p M wh' cs n') := c3
    have a1 : dAdd (.lst [.int 1, .int 0, .int 0, .int 2, .int 0, .int 2]) (.lst [.int 4, .int 12, .int 36]) = some (.lst [.int 1, .int 0, .int 0, .int 2, .int 0, .int 2, .int 4, .int 12, .int 36]) := by rfl
    have a2 : dAdd (.lst [.int 1, .int 0, .int 0, .int 2, .int 0, .int 2, .int 4, .int 12, .int 36]) (.lst [.int 0]) = some (.lst [.int 1, .int 0, .int 0, .int 2, .int 0, .int 2, .int 4, .int 12, .int 36, .int 0]) := by rfl
    refine wpsetE (eOp2_eq (eOp2_eq c1 c2 a1) (d2 := .lst [.int 0]) (M2 := drM p M wh' cs n') (by simp [c3']) a2) (k _ _ ?_)
    have sy := says_ints (a := a) [1, 0, 0, 2, 0, 2, 4, 12, 36, 0] (by simp) (drM p M wh' cs n')
    simp only [List.map_cons, List.map_nil] at sy
    simp [sy]
theorem law_good (a : Ad) (ns : List Int) (hl : ns.length ≤ 63) (hb : ∀ z ∈ ns, Builtin.Int.intBits z ≤ 1048576) : LawGood 18 1 (Fe_law a) (F_law a) ns := by
  obtain ⟨wh, e⟩ := begun (a := a) (M := noM) hl hb
  refine ⟨drK, drV wh ns 0, ?_, fun p => ?_⟩
  · have : eArgs [eVar 0] (lawE 18 ns) noM = .ok [.scr (ns.map .int)] noM := rfl
    exact eCall_eq this e
  · obtain ⟨c, m, e2, rfl⟩ := Res.wp_ex (law_true (a := a) (M := noM) (p := p) (wh := wh) (n := 0) hl)
    exact ⟨m, e2⟩
end Tn.K02

set_option Elab.async false
set_option maxRecDepth 100000
open PySem PySem.W PyProof.Rows
set_option maxRecDepth 100000 in
set_option maxHeartbeats 0 in
theorem PySem.Challenge.cw_turnless_k02_whole_walks_counted_holds : PySem.Challenge.rw_turnless_k02_whole_walks_counted.Holds := by
  w_on; o_law; k_head; (case hw => w_witness2)
  k_fill
  refine LamX.walk_ofTs (n := 63) (k := 13) (x := "script") (CX := fun w => L2.CX PySem.Challenge.rw_turnless_k02_whole_walks_counted.prog w) rfl (by decide) rfl ⟨rfl, by decide, by decide⟩ (fun w h Y => PySem.W.km_in_of Y) ?F ?C
  case C => exact fun w H s e s2 => Tn.cx_no (l := PySem.Challenge.rw_turnless_k02_whole_walks_counted) w H s e s2
  case F =>
    intro w mg fa h Y KX G hmg
    have x_BadGoal := Tn.xc_mk (x := "BadGoal") KX G (by k_is) (by k_exc) (by k_is) (by k_is) (by k_is)
    have x_BadLength := Tn.xc_mk (x := "BadLength") KX G (by k_is) (by k_exc) (by k_is) (by k_is) (by k_is)
    have x_BadOne := Tn.xc_mk (x := "BadOne") KX G (by k_is) (by k_exc) (by k_is) (by k_is) (by k_is)
    have x_BadOther := Tn.xc_mk (x := "BadOther") KX G (by k_is) (by k_exc) (by k_is) (by k_is) (by k_is)
    have x_BadStart := Tn.xc_mk (x := "BadStart") KX G (by k_is) (by k_exc) (by k_is) (by k_is) (by k_is)
    have x_BadWeb := Tn.xc_mk (x := "BadWeb") KX G (by k_is) (by k_exc) (by k_is) (by k_is) (by k_is)
    have x_TurnError := Tn.xc_mk (x := "TurnError") KX G (by k_is) (by k_exc) (by k_is) (by k_is) (by k_is)
    have f_is_whole := Tn.df_mk (x := "is_whole") (st := Tn.K02.top 11) (ps := ["thing"]) KX G (by k_is) (by k_is) (by k_is) (by k_is) (fun _ _ _ _ _ _ us hl => match us, hl with | [_], _ => rfl)
    have f_is_tie_of := Tn.df_mk (x := "is_tie_of") (st := Tn.K02.top 12) (ps := ["places", "thing"]) KX G (by k_is) (by k_is) (by k_is) (by k_is) (fun _ _ _ _ _ _ us hl => match us, hl with | [_, _], _ => rfl)
    have f_is_web_of := Tn.df_mk (x := "is_web_of") (st := Tn.K02.top 13) (ps := ["thing"]) KX G (by k_is) (by k_is) (by k_is) (by k_is) (fun _ _ _ _ _ _ us hl => match us, hl with | [_], _ => rfl)
    have f_need_web := Tn.df_mk (x := "need_web") (st := Tn.K02.top 14) (ps := ["web", "word"]) KX G (by k_is) (by k_is) (by k_is) (by k_is) (fun _ _ _ _ _ _ us hl => match us, hl with | [_, _], _ => rfl)
    have f_is_place_of := Tn.df_mk (x := "is_place_of") (st := Tn.K02.top 15) (ps := ["web", "thing"]) KX G (by k_is) (by k_is) (by k_is) (by k_is) (fun _ _ _ _ _ _ us hl => match us, hl with | [_, _], _ => rfl)
    have f_ways_by := Tn.df_mk (x := "ways_by") (st := Tn.K02.top 16) (ps := ["web"]) KX G (by k_is) (by k_is) (by k_is) (by k_is) (fun _ _ _ _ _ _ us hl => match us, hl with | [_], _ => rfl)
    have f_back_of := Tn.df_mk (x := "back_of") (st := Tn.K02.top 19) (ps := ["way"]) KX G (by k_is) (by k_is) (by k_is) (by k_is) (fun _ _ _ _ _ _ us hl => match us, hl with | [_], _ => rfl)
    have f_follows_by := Tn.df_mk (x := "follows_by") (st := Tn.K02.top 20) (ps := ["web"]) KX G (by k_is) (by k_is) (by k_is) (by k_is) (fun _ _ _ _ _ _ us hl => match us, hl with | [_], _ => rfl)
    have f_need_length := Tn.df_mk (x := "need_length") (st := Tn.K02.top 21) (ps := ["length", "low", "high"]) KX G (by k_is) (by k_is) (by k_is) (by k_is) (fun _ _ _ _ _ _ us hl => match us, hl with | [_, _, _], _ => rfl)
    have f_led_on := Tn.df_mk (x := "led_on") (st := Tn.K02.top 22) (ps := ["follows", "counts"]) KX G (by k_is) (by k_is) (by k_is) (by k_is) (fun _ _ _ _ _ _ us hl => match us, hl with | [_, _], _ => rfl)
    have f_count_by := Tn.df_mk (x := "count_by") (st := Tn.K02.top 23) (ps := ["web", "start", "goal", "length"]) KX G (by k_is) (by k_is) (by k_is) (by k_is) (fun _ _ _ _ _ _ us hl => match us, hl with | [_, _, _, _], _ => rfl)
    have f_need_asked := Tn.df_mk (x := "need_asked") (st := Tn.K02.top 24) (ps := ["web", "start", "goal", "length"]) KX G (by k_is) (by k_is) (by k_is) (by k_is) (fun _ _ _ _ _ _ us hl => match us, hl with | [_, _, _, _], _ => rfl)
    have f_walk_count := Tn.df_mk (x := "walk_count") (st := Tn.K02.top 25) (ps := ["web", "start", "goal", "length"]) KX G (by k_is) (by k_is) (by k_is) (by k_is) (fun _ _ _ _ _ _ us hl => match us, hl with | [_, _, _, _], _ => rfl)
    have f__law_begun := Tn.df_mk (x := "_law_begun") (st := Tn.K02.top 27) (ps := ["script"]) KX G (by k_is) (by k_is) (by k_is) (by k_is) (fun _ _ _ _ _ _ us hl => match us, hl with | [_], _ => rfl)
    have f__law_mixed := Tn.df_mk (x := "_law_mixed") (st := Tn.K02.top 28) (ps := ["draw"]) KX G (by k_is) (by k_is) (by k_is) (by k_is) (fun _ _ _ _ _ _ us hl => match us, hl with | [_], _ => rfl)
    have f__law_take := Tn.df_mk (x := "_law_take") (st := Tn.K02.top 29) (ps := ["draw", "amount"]) KX G (by k_is) (by k_is) (by k_is) (by k_is) (fun _ _ _ _ _ _ us hl => match us, hl with | [_, _], _ => rfl)
    have f__law_pick := Tn.df_mk (x := "_law_pick") (st := Tn.K02.top 30) (ps := ["draw", "items"]) KX G (by k_is) (by k_is) (by k_is) (by k_is) (fun _ _ _ _ _ _ us hl => match us, hl with | [_, _], _ => rfl)
    have f__law_kinds := Tn.df_mk (x := "_law_kinds") (st := Tn.K02.top 32) (ps := ["thing"]) KX G (by k_is) (by k_is) (by k_is) (by k_is) (fun _ _ _ _ _ _ us hl => match us, hl with | [_], _ => rfl)
    have f__law_says := Tn.df_mk (x := "_law_says") (st := Tn.K02.top 33) (ps := ["told", "due"]) KX G (by k_is) (by k_is) (by k_is) (by k_is) (fun _ _ _ _ _ _ us hl => match us, hl with | [_, _], _ => rfl)
    have f__law_web := Tn.df_mk (x := "_law_web") (st := Tn.K02.top 34) (ps := ["draw"]) KX G (by k_is) (by k_is) (by k_is) (by k_is) (fun _ _ _ _ _ _ us hl => match us, hl with | [_], _ => rfl)
    have f__law_great_web := Tn.df_mk (x := "_law_great_web") (st := Tn.K02.top 35) (ps := ["draw"]) KX G (by k_is) (by k_is) (by k_is) (by k_is) (fun _ _ _ _ _ _ us hl => match us, hl with | [_], _ => rfl)
    have f__law_no_number := Tn.df_mk (x := "_law_no_number") (st := Tn.K02.top 36) (ps := ["draw", "low", "high"]) KX G (by k_is) (by k_is) (by k_is) (by k_is) (fun _ _ _ _ _ _ us hl => match us, hl with | [_, _, _], _ => rfl)
    have f__law_back := Tn.df_mk (x := "_law_back") (st := Tn.K02.top 37) (ps := ["way"]) KX G (by k_is) (by k_is) (by k_is) (by k_is) (fun _ _ _ _ _ _ us hl => match us, hl with | [_], _ => rfl)
    have f__law_pairs := Tn.df_mk (x := "_law_pairs") (st := Tn.K02.top 38) (ps := ["web"]) KX G (by k_is) (by k_is) (by k_is) (by k_is) (fun _ _ _ _ _ _ us hl => match us, hl with | [_], _ => rfl)
    have f__law_follows := Tn.df_mk (x := "_law_follows") (st := Tn.K02.top 39) (ps := ["web"]) KX G (by k_is) (by k_is) (by k_is) (by k_is) (fun _ _ _ _ _ _ us hl => match us, hl with | [_], _ => rfl)
    have f__law_degrees := Tn.df_mk (x := "_law_degrees") (st := Tn.K02.top 40) (ps := ["web"]) KX G (by k_is) (by k_is) (by k_is) (by k_is) (fun _ _ _ _ _ _ us hl => match us, hl with | [_], _ => rfl)
    have f__law_ties_table := Tn.df_mk (x := "_law_ties_table") (st := Tn.K02.top 41) (ps := ["web"]) KX G (by k_is) (by k_is) (by k_is) (by k_is) (fun _ _ _ _ _ _ us hl => match us, hl with | [_], _ => rfl)
    have f__law_led := Tn.df_mk (x := "_law_led") (st := Tn.K02.top 42) (ps := ["follows", "counts"]) KX G (by k_is) (by k_is) (by k_is) (by k_is) (fun _ _ _ _ _ _ us hl => match us, hl with | [_, _], _ => rfl)
    have f__law_walk_count := Tn.df_mk (x := "_law_walk_count") (st := Tn.K02.top 43) (ps := ["web", "start", "goal", "length"]) KX G (by k_is) (by k_is) (by k_is) (by k_is) (fun _ _ _ _ _ _ us hl => match us, hl with | [_, _, _, _], _ => rfl)
    have f__law_told_table := Tn.df_mk (x := "_law_told_table") (st := Tn.K02.top 44) (ps := ["web", "length"]) KX G (by k_is) (by k_is) (by k_is) (by k_is) (fun _ _ _ _ _ _ us hl => match us, hl with | [_, _], _ => rfl)
    have f__law_product := Tn.df_mk (x := "_law_product") (st := Tn.K02.top 45) (ps := ["one", "other"]) KX G (by k_is) (by k_is) (by k_is) (by k_is) (fun _ _ _ _ _ _ us hl => match us, hl with | [_, _], _ => rfl)
    have f__law_less := Tn.df_mk (x := "_law_less") (st := Tn.K02.top 46) (ps := ["one", "other"]) KX G (by k_is) (by k_is) (by k_is) (by k_is) (fun _ _ _ _ _ _ us hl => match us, hl with | [_, _], _ => rfl)
    have f__law_middle := Tn.df_mk (x := "_law_middle") (st := Tn.K02.top 47) (ps := ["numbers"]) KX G (by k_is) (by k_is) (by k_is) (by k_is) (fun _ _ _ _ _ _ us hl => match us, hl with | [_], _ => rfl)
    have f__law_caught := Tn.df_mk (x := "_law_caught") (st := Tn.K02.top 31) (ps := ["work"]) KX G (by k_is) (by k_is) (by k_is) (by k_is) (fun _ _ _ _ _ _ us hl => match us, hl with | [_], _ => rfl)
    have b_all := PySem.W.mg_none_of (n := "all") KX G (by k_is)
    have b_bool := PySem.W.mg_none_of (n := "bool") KX G (by k_is)
    have b_dict := PySem.W.mg_none_of (n := "dict") KX G (by k_is)
    have b_enumerate := PySem.W.mg_none_of (n := "enumerate") KX G (by k_is)
    have b_int := PySem.W.mg_none_of (n := "int") KX G (by k_is)
    have b_isinstance := PySem.W.mg_none_of (n := "isinstance") KX G (by k_is)
    have b_len := PySem.W.mg_none_of (n := "len") KX G (by k_is)
    have b_list := PySem.W.mg_none_of (n := "list") KX G (by k_is)
    have b_max := PySem.W.mg_none_of (n := "max") KX G (by k_is)
    have b_min := PySem.W.mg_none_of (n := "min") KX G (by k_is)
    have b_range := PySem.W.mg_none_of (n := "range") KX G (by k_is)
    have b_repr := PySem.W.mg_none_of (n := "repr") KX G (by k_is)
    have b_sorted := PySem.W.mg_none_of (n := "sorted") KX G (by k_is)
    have b_str := PySem.W.mg_none_of (n := "str") KX G (by k_is)
    have b_sum := PySem.W.mg_none_of (n := "sum") KX G (by k_is)
    have b_tuple := PySem.W.mg_none_of (n := "tuple") KX G (by k_is)
    have b_zip := PySem.W.mg_none_of (n := "zip") KX G (by k_is)
    have c_MOST_LENGTH := Tn.c_mk (x := "MOST_LENGTH") (i := 60) KX G (by k_is)
    have c_MOST_PLACES := Tn.c_mk (x := "MOST_PLACES") (i := 8) KX G (by k_is)
    have c_MOST_TIES := Tn.c_mk (x := "MOST_TIES") (i := 14) KX G (by k_is)
    have i_BadGoal := Tn.xi_mk (by k_is) (by k_is) x_BadGoal.s (by k_is) (by k_is) (by k_is) (by k_is) (by k_is) (by kernel_rfl)
    have i_BadLength := Tn.xi_mk (by k_is) (by k_is) x_BadLength.s (by k_is) (by k_is) (by k_is) (by k_is) (by k_is) (by kernel_rfl)
    have i_BadStart := Tn.xi_mk (by k_is) (by k_is) x_BadStart.s (by k_is) (by k_is) (by k_is) (by k_is) (by k_is) (by kernel_rfl)

    refine' Tn.at_mk (st := Tn.K02.top 48) (P0 := 315) (T := Tn.K02.TL 315) KX G hmg (PySem.W.km_tabs_of Y 315 (by simp)) ?zn ?zc ?za ?zl ?z4 (fun s u => .of_eq rfl) rfl (Tn.K02.law_good ⟨_, _, _, _, _, _, _⟩) (fun base fd TB F => Tn.K02.ok_law (⟨x_BadGoal, x_BadLength, x_BadOne, x_BadOther, x_BadStart, x_BadWeb, x_TurnError, f_is_whole, f_is_tie_of, f_is_web_of, f_need_web, f_is_place_of, f_ways_by, f_back_of, f_follows_by, f_need_length, f_led_on, f_count_by, f_need_asked, f_walk_count, f__law_begun, f__law_mixed, f__law_take, f__law_pick, f__law_kinds, f__law_says, f__law_web, f__law_great_web, f__law_no_number, f__law_back, f__law_pairs, f__law_follows, f__law_degrees, f__law_ties_table, f__law_led, f__law_walk_count, f__law_told_table, f__law_product, f__law_less, f__law_middle, f__law_caught, i_BadGoal, i_BadLength, i_BadStart, ?ze, b_all, b_bool, b_dict, b_enumerate, b_int, b_isinstance, b_len, b_list, b_max, b_min, b_range, b_repr, b_sorted, b_str, b_sum, b_tuple, b_zip, c_MOST_LENGTH, c_MOST_PLACES, c_MOST_TIES⟩ : Tn.K02.Tx _ _ _) TB F)
    (case za => k_is); (case zl => k_is); (case z4 => k_is); (case zn => kernel_rfl); (case zc => kernel_rfl)
    case ze => refine' (List.forall_mem_cons.mpr ⟨?ze1, (List.forall_mem_cons.mpr ⟨?ze2, (List.forall_mem_cons.mpr ⟨?ze3, (List.forall_mem_cons.mpr ⟨?ze4, (List.forall_mem_cons.mpr ⟨?ze5, (List.forall_mem_cons.mpr ⟨?ze6, (fun _ h => nomatch h)⟩)⟩)⟩)⟩)⟩)⟩); all_goals first | k_is | kernel_rfl
