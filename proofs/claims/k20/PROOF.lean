import PyProof.Rows.All
import Wide.All
import OpenK.AllK
import Wide.FinOn
import HandS.ForMost
import HandS.ForExc
import HandS.CallSlots
import HandS.HotCalls
import HandS.ExcIs
import HandS.Wide
import HandS.SortInts
import HandS.SortRule
import HandS.SortKw
import HandS.IsInst
import HandS.TupLe
import HandS.Lambda
import HandS.Conv
import HandS.TupAny
import HandS.NoneIn
import HandS.Deep
import HandS.More
import HandS.DeepEq
import PySem.Challenge.RW_tellweight_k20_worths
set_option Elab.async false
set_option linter.all false
set_option maxRecDepth 100000
set_option maxHeartbeats 8000000
namespace DL
open PySem PySem.Spec PyProof.Rows L2

/-! ### outcomes -/
abbrev D := PyData
inductive R (α : Type) where
  | ok (a : α)
  | exc (c : String)
  | bad
def R.bind {α β : Type} : R α → (α → R β) → R β
  | .ok a, f => f a
  | .exc c, _ => .exc c
  | .bad, _ => .bad
@[simp] theorem R.bind_ok {α β : Type} (a : α) (f : α → R β) : (R.ok a).bind f = f a := rfl
@[simp] theorem R.bind_exc {α β : Type} (c : String) (f : α → R β) : (R.exc c : R α).bind f = .exc c := rfl
@[simp] theorem R.bind_bad {α β : Type} (f : α → R β) : (R.bad : R α).bind f = .bad := rfl
def R.opt {α : Type} : Option α → R α
  | some a => .ok a
  | none => .bad
@[simp] theorem R.opt_some {α : Type} (a : α) : R.opt (some a) = .ok a := rfl
@[simp] theorem R.opt_none {α : Type} : R.opt (none : Option α) = .bad := rfl
/-- where no exception may leave -/
def R.noX {α : Type} : R α → R α
  | .ok a => .ok a
  | _ => .bad
@[simp] theorem R.noX_ok {α : Type} (a : α) : (R.ok a).noX = .ok a := rfl
@[simp] theorem R.noX_exc {α : Type} (c : String) : (R.exc c : R α).noX = .bad := rfl
@[simp] theorem R.noX_bad {α : Type} : (R.bad : R α).noX = .bad := rfl

/-! ### what value is what data -/
def kD : Key → D
  | .inl i => .int i
  | .inr x => .str x
mutual
inductive Rp (K : PySem.W.Frag) (G : Hp) : V → D → Prop
  | non : Rp K G .non .none
  | bl (b : Bool) : Rp K G (.bl b) (.bool b)
  | int (i : Int) : Rp K G (.int i) (.int i)
  | str (x : Str) : Rp K G (.str x) (.str x)
  | lst {a : Addr} {xs : List V} {ds : List D} : SqL K G a xs → RpA K G xs ds → Rp K G (.ref a) (.list ds)
  | tup {a : Addr} {xs : List V} {ds : List D} : SqT K G a xs → RpA K G xs ds → Rp K G (.ref a) (.tuple ds)
  | dct {a : Addr} {kvs : List (Key × V)} {ds : List (D × D)} : G a = some (.dK kvs) → RpK K G kvs ds → Rp K G (.ref a) (.dict ds)
inductive RpA (K : PySem.W.Frag) (G : Hp) : List V → List D → Prop
  | nil : RpA K G [] []
  | cons {v : V} {vs : List V} {d : D} {ds : List D} : Rp K G v d → RpA K G vs ds → RpA K G (v :: vs) (d :: ds)
inductive RpK (K : PySem.W.Frag) (G : Hp) : List (Key × V) → List (D × D) → Prop
  | nil : RpK K G [] []
  | cons {k : Key} {v : V} {kvs : List (Key × V)} {d : D} {ds : List (D × D)} : Rp K G v d → RpK K G kvs ds → RpK K G ((k, v) :: kvs) ((kD k, d) :: ds)
end

theorem Same.sqt {K : PySem.W.Frag} {H H' : Hp} {a : Addr} {xs : List V} (e : Same H H') (h : SqT K H a xs) : SqT K H' a xs := by
  rcases h with (h | ⟨o, h⟩) | h
  · exact .inl (.inl (e _ _ h))
  · exact .inl (.inr ⟨o, e _ _ h⟩)
  · exact .inr h
section
variable {K : PySem.W.Frag} {G G' H H' : Hp}
mutual
theorem Rp.mono (e : Same G G') : ∀ {v : V} {d : D}, Rp K G v d → Rp K G' v d
  | _, _, .non => .non
  | _, _, .bl b => .bl b
  | _, _, .int i => .int i
  | _, _, .str x => .str x
  | _, _, .lst h a => .lst (e.seq h) (RpA.mono e a)
  | _, _, .tup h a => .tup (Same.sqt e h) (RpA.mono e a)
  | _, _, .dct h a => .dct (e _ _ h) (RpK.mono e a)
theorem RpA.mono (e : Same G G') : ∀ {v : List V} {d : List D}, RpA K G v d → RpA K G' v d
  | _, _, .nil => .nil
  | _, _, .cons a b => .cons (Rp.mono e a) (RpA.mono e b)
theorem RpK.mono (e : Same G G') : ∀ {v : List (Key × V)} {d : List (D × D)}, RpK K G v d → RpK K G' v d
  | _, _, .nil => .nil
  | _, _, .cons a b => .cons (Rp.mono e a) (RpK.mono e b)
end
theorem RpA.length : ∀ {vs : List V} {ds : List D}, RpA K G vs ds → vs.length = ds.length
  | _, _, .nil => rfl
  | _, _, .cons _ b => by simp [RpA.length b]
theorem RpA.append : ∀ {vs ws : List V} {ds es : List D}, RpA K G vs ds → RpA K G ws es → RpA K G (vs ++ ws) (ds ++ es)
  | _, _, _, _, .nil, b => b
  | _, _, _, _, .cons a r, b => .cons a (RpA.append r b)
theorem RpA.take : ∀ (n : Nat) {vs : List V} {ds : List D}, RpA K G vs ds → RpA K G (vs.take n) (ds.take n)
  | 0, _, _, _ => by simpa using RpA.nil
  | _ + 1, _, _, .nil => .nil
  | n + 1, _, _, .cons a b => .cons a (RpA.take n b)
theorem RpA.drop : ∀ (n : Nat) {vs : List V} {ds : List D}, RpA K G vs ds → RpA K G (vs.drop n) (ds.drop n)
  | 0, _, _, h => h
  | _ + 1, _, _, .nil => .nil
  | n + 1, _, _, .cons _ b => RpA.drop n b
theorem RpA.get : ∀ {i : Nat} {vs : List V} {ds : List D} {v : V}, RpA K G vs ds → vs[i]? = some v → ∃ d, ds[i]? = some d ∧ Rp K G v d
  | _, _, _, _, .nil, h => by simp at h
  | 0, _, _, _, .cons a _, h => by simp at h; subst h; exact ⟨_, rfl, a⟩
  | i + 1, _, _, _, .cons _ b, h => by
    obtain ⟨d, h1, h2⟩ := RpA.get (i := i) b (by simpa using h)
    exact ⟨d, by simpa using h1, h2⟩
theorem RpA.getD : ∀ {i : Nat} {vs : List V} {ds : List D} {d : D}, RpA K G vs ds → ds[i]? = some d → ∃ v, vs[i]? = some v ∧ Rp K G v d
  | _, _, _, _, .nil, h => by simp at h
  | 0, _, _, _, .cons a _, h => by simp at h; subst h; exact ⟨_, rfl, a⟩
  | i + 1, _, _, _, .cons _ b, h => by
    obtain ⟨d, h1, h2⟩ := RpA.getD (i := i) b (by simpa using h)
    exact ⟨d, by simpa using h1, h2⟩
theorem RpA.set : ∀ {i : Nat} {vs : List V} {ds : List D} {v : V} {d : D}, RpA K G vs ds → Rp K G v d → RpA K G (vs.set i v) (ds.set i d)
  | _, _, _, _, _, .nil, _ => .nil
  | 0, _, _, _, _, .cons _ b, h => .cons h b
  | _ + 1, _, _, _, _, .cons a b, h => .cons a (RpA.set b h)
theorem RpA.reverse {vs : List V} {ds : List D} (h : RpA K G vs ds) : RpA K G vs.reverse ds.reverse := by
  induction vs generalizing ds with
  | nil => cases h; exact .nil
  | cons v vs ih =>
    cases h with
    | cons a b => rw [List.reverse_cons, List.reverse_cons]; exact (ih b).append (.cons a .nil)

/-! ### extensions -/
/-- G is the frozen part of H; from (G, H) to (G', H'): nothing tracked changes, what is newly frozen is new -/
structure Ext (G H G' H' : Hp) : Prop where
  g : Same G G'
  h : Same H H'
  gh : Same G' H'
  fr : ∀ a, H a ≠ none → G' a ≠ none → G a ≠ none
theorem Ext.refl (gh : Same G H) : Ext G H G H := ⟨.refl _, .refl _, gh, fun _ _ h => h⟩
theorem same_ne (e : Same H H') {a : Addr} (h : H a ≠ none) : H' a ≠ none := by
  cases q : H a with
  | none => exact absurd q h
  | some o => rw [e a o q]; exact fun z => nomatch z
theorem Ext.trans {G1 H1 G2 H2 : Hp} (a : Ext G H G1 H1) (b : Ext G1 H1 G2 H2) : Ext G H G2 H2 :=
  ⟨a.g.trans b.g, a.h.trans b.h, b.gh, fun x h1 h2 => a.fr x h1 (b.fr x (same_ne a.h h1) h2)⟩
theorem same_new {p : Addr} {o : HO} (h : H p = none) : Same H (upd H p o) := fun b x e => by
  rw [upd_ne (ne_of_none e h)]
  exact e
theorem same_upd2 {p : Addr} {o : HO} (h : Same G H) : Same (upd G p o) (upd H p o) := fun b x e => by
  by_cases hb : b = p
  · subst hb; rw [upd_same] at e ⊢; exact e
  · rw [upd_ne hb] at e ⊢; exact h b x e
/-- a new object, frozen at once | kept aside -/
theorem Ext.new {p : Addr} {o : HO} (gh : Same G H) (h : H p = none) : Ext G H (upd G p o) (upd H p o) :=
  ⟨same_new (gh.free h), same_new h, same_upd2 gh, fun a h1 h2 => by
    have : a ≠ p := by rintro rfl; exact h1 h
    rw [upd_ne this] at h2; exact h2⟩
theorem Ext.aside {p : Addr} {o : HO} (gh : Same G H) (h : H p = none) : Ext G H G (upd H p o) :=
  ⟨.refl _, same_new h, gh.trans (same_new h), fun _ _ h2 => h2⟩

/-! ### owned containers -/
inductive OwC (K : PySem.W.Frag) (G H : Hp) : V → D → Prop
  | lst {a : Addr} {xs : List V} {ds : List D} : H a = some (.lst xs) → RpA K G xs ds → OwC K G H (.ref a) (.list ds)
  | dct {a : Addr} {kvs : List (Key × V)} {ds : List (D × D)} : H a = some (.dK kvs) → RpK K G kvs ds → OwC K G H (.ref a) (.dict ds)
theorem OwC.mono {v : V} {d : D} (e : Ext G H G' H') : OwC K G H v d → OwC K G' H' v d
  | .lst h a => .lst (e.h _ _ h) (a.mono e.g)
  | .dct h a => .dct (e.h _ _ h) (a.mono e.g)
/-- how a result lies: frozen; frozen or owned; owned and new -/
inductive Md | sh | bo | fr
  deriving DecidableEq
def RpM (m : Md) (K : PySem.W.Frag) (H0 G H : Hp) (v : V) (d : D) : Prop := match m with
  | .sh => Rp K G v d
  | .bo => Rp K G v d ∨ OwC K G H v d
  | .fr => OwC K G H v d ∧ ∃ a, v = .ref a ∧ H0 a = none ∧ G a = none
abbrev RpB (K : PySem.W.Frag) (G H : Hp) (v : V) (d : D) : Prop := Rp K G v d ∨ OwC K G H v d
theorem RpB.mono {v : V} {d : D} (e : Ext G H G' H') (h : RpB K G H v d) : RpB K G' H' v d := h.elim (fun h => .inl (h.mono e.g)) fun h => .inr (h.mono e)
theorem RpM.back {m : Md} {H0 H1 : Hp} {v : V} {d : D} (e : Same H0 H1) (h : RpM m K H1 G H v d) : RpM m K H0 G H v d := by
  cases m with
  | sh => exact h
  | bo => exact h
  | fr =>
    obtain ⟨h1, a, h2, h3, h4⟩ := h
    exact ⟨h1, a, h2, e.free h3, h4⟩
/-- what is read as a list | as a tuple | as a dict -/
theorem RpB.list {v : V} {ds : List D} (gh : Same G H) (h : RpB K G H v (.list ds)) : ∃ a xs, v = .ref a ∧ SqL K H a xs ∧ RpA K G xs ds := by
  rcases h with h | h
  · cases h with
    | lst h a => exact ⟨_, _, rfl, gh.seq h, a⟩
  · cases h with
    | lst h a => exact ⟨_, _, rfl, .of h, a⟩
theorem RpB.tuple {v : V} {ds : List D} (gh : Same G H) (h : RpB K G H v (.tuple ds)) : ∃ a xs, v = .ref a ∧ SqT K H a xs ∧ RpA K G xs ds := by
  rcases h with h | h
  · cases h with
    | tup h a => exact ⟨_, _, rfl, Same.sqt gh h, a⟩
  · cases h
theorem RpB.dict {v : V} {ds : List (D × D)} (gh : Same G H) (h : RpB K G H v (.dict ds)) : ∃ a kvs, v = .ref a ∧ H a = some (.dK kvs) ∧ RpK K G kvs ds := by
  rcases h with h | h
  · cases h with
    | dct h a => exact ⟨_, _, rfl, gh _ _ h, a⟩
  · cases h with
    | dct h a => exact ⟨_, _, rfl, h, a⟩
theorem RpB.int {v : V} {i : Int} (h : RpB K G H v (.int i)) : v = .int i := by
  rcases h with h | h
  · cases h; rfl
  · cases h
theorem RpB.bl {v : V} {b : Bool} (h : RpB K G H v (.bool b)) : v = .bl b := by
  rcases h with h | h
  · cases h; rfl
  · cases h
theorem RpB.str {v : V} {x : Str} (h : RpB K G H v (.str x)) : v = .str x := by
  rcases h with h | h
  · cases h; rfl
  · cases h
theorem RpB.non {v : V} (h : RpB K G H v .none) : v = .non := by
  rcases h with h | h
  · cases h; rfl
  · cases h

/-! ### the slots -/
inductive SV where
  | sh (d : D)
  | ow (d : D)
  | raw (v : V)
abbrev En := List (Option SV)
def SvR (K : PySem.W.Frag) (B G H : Hp) : SV → V → Prop
  | .sh d, v => Rp K G v d
  | .ow d, v => OwC K G H v d ∧ ∃ a, v = .ref a ∧ G a = none ∧ B a = none
  | .raw w, v => v = w
/-- B, G0: the heap and its frozen part at the def's entry; G: the frozen part of H -/
structure SRep (K : PySem.W.Frag) (B G0 G H : Hp) (σ : L2.St) (ρ : En) : Prop where
  gh : Same G H
  bh : Same B H
  g0 : Same G0 G
  gb : ∀ a, B a ≠ none → G a ≠ none → G0 a ≠ none
  len : σ.length = ρ.length
  sl : ∀ (i : Nat) (s : SV), ρ[i]? = some (some s) → ∃ v, σ[i]? = some (some v) ∧ SvR K B G H s v
  ap : ∀ (i j : Nat) (v : V) (d e : D), ρ[i]? = some (some (.ow d)) → ρ[j]? = some (some (.ow e)) → σ[i]? = some (some v) → σ[j]? = some (some v) → i = j
variable {B G0 : Hp} {σ : L2.St} {ρ : En}
theorem SvR.ext {s : SV} {v : V} (bh : Same B H) (e : Ext G H G' H') (h : SvR K B G H s v) : SvR K B G' H' s v := by
  cases s with
  | sh d => exact Rp.mono e.g h
  | raw w => exact h
  | ow d =>
    obtain ⟨h1, a, h2, h3, h4⟩ := h
    refine ⟨h1.mono e, a, h2, ?_, h4⟩
    cases q : G' a with
    | none => rfl
    | some o =>
      have hH : H a ≠ none := by
        subst h2
        cases h1 with
        | lst h _ => rw [h]; exact fun z => nomatch z
        | dct h _ => rw [h]; exact fun z => nomatch z
      exact absurd h3 (e.fr a hH (by rw [q]; exact fun z => nomatch z))
theorem SRep.ext (s : SRep K B G0 G H σ ρ) (e : Ext G H G' H') : SRep K B G0 G' H' σ ρ where
  gh := e.gh
  bh := s.bh.trans e.h
  g0 := s.g0.trans e.g
  gb := fun a h1 h2 => s.gb a h1 (e.fr a (same_ne s.bh h1) h2)
  len := s.len
  sl := fun i x h => by
    obtain ⟨v, h1, h2⟩ := s.sl i x h
    exact ⟨v, h1, h2.ext s.bh e⟩
  ap := s.ap
end
end DL

namespace DL
open PySem PySem.Spec PyProof.Rows L2

abbrev MG := Str → Option Value
/-- what is wanted of an outcome -/
def Out (m : Md) (K : PySem.W.Frag) (mg : MG) (W : WX) (r : R D) (σ : L2.St) (G H : Hp) (Q : VK) : Prop := match r with
  | .ok d => ∀ v G' H', Ext G H G' H' → RpM m K H G' H' v d → Q v H'
  | .exc c => ∀ C G' H', Ext G H G' H' → mg (Str.ofString c) = some C → W C none σ H'
  | .bad => False
def OutT (mg : MG) (W : WX) (r : R Bool) (σ : L2.St) (G H : Hp) (Q : Bool → Hp → Prop) : Prop := match r with
  | .ok b => ∀ G' H', Ext G H G' H' → Q b H'
  | .exc c => ∀ C G' H', Ext G H G' H' → mg (Str.ofString c) = some C → W C none σ H'
  | .bad => False
def OutA (K : PySem.W.Frag) (mg : MG) (W : WX) (r : R (List D)) (σ : L2.St) (G H : Hp) (Q : List V → Hp → Prop) : Prop := match r with
  | .ok ds => ∀ vs G' H', Ext G H G' H' → RpA K G' vs ds → Q vs H'
  | .exc c => ∀ C G' H', Ext G H G' H' → mg (Str.ofString c) = some C → W C none σ H'
  | .bad => False
def tD (m : Md) (K : PySem.W.Frag) (mg : MG) (W : WX) (g : En → R D) : TE := fun σ H Q => ∃ B G0 ρ G, SRep K B G0 G H σ ρ ∧ Out m K mg W (g ρ) σ G H Q
def tT (K : PySem.W.Frag) (mg : MG) (W : WX) (g : En → R Bool) : TT := fun σ H Q => ∃ B G0 ρ G, SRep K B G0 G H σ ρ ∧ OutT mg W (g ρ) σ G H Q
def tA (K : PySem.W.Frag) (mg : MG) (W : WX) (g : En → R (List D)) : TA := fun σ H Q => ∃ B G0 ρ G, SRep K B G0 G H σ ρ ∧ OutA K mg W (g ρ) σ G H Q
/-- e has the outcome g of what the slots hold -/
def ED (m : Md) (X : Cx) (W : WX) (e : Expr) (g : En → R D) : Prop := PE X e (tD m X.K X.mg W g)
def TD (X : Cx) (W : WX) (e : Expr) (g : En → R Bool) : Prop := PT X e (tT X.K X.mg W g)
def WD (X : Cx) (W : WX) (e : Expr) (g : En → R Bool) : Prop := PW X e (tT X.K X.mg W g)
def AD (X : Cx) (W : WX) (es : List Expr) (g : En → R (List D)) : Prop := PA X es (tA X.K X.mg W g)

theorem PE.imp {X : Cx} {e : Expr} {t t' : TE} (h : PE X e t) (i : ∀ σ H Q, t' σ H Q → t σ H Q) : PE X e t' := ⟨fun pins s σ H Q I q => h.run pins s σ H Q I (i _ _ _ q)⟩
theorem PT.imp {X : Cx} {e : Expr} {t t' : TT} (h : PT X e t) (i : ∀ σ H Q, t' σ H Q → t σ H Q) : PT X e t' := ⟨fun pins s σ H Q I q => h.run pins s σ H Q I (i _ _ _ q)⟩
theorem PW.imp {X : Cx} {e : Expr} {t t' : TT} (h : PW X e t) (i : ∀ σ H Q, t' σ H Q → t σ H Q) : PW X e t' := ⟨fun wh pins s σ H Q I q => h.run wh pins s σ H Q I (i _ _ _ q)⟩
theorem PA.imp {X : Cx} {e : List Expr} {t t' : TA} (h : PA X e t) (i : ∀ σ H Q, t' σ H Q → t σ H Q) : PA X e t' := ⟨fun pos pins s σ H Q I q => h.run pos pins s σ H Q I (i _ _ _ q)⟩

section
variable {K : PySem.W.Frag} {mg : MG} {W : WX} {B G0 G G' H H' : Hp} {σ : L2.St} {ρ : En} {m m1 : Md}
theorem Out.ext {r : R D} {Q : VK} (e : Ext G H G' H') (o : Out m K mg W r σ G H Q) : Out m K mg W r σ G' H' Q := by
  cases r with
  | ok d => exact fun v G2 H2 e2 r2 => o v G2 H2 (e.trans e2) (r2.back e.h)
  | exc c => exact fun C G2 H2 e2 => o C G2 H2 (e.trans e2)
  | bad => exact o
theorem OutT.ext {r : R Bool} {Q : Bool → Hp → Prop} (e : Ext G H G' H') (o : OutT mg W r σ G H Q) : OutT mg W r σ G' H' Q := by
  cases r with
  | ok d => exact fun G2 H2 e2 => o G2 H2 (e.trans e2)
  | exc c => exact fun C G2 H2 e2 => o C G2 H2 (e.trans e2)
  | bad => exact o
theorem OutA.ext {r : R (List D)} {Q : List V → Hp → Prop} (e : Ext G H G' H') (o : OutA K mg W r σ G H Q) : OutA K mg W r σ G' H' Q := by
  cases r with
  | ok d => exact fun v G2 H2 e2 r2 => o v G2 H2 (e.trans e2) r2
  | exc c => exact fun C G2 H2 e2 => o C G2 H2 (e.trans e2)
  | bad => exact o
/-- what goes on behind a first part: any kind of outcome -/
structure Kind (mg : MG) (W : WX) (σ : L2.St) (α : Type) (Oc : R α → Hp → Hp → Prop) : Prop where
  ext : ∀ {r G H G' H'}, Ext G H G' H' → Oc r G H → Oc r G' H'
  exc : ∀ {c G H}, Oc (.exc c) G H → ∀ C G' H', Ext G H G' H' → mg (Str.ofString c) = some C → W C none σ H'
  bad : ∀ {G H}, ¬ Oc .bad G H
theorem kD_ {Q : VK} : Kind mg W σ D fun r G H => Out m K mg W r σ G H Q := ⟨fun e o => Out.ext e o, fun o => o, fun o => o⟩
theorem kT_ {Q : Bool → Hp → Prop} : Kind mg W σ Bool fun r G H => OutT mg W r σ G H Q := ⟨fun e o => OutT.ext e o, fun o => o, fun o => o⟩
theorem kA_ {Q : List V → Hp → Prop} : Kind mg W σ (List D) fun r G H => OutA K mg W r σ G H Q := ⟨fun e o => OutA.ext e o, fun o => o, fun o => o⟩
/-- THE STEP: behind the first part's value -/
theorem stepD {α : Type} {Oc : R α → Hp → Hp → Prop} (kd : Kind mg W σ α Oc) {g : En → R D} {k : D → R α} {P : VK} (s : SRep K B G0 G H σ ρ) (o : Oc ((g ρ).bind k) G H)
    (hp : ∀ d v G' H', SRep K B G0 G' H' σ ρ → Ext G H G' H' → RpM m K H G' H' v d → Oc (k d) G' H' → P v H') : tD m K mg W g σ H P := by
  refine ⟨B, G0, ρ, G, s, ?_⟩
  revert o
  cases e : g ρ with
  | ok d => exact fun o v G' H' x r => hp d v G' H' (s.ext x) x r (kd.ext x o)
  | exc c => exact fun o C G' H' x hm => kd.exc o C G' H' x hm
  | bad => exact fun o => absurd o kd.bad
theorem stepT {α : Type} {Oc : R α → Hp → Hp → Prop} (kd : Kind mg W σ α Oc) {g : En → R Bool} {k : Bool → R α} {P : Bool → Hp → Prop} (s : SRep K B G0 G H σ ρ) (o : Oc ((g ρ).bind k) G H)
    (hp : ∀ d G' H', SRep K B G0 G' H' σ ρ → Ext G H G' H' → Oc (k d) G' H' → P d H') : tT K mg W g σ H P := by
  refine ⟨B, G0, ρ, G, s, ?_⟩
  revert o
  cases e : g ρ with
  | ok d => exact fun o G' H' x => hp d G' H' (s.ext x) x (kd.ext x o)
  | exc c => exact fun o C G' H' x hm => kd.exc o C G' H' x hm
  | bad => exact fun o => absurd o kd.bad
theorem stepA {α : Type} {Oc : R α → Hp → Hp → Prop} (kd : Kind mg W σ α Oc) {g : En → R (List D)} {k : List D → R α} {P : List V → Hp → Prop} (s : SRep K B G0 G H σ ρ) (o : Oc ((g ρ).bind k) G H)
    (hp : ∀ ds vs G' H', SRep K B G0 G' H' σ ρ → Ext G H G' H' → RpA K G' vs ds → Oc (k ds) G' H' → P vs H') : tA K mg W g σ H P := by
  refine ⟨B, G0, ρ, G, s, ?_⟩
  revert o
  cases e : g ρ with
  | ok d => exact fun o v G' H' x r => hp d v G' H' (s.ext x) x r (kd.ext x o)
  | exc c => exact fun o C G' H' x hm => kd.exc o C G' H' x hm
  | bad => exact fun o => absurd o kd.bad

/-- an outcome as a partial function -/
theorem out_opt {o : Option D} {Q : VK} (h : Out m K mg W (R.opt o) σ G H Q) : ∃ d, o = some d ∧ ∀ v G' H', Ext G H G' H' → RpM m K H G' H' v d → Q v H' := by
  cases o with
  | none => exact h.elim
  | some d => exact ⟨d, rfl, h⟩
end

/-! ### coercions -/
section
variable {X : Cx} {W : WX} {e a b : Expr} {g ga gb : En → R D} {pos : Pos}
theorem OwC.freeze {K : PySem.W.Frag} {G H : Hp} {a : Addr} {v : V} {d : D} {o : HO} (ev : v = .ref a) (ho : H a = some o) (ga : G a = none) (h : OwC K G H v d) : Rp K (upd G a o) v d := by
  subst ev
  cases h with
  | lst h r => rw [h] at ho; cases ho; exact .lst (.of upd_same) (r.mono (same_new ga))
  | dct h r => rw [h] at ho; cases ho; exact .dct upd_same (r.mono (same_new ga))
theorem OwC.there {K : PySem.W.Frag} {G H : Hp} {v : V} {d : D} (h : OwC K G H v d) : ∃ a o, v = .ref a ∧ H a = some o := by
  cases h with
  | lst h r => exact ⟨_, _, rfl, h⟩
  | dct h r => exact ⟨_, _, rfl, h⟩
theorem Ext.freeze {G H G' H' : Hp} {a : Addr} {o : HO} (e : Ext G H G' H') (h0 : H a = none) (ho : H' a = some o) (g : G' a = none) : Ext G H (upd G' a o) H' :=
  ⟨e.g.trans (same_new g), e.h, fun b u q => by
    by_cases hb : b = a
    · subst hb; rw [upd_same] at q; rw [← q]; exact ho
    · rw [upd_ne hb] at q; exact e.gh b u q, fun b h1 h2 => e.fr b h1 (by
    have : b ≠ a := by rintro rfl; exact h1 h0
    rw [upd_ne this] at h2; exact h2)⟩
/-- a new container is frozen at once -/
theorem ED.frz (h : ED .fr X W e g) : ED .sh X W e g := PE.imp h fun σ H Q ⟨B, G0, ρ, G, s, o⟩ => by
  refine ⟨B, G0, ρ, G, s, ?_⟩
  revert o
  cases g ρ with
  | ok d =>
    intro o v G' H' x r
    obtain ⟨c, a, ev, h0, g0⟩ := r
    obtain ⟨a', u, ev', hu⟩ := c.there
    rw [ev] at ev'; cases ev'
    exact o v _ H' (x.freeze h0 hu g0) (c.freeze ev hu g0)
  | exc c => exact fun o => o
  | bad => exact fun o => o
theorem ED.sb (h : ED .sh X W e g) : ED .bo X W e g := PE.imp h fun σ H Q ⟨B, G0, ρ, G, s, o⟩ => by
  refine ⟨B, G0, ρ, G, s, ?_⟩
  revert o
  cases g ρ with
  | ok d => exact fun o v G' H' x r => o v G' H' x (.inl r)
  | exc c => exact fun o => o
  | bad => exact fun o => o
theorem ED.fb (h : ED .fr X W e g) : ED .bo X W e g := PE.imp h fun σ H Q ⟨B, G0, ρ, G, s, o⟩ => by
  refine ⟨B, G0, ρ, G, s, ?_⟩
  revert o
  cases g ρ with
  | ok d => exact fun o v G' H' x r => o v G' H' x (.inr r.1)
  | exc c => exact fun o => o
  | bad => exact fun o => o

/-! ### names, constants -/
def rdS (i : Nat) : En → R D := fun ρ => match ρ[i]? with
  | some (some (.sh d)) => .ok d
  | _ => .bad
def rdB (i : Nat) : En → R D := fun ρ => match ρ[i]? with
  | some (some (.sh d)) => .ok d
  | some (some (.ow d)) => .ok d
  | _ => .bad
theorem ed_var (i : Nat) {x : Str} (hN : X.N[i]? = some x := by rfl) (hv : Vis X.env.scope x := by first | exact Or.inl rfl | exact Or.inr (Or.inl rfl) | exact Or.inr (Or.inr rfl)) (hd : (x == ("__debug__" : Str)) = false := by decide)
    (hcd : (x == ("__classdict__" : Str)) = false := by decide) : ED .sh X W (.Name x pos) (rdS i) := PE.imp (pe_var (i := i) hN hv hd hcd) fun σ H Q ⟨B, G0, ρ, G, s, o⟩ => by
  revert o
  unfold rdS
  cases e : ρ[i]? with
  | none => exact fun o => o.elim
  | some y =>
    cases y with
    | none => exact fun o => o.elim
    | some z =>
      cases z with
      | sh d =>
        obtain ⟨v, h1, h2⟩ := s.sl i _ e
        exact fun o => ⟨v, h1, o v G H (.refl s.gh) h2⟩
      | ow d => exact fun o => o.elim
      | raw v => exact fun o => o.elim
theorem ed_bor (i : Nat) {x : Str} (hN : X.N[i]? = some x := by rfl) (hv : Vis X.env.scope x := by first | exact Or.inl rfl | exact Or.inr (Or.inl rfl) | exact Or.inr (Or.inr rfl)) (hd : (x == ("__debug__" : Str)) = false := by decide)
    (hcd : (x == ("__classdict__" : Str)) = false := by decide) : ED .bo X W (.Name x pos) (rdB i) := PE.imp (pe_var (i := i) hN hv hd hcd) fun σ H Q ⟨B, G0, ρ, G, s, o⟩ => by
  revert o
  unfold rdB
  cases e : ρ[i]? with
  | none => exact fun o => o.elim
  | some y =>
    cases y with
    | none => exact fun o => o.elim
    | some z =>
      cases z with
      | sh d =>
        obtain ⟨v, h1, h2⟩ := s.sl i _ e
        exact fun o => ⟨v, h1, o v G H (.refl s.gh) (.inl h2)⟩
      | ow d =>
        obtain ⟨v, h1, h2⟩ := s.sl i _ e
        exact fun o => ⟨v, h1, o v G H (.refl s.gh) (.inr h2.1)⟩
      | raw v => exact fun o => o.elim
def cst (d : D) : En → R D := fun _ => .ok d
theorem ed_cst {v : V} {d : D} (h : PE X e (tC v)) (hr : ∀ G, Rp X.K G v d) : ED .sh X W e (cst d) := PE.imp h fun σ H Q ⟨B, G0, ρ, G, s, o⟩ => o v G H (.refl s.gh) (hr G)
theorem ed_int {i j} : ED .sh X W (.Constant (.int i) j pos) (cst (.int i)) := ed_cst pe_int fun _ => .int i
theorem ed_str {i j} : ED .sh X W (.Constant (.str i) j pos) (cst (.str i)) := ed_cst pe_str fun _ => .str i
theorem ed_bl {i j} : ED .sh X W (.Constant (.bool i) j pos) (cst (.bool i)) := ed_cst pe_bl fun _ => .bl i
theorem ed_non {j} : ED .sh X W (.Constant .none j pos) (cst .none) := ed_cst pe_non fun _ => .non
/-- a module's constant -/
theorem ed_glob {x : Str} {v : V} {u : Value} {d : D} (hg : Gl X x) (hm : X.mg x = some u) (r : RelV v u) (hr : ∀ G, Rp X.K G v d) (hd : (x == ("__debug__" : Str)) = false := by decide) : ED .sh X W (.Name x pos) (cst d) :=
  ed_cst (pe_glob hg hm r hd) hr

/-! ### two-place operations -/
/-- r does f, its result as m says -/
def OpD (m : Md) (K : PySem.W.Frag) (r : R2) (f : D → D → Option D) : Prop :=
  ∀ x y d v u G H Q, Same G H → RpB K G H v x → RpB K G H u y → f x y = some d → (∀ w G' H', Ext G H G' H' → RpM m K H G' H' w d → Q w H') → r v u H Q
def op2 (f : D → D → Option D) (ga gb : En → R D) : En → R D := fun ρ => (ga ρ).bind fun x => (gb ρ).bind fun y => R.opt (f x y)
theorem tOp_D {m : Md} {K : PySem.W.Frag} {mg : MG} {r : R2} {f : D → D → Option D} (hf : OpD m K r f) {σ : L2.St} {H : Hp} {Q : VK} (h : tD m K mg W (op2 f ga gb) σ H Q) : tOp r (tD .bo K mg W ga) (tD .bo K mg W gb) σ H Q := by
  obtain ⟨B, G0, ρ, G, s, o⟩ := h
  refine stepD kD_ s o fun x v G1 H1 s1 e1 r1 o1 => stepD kD_ s1 o1 fun y u G2 H2 s2 e2 r2 o2 => ?_
  obtain ⟨d, h1, h2⟩ := out_opt o2
  exact hf x y d v u G2 H2 Q s2.gh (RpB.mono e2 r1) r2 h1 h2
theorem ed_op {m : Md} {op : Operator} {r : R2} {f : D → D → Option D} (ho : OpR X (binaryOp op) r) (hf : OpD m X.K r f) (ha : ED .bo X W a ga) (hb : ED .bo X W b gb) : ED m X W (.BinOp a op b pos) (op2 f ga gb) :=
  PE.imp (pe_op ho ha hb) fun _ _ _ h => tOp_D hf h
theorem ed_cmp {m : Md} {op : CmpOp} {r : R2} {f : D → D → Option D} (ho : OpR X (compareOp op) r) (hf : OpD m X.K r f) (ha : ED .bo X W a ga) (hb : ED .bo X W b gb) (hm : behindInMarks op b = false) : ED m X W (.Compare a [op] [b] pos) (op2 f ga gb) :=
  PE.imp (pe_cmpR ho ha hb hm) fun _ _ _ h => tOp_D hf h
theorem ed_ix {m : Md} {r : R2} {f : D → D → Option D} (ho : IxR X r) (hf : OpD m X.K r f) (ha : ED .bo X W a ga) (hb : ED .bo X W b gb) (hs : PlainIx b) : ED m X W (.Subscript a b pos) (op2 f ga gb) :=
  PE.imp (pe_ix ho ha hb hs) fun _ _ _ h => tOp_D hf h
/-- a test whose value is a bool -/
def asB : D → R Bool
  | .bool b => .ok b
  | _ => .bad
def tst (g : En → R D) : En → R Bool := fun ρ => (g ρ).bind asB
theorem asB_of {K : PySem.W.Frag} {mg : MG} {W : WX} {G H : Hp} {σ : L2.St} {d : D} {v : V} {Q : Bool → Hp → Prop} (r : RpB K G H v d) (gh : Same G H) (o : OutT mg W (asB d) σ G H Q) : ∃ k, v = .bl k ∧ Q k H := by
  cases d with
  | bool b => exact ⟨b, RpB.bl r, o G H (.refl gh)⟩
  | _ => exact o.elim
theorem td_val (h : ED .bo X W e g) (he : ∀ whole, isTrue e X.env whole = (do let v ← whole; standAt e.pos; holding [v] (truthy v)) := by intro _; rfl) : TD X W e (tst g) :=
  PT.imp (pt_val h he) fun σ H Q ⟨B, G0, ρ, G, s, o⟩ => stepD kT_ s o fun d v G1 H1 s1 e1 r1 o1 => asB_of r1 s1.gh o1
theorem td_cmp {op : CmpOp} {r : R2} {f : D → D → Option D} (ho : OpR X (compareOp op) r) (hf : OpD .bo X.K r f) (ha : ED .bo X W a ga) (hb : ED .bo X W b gb) (hm : behindInMarks op b = false) : TD X W (.Compare a [op] [b] pos) (tst (op2 f ga gb)) :=
  PT.imp (pt_cmpR ho ha hb hm) fun σ H Q h => by
    obtain ⟨B, G0, ρ, G, s, o⟩ := h
    have h2 : tD .bo X.K X.mg W (op2 f ga gb) σ H (fun x H' => ∃ k, x = .bl k ∧ Q k H') := stepD kT_ s o fun d v G1 H1 s1 e1 r1 o1 => asB_of r1 s1.gh o1
    exact tOp_D hf h2
/-! ### and, or, not; if .. else -/
def andT (a b : En → R Bool) : En → R Bool := fun ρ => (a ρ).bind fun c => if c = true then b ρ else .ok false
def orT (a b : En → R Bool) : En → R Bool := fun ρ => (a ρ).bind fun c => if c = true then .ok true else b ρ
def notT (a : En → R Bool) : En → R Bool := fun ρ => (a ρ).bind fun c => .ok (!c)
variable {ta tb : En → R Bool} {rest : List Expr}
theorem wd_and1 (h : TD X W a ta) : WD X W (.BoolOp .And [a] pos) ta := pw_and1 h
theorem wd_or1 (h : TD X W a ta) : WD X W (.BoolOp .Or [a] pos) ta := pw_or1 h
theorem wd_and (h : TD X W a ta) (h2 : WD X W (.BoolOp .And (b :: rest) pos) tb) : WD X W (.BoolOp .And (a :: b :: rest) pos) (andT ta tb) :=
  PW.imp (pw_and h h2) fun σ H Q ⟨B, G0, ρ, G, s, o⟩ => stepT kT_ s o fun d G1 H1 s1 e1 o1 => by
    cases d with
    | true => rw [if_pos rfl] at o1 ⊢; exact ⟨B, G0, ρ, G1, s1, o1⟩
    | false => rw [if_neg Bool.false_ne_true] at o1 ⊢; exact o1 G1 H1 (.refl s1.gh)
theorem wd_or (h : TD X W a ta) (h2 : WD X W (.BoolOp .Or (b :: rest) pos) tb) : WD X W (.BoolOp .Or (a :: b :: rest) pos) (orT ta tb) :=
  PW.imp (pw_or h h2) fun σ H Q ⟨B, G0, ρ, G, s, o⟩ => stepT kT_ s o fun d G1 H1 s1 e1 o1 => by
    cases d with
    | true => rw [if_pos rfl] at o1 ⊢; exact o1 G1 H1 (.refl s1.gh)
    | false => rw [if_neg Bool.false_ne_true] at o1 ⊢; exact ⟨B, G0, ρ, G1, s1, o1⟩
theorem WD.td (h : WD X W e ta) : TD X W e ta := L2.PW.pt h
theorem td_not (h : TD X W a ta) : TD X W (.UnaryOp .Not a pos) (notT ta) :=
  PT.imp (pt_not h) fun σ H Q ⟨B, G0, ρ, G, s, o⟩ => stepT kT_ s o fun d G1 H1 s1 e1 o1 => o1 G1 H1 (.refl s1.gh)
/-- as values -/
def bl (g : En → R Bool) : En → R D := fun ρ => (g ρ).bind fun b => .ok (.bool b)
def andV (a b : En → R D) : En → R D := fun ρ => (a ρ).bind fun d => (asB d).bind fun c => if c = true then b ρ else .ok (.bool false)
def orV (a b : En → R D) : En → R D := fun ρ => (a ρ).bind fun d => (asB d).bind fun c => if c = true then .ok (.bool true) else b ρ
def notV (a : En → R D) : En → R D := fun ρ => (a ρ).bind fun d => (asB d).bind fun c => .ok (.bool (!c))
theorem ed_one {op} (h : ED .sh X W a ga) : ED .sh X W (.BoolOp op [a] pos) ga := pe_one h
theorem asB_is {α : Type} {K : PySem.W.Frag} {mg : MG} {W : WX} {G H : Hp} {σ : L2.St} {d : D} {v : V} {Oc : R α → Hp → Hp → Prop} {k : Bool → R α} (kd : Kind mg W σ α Oc) (r : RpB K G H v d) (o : Oc ((asB d).bind k) G H) : ∃ c, d = .bool c ∧ v = .bl c ∧ Oc (k c) G H := by
  cases d with
  | bool b => exact ⟨b, rfl, RpB.bl r, o⟩
  | _ => exact absurd o kd.bad
theorem ed_and (h : ED .sh X W a ga) (h2 : ED .sh X W (.BoolOp .And (b :: rest) pos) gb) : ED .sh X W (.BoolOp .And (a :: b :: rest) pos) (andV ga gb) :=
  PE.imp (pe_and h h2) fun σ H Q ⟨B, G0, ρ, G, s, o⟩ => stepD (m := .sh) kD_ s o fun d v G1 H1 s1 e1 r1 o1 => by
    obtain ⟨c, _, rfl, o2⟩ := asB_is kD_ (.inl r1) o1
    refine ⟨c, rfl, ?_⟩
    cases c with
    | true => rw [if_pos rfl] at o2 ⊢; exact ⟨B, G0, ρ, G1, s1, o2⟩
    | false => rw [if_neg Bool.false_ne_true] at o2 ⊢; exact o2 _ G1 H1 (.refl s1.gh) (.bl false)
theorem ed_or (h : ED .sh X W a ga) (h2 : ED .sh X W (.BoolOp .Or (b :: rest) pos) gb) : ED .sh X W (.BoolOp .Or (a :: b :: rest) pos) (orV ga gb) :=
  PE.imp (pe_or h h2) fun σ H Q ⟨B, G0, ρ, G, s, o⟩ => stepD (m := .sh) kD_ s o fun d v G1 H1 s1 e1 r1 o1 => by
    obtain ⟨c, _, rfl, o2⟩ := asB_is kD_ (.inl r1) o1
    refine ⟨c, rfl, ?_⟩
    cases c with
    | true => rw [if_pos rfl] at o2 ⊢; exact o2 _ G1 H1 (.refl s1.gh) (.bl true)
    | false => rw [if_neg Bool.false_ne_true] at o2 ⊢; exact ⟨B, G0, ρ, G1, s1, o2⟩
theorem ed_not (h : ED .sh X W a ga) : ED .sh X W (.UnaryOp .Not a pos) (notV ga) :=
  PE.imp (pe_not h) fun σ H Q ⟨B, G0, ρ, G, s, o⟩ => stepD (m := .sh) kD_ s o fun d v G1 H1 s1 e1 r1 o1 => by
    obtain ⟨c, _, rfl, o2⟩ := asB_is kD_ (.inl r1) o1
    exact ⟨c, rfl, o2 _ G1 H1 (.refl s1.gh) (.bl _)⟩
def iteV (t : En → R Bool) (a b : En → R D) : En → R D := fun ρ => (t ρ).bind fun c => if c = true then a ρ else b ρ
theorem ed_if {m : Md} {c : Expr} (hc : TD X W c ta) (ha : ED m X W a ga) (hb : ED m X W b gb) : ED m X W (.IfExp c a b pos) (iteV ta ga gb) :=
  PE.imp (pe_ifExp hc ha hb) fun σ H Q ⟨B, G0, ρ, G, s, o⟩ => stepT kD_ s o fun d G1 H1 s1 e1 o1 => by
    cases d with
    | true => rw [if_pos rfl] at o1 ⊢; exact ⟨B, G0, ρ, G1, s1, o1⟩
    | false => rw [if_neg Bool.false_ne_true] at o1 ⊢; exact ⟨B, G0, ρ, G1, s1, o1⟩
/-! ### argument lists, displays -/
def aNil : En → R (List D) := fun _ => .ok []
def aCons (g : En → R D) (r : En → R (List D)) : En → R (List D) := fun ρ => (g ρ).bind fun d => (r ρ).bind fun ds => .ok (d :: ds)
theorem ad_nil : AD X W [] aNil := PA.imp pa_nil fun σ H Q ⟨B, G0, ρ, G, s, o⟩ => o [] G H (.refl s.gh) .nil
theorem ad_cons {es : List Expr} {r : En → R (List D)} (ha : ED .sh X W e g) (hr : AD X W es r) (hs : starEach (e :: es) X.env = (false, eval e X.env) :: starEach es X.env := by rfl) : AD X W (e :: es) (aCons g r) :=
  PA.imp (pa_cons ha hr hs) fun σ H Q ⟨B, G0, ρ, G, s, o⟩ => stepD kA_ s o fun d v G1 H1 s1 e1 r1 o1 => stepA kA_ s1 o1 fun ds vs G2 H2 s2 e2 r2 o2 =>
    o2 (v :: vs) G2 H2 (.refl s2.gh) (.cons (Rp.mono e2.g r1) r2)
def LIM : Nat := 16777216
theorem lim_eq : LIM = sizeLine := by rw [sizeLine_eq]; rfl
def mkT (r : En → R (List D)) : En → R D := fun ρ => (r ρ).bind fun ds => if ds.length ≤ LIM then .ok (.tuple ds) else .bad
def mkL (r : En → R (List D)) : En → R D := fun ρ => (r ρ).bind fun ds => if ds.length ≤ LIM then .ok (.list ds) else .bad
variable {es : List Expr} {r : En → R (List D)}
theorem ed_tup {x1} (h : AD X W es r) : ED .sh X W (.Tuple es x1 pos) (mkT r) :=
  PE.imp (pe_tup h) fun σ H Q ⟨B, G0, ρ, G, s, o⟩ => stepA kD_ s o fun ds vs G1 H1 s1 e1 r1 o1 => by
    by_cases hl : ds.length ≤ LIM
    · rw [if_pos hl] at o1
      refine ⟨by rw [r1.length, ← lim_eq]; exact hl, fun p hp => o1 _ _ _ (.new s1.gh hp) ?_⟩
      exact .tup (.of upd_same) (r1.mono (same_new (s1.gh.free hp)))
    · rw [if_neg hl] at o1; exact o1.elim
theorem ed_lst (h : AD X W es r) : ED .fr X W (.List es pos) (mkL r) :=
  PE.imp (pe_lst h) fun σ H Q ⟨B, G0, ρ, G, s, o⟩ => stepA kD_ s o fun ds vs G1 H1 s1 e1 r1 o1 => by
    by_cases hl : ds.length ≤ LIM
    · rw [if_pos hl] at o1
      refine ⟨by rw [r1.length, ← lim_eq]; exact hl, fun p hp => o1 _ _ _ (.aside s1.gh hp) ⟨.lst upd_same r1, p, rfl, hp, s1.gh.free hp⟩⟩
    · rw [if_neg hl] at o1; exact o1.elim
end
end DL

namespace DL
open PySem PySem.Spec PyProof.Rows L2

/-! ### statements -/
inductive SO where
  | nx (ρ : En)
  | rt (d : D)
  | br (ρ : En)
  | ct (ρ : En)
  | exc (c : String)
  | bad
/-- what stands at a def's end, whatever the slots hold -/
structure Fin (B G0 G H : Hp) : Prop where
  gh : Same G H
  bh : Same B H
  g0 : Same G0 G
  gb : ∀ a, B a ≠ none → G a ≠ none → G0 a ≠ none
def blank (n : Nat) : En := List.replicate n none
def OutS (K : PySem.W.Frag) (mg : MG) (W : WX) (B G0 : Hp) (r : SO) (D : Ends) : Prop := match r with
  | .nx ρ => ∀ σ G H, SRep K B G0 G H σ ρ → D.nx σ H
  | .br ρ => ∀ σ G H, SRep K B G0 G H σ ρ → D.bk σ H
  | .ct ρ => ∀ σ G H, SRep K B G0 G H σ ρ → D.ct σ H
  | .rt d => ∀ G H v, Fin B G0 G H → Rp K G v d → D.rt v H
  | .exc c => ∀ σ G H C, Fin B G0 G H → mg (Str.ofString c) = some C → W C none σ H
  | .bad => False
def tS (K : PySem.W.Frag) (mg : MG) (W : WX) (g : En → SO) : TS := fun D σ H => ∃ B G0 ρ G, SRep K B G0 G H σ ρ ∧ OutS K mg W B G0 (g ρ) D
def SD (X : Cx) (W : WX) (st : Stmt) (g : En → SO) : Prop := PS X st (tS X.K X.mg W g)
def BD (X : Cx) (W : WX) (st : List Stmt) (g : En → SO) : Prop := PSs X st (tS X.K X.mg W g)
theorem PS.imp {X : Cx} {e : Stmt} {t t' : TS} (h : PS X e t) (i : ∀ D σ H, t' D σ H → t D σ H) : PS X e t' := ⟨fun pins s σ H D I q => h.run pins s σ H D I (i _ _ _ q)⟩
theorem PSs.imp {X : Cx} {e : List Stmt} {t t' : TS} (h : PSs X e t) (i : ∀ D σ H, t' D σ H → t D σ H) : PSs X e t' := ⟨fun pins s σ H D I q => h.run pins s σ H D I (i _ _ _ q)⟩

section
variable {K : PySem.W.Frag} {mg : MG} {W : WX} {B G0 G G' H H' : Hp} {σ : L2.St} {ρ : En} {m m1 : Md}
theorem SRep.fin (s : SRep K B G0 G H σ ρ) : Fin B G0 G H := ⟨s.gh, s.bh, s.g0, s.gb⟩
theorem Fin.rep (s : Fin B G0 G H) : SRep K B G0 G H σ (blank σ.length) where
  gh := s.gh
  bh := s.bh
  g0 := s.g0
  gb := s.gb
  len := by simp [DL.blank]
  sl := fun i x h => by
    unfold DL.blank at h
    rw [List.getElem?_replicate] at h
    split at h
    · cases h
    · cases h
  ap := fun i j v d e h => by
    unfold DL.blank at h
    rw [List.getElem?_replicate] at h
    split at h
    · cases h
    · cases h
/-- a slot gets frozen data -/
theorem SRep.set (s : SRep K B G0 G H σ ρ) {i : Nat} {v : V} {d : D} (r : Rp K G v d) : SRep K B G0 G H (σ.set i (some v)) (ρ.set i (some (.sh d))) where
  gh := s.gh
  bh := s.bh
  g0 := s.g0
  gb := s.gb
  len := by rw [List.length_set, List.length_set]; exact s.len
  sl := fun j x h => by
    by_cases hj : i = j
    · subst hj
      by_cases hl : i < ρ.length
      · rw [List.getElem?_set_self hl] at h
        cases h
        exact ⟨v, List.getElem?_set_self (by rw [s.len]; exact hl), r⟩
      · rw [List.getElem?_eq_none (by rw [List.length_set]; omega)] at h; cases h
    · rw [List.getElem?_set_ne hj] at h ⊢
      exact s.sl j x h
  ap := fun j k u d' e h1 h2 h3 h4 => by
    have hj : i ≠ j := by
      rintro rfl
      by_cases hl : i < ρ.length
      · rw [List.getElem?_set_self hl] at h1; cases h1
      · rw [List.getElem?_eq_none (by rw [List.length_set]; omega)] at h1; cases h1
    have hk : i ≠ k := by
      rintro rfl
      by_cases hl : i < ρ.length
      · rw [List.getElem?_set_self hl] at h2; cases h2
      · rw [List.getElem?_eq_none (by rw [List.length_set]; omega)] at h2; cases h2
    rw [List.getElem?_set_ne hj] at h1 h3
    rw [List.getElem?_set_ne hk] at h2 h4
    exact s.ap j k u d' e h1 h2 h3 h4
/-- a slot gets a new owned container -/
theorem SRep.own (s : SRep K B G0 G H σ ρ) {i : Nat} {v : V} {d : D} (r : OwC K G H v d) {a : Addr} (ev : v = .ref a) (hg : G a = none) (hb : B a = none)
    (hne : ∀ (j : Nat) (e : D), j ≠ i → ρ[j]? = some (some (.ow e)) → σ[j]? ≠ some (some v)) : SRep K B G0 G H (σ.set i (some v)) (ρ.set i (some (.ow d))) where
  gh := s.gh
  bh := s.bh
  g0 := s.g0
  gb := s.gb
  len := by rw [List.length_set, List.length_set]; exact s.len
  sl := fun j x h => by
    by_cases hj : i = j
    · subst hj
      by_cases hl : i < ρ.length
      · rw [List.getElem?_set_self hl] at h
        cases h
        exact ⟨v, List.getElem?_set_self (by rw [s.len]; exact hl), r, a, ev, hg, hb⟩
      · rw [List.getElem?_eq_none (by rw [List.length_set]; omega)] at h; cases h
    · rw [List.getElem?_set_ne hj] at h ⊢
      exact s.sl j x h
  ap := fun j k u d' e h1 h2 h3 h4 => by
    by_cases hj : i = j
    · by_cases hk : i = k
      · exact hj.symm.trans hk
      · subst hj
        rw [List.getElem?_set_ne hk] at h2 h4
        by_cases hl : i < σ.length
        · rw [List.getElem?_set_self hl] at h3
          cases h3
          exact absurd h4 (hne k e (fun z => hk z.symm) h2)
        · rw [List.getElem?_eq_none (by rw [List.length_set]; omega)] at h3; cases h3
    · by_cases hk : i = k
      · subst hk
        rw [List.getElem?_set_ne hj] at h1 h3
        by_cases hl : i < σ.length
        · rw [List.getElem?_set_self hl] at h4
          cases h4
          exact absurd h3 (hne j d' (fun z => hj z.symm) h1)
        · rw [List.getElem?_eq_none (by rw [List.length_set]; omega)] at h4; cases h4
      · rw [List.getElem?_set_ne hj] at h1 h3
        rw [List.getElem?_set_ne hk] at h2 h4
        exact s.ap j k u d' e h1 h2 h3 h4
/-- an owned slot's container is changed -/
theorem SRep.change (s : SRep K B G0 G H σ ρ) {i : Nat} {a : Addr} {d d' : D} {o : HO} (hi : ρ[i]? = some (some (.ow d))) (hv : σ[i]? = some (some (.ref a))) (r : OwC K G (upd H a o) (.ref a) d') : SRep K B G0 G (upd H a o) σ (ρ.set i (some (.ow d'))) := by
  obtain ⟨v, h1, ⟨hc, a', h2, h3, h4⟩⟩ := s.sl i _ hi
  rw [hv] at h1; cases h1
  cases h2
  have hil : i < ρ.length := by
    by_cases hl : i < ρ.length
    · exact hl
    · rw [List.getElem?_eq_none (by omega)] at hi; cases hi
  refine ⟨fun b u e => ?_, fun b u e => ?_, s.g0, s.gb, by rw [List.length_set]; exact s.len, fun j x h => ?_, fun j k u d1 e1 g1 g2 g3 g4 => ?_⟩
  · rw [upd_ne (fun z => by subst z; rw [h3] at e; cases e)]; exact s.gh b u e
  · rw [upd_ne (fun z => by subst z; rw [h4] at e; cases e)]; exact s.bh b u e
  · by_cases hj : i = j
    · subst hj
      rw [List.getElem?_set_self hil] at h
      cases h
      exact ⟨_, hv, r, a, rfl, h3, h4⟩
    · rw [List.getElem?_set_ne hj] at h
      obtain ⟨w, q1, q2⟩ := s.sl j x h
      refine ⟨w, q1, ?_⟩
      cases x with
      | sh e => exact q2
      | raw e => exact q2
      | ow e =>
        obtain ⟨qc, b, eb, q3, q4⟩ := q2
        have hne : b ≠ a := by
          rintro rfl
          exact hj (s.ap i j (.ref b) d e hi h hv (by rw [q1, eb]))
        refine ⟨?_, b, eb, q3, q4⟩
        subst eb
        cases qc with
        | lst z r => exact .lst (by rw [upd_ne hne]; exact z) r
        | dct z r => exact .dct (by rw [upd_ne hne]; exact z) r
  · have fix : ∀ {l : Nat} {x : D}, (ρ.set i (some (.ow d')))[l]? = some (some (.ow x)) → ∃ y, ρ[l]? = some (some (.ow y)) := fun {l x} q => by
      by_cases hl : i = l
      · subst hl; exact ⟨_, hi⟩
      · rw [List.getElem?_set_ne hl] at q; exact ⟨_, q⟩
    obtain ⟨y1, w1⟩ := fix g1
    obtain ⟨y2, w2⟩ := fix g2
    exact s.ap j k u y1 y2 w1 w2 g3 g4
/-- the owned container of a slot is frozen -/
def frz (i : Nat) (ρ : En) : En := match ρ[i]? with
  | some (some (.ow d)) => ρ.set i (some (.sh d))
  | _ => ρ
theorem SRep.freeze (s : SRep K B G0 G H σ ρ) (i : Nat) : ∃ G', SRep K B G0 G' H σ (frz i ρ) ∧ Same G G' := by
  unfold frz
  cases e : ρ[i]? with
  | none => exact ⟨G, s, .refl _⟩
  | some x =>
    cases x with
    | none => exact ⟨G, s, .refl _⟩
    | some y =>
      cases y with
      | sh d => exact ⟨G, s, .refl _⟩
      | raw v => exact ⟨G, s, .refl _⟩
      | ow d =>
        obtain ⟨v, h1, ⟨hc, a, h2, h3, h4⟩⟩ := s.sl i _ e
        obtain ⟨a', o, h2', ho⟩ := hc.there
        rw [h2] at h2'; cases h2'
        have hil : i < ρ.length := by
          by_cases hl : i < ρ.length
          · exact hl
          · rw [List.getElem?_eq_none (by omega)] at e; cases e
        have sg := same_new (o := o) h3
        refine ⟨upd G a o, ⟨fun b u q => ?_, s.bh, s.g0.trans sg, fun b q1 q2 => ?_, by rw [List.length_set]; exact s.len, fun j x h => ?_, fun j k u d1 e1 g1 g2 g3 g4 => ?_⟩, sg⟩
        · by_cases hb : b = a
          · subst hb; rw [upd_same] at q; rw [← q]; exact ho
          · rw [upd_ne hb] at q; exact s.gh b u q
        · have hb : b ≠ a := by rintro rfl; exact q1 h4
          rw [upd_ne hb] at q2; exact s.gb b q1 q2
        · by_cases hj : i = j
          · subst hj
            rw [List.getElem?_set_self hil] at h
            cases h
            exact ⟨v, h1, hc.freeze h2 ho h3⟩
          · rw [List.getElem?_set_ne hj] at h
            obtain ⟨w, q1, q2⟩ := s.sl j x h
            refine ⟨w, q1, ?_⟩
            cases x with
            | sh e => exact Rp.mono sg q2
            | raw e => exact q2
            | ow e' =>
              obtain ⟨qc, b, eb, q3, q4⟩ := q2
              have hne : b ≠ a := by
                rintro rfl
                exact hj (s.ap i j v d e' e h h1 (by rw [q1, eb, h2]))
              refine ⟨?_, b, eb, by rw [upd_ne hne]; exact q3, q4⟩
              cases qc with
              | lst z r => exact .lst z (r.mono sg)
              | dct z r => exact .dct z (r.mono sg)
        · have hj : i ≠ j := by
            rintro rfl
            rw [List.getElem?_set_self hil] at g1; cases g1
          have hk : i ≠ k := by
            rintro rfl
            rw [List.getElem?_set_self hil] at g2; cases g2
          rw [List.getElem?_set_ne hj] at g1
          rw [List.getElem?_set_ne hk] at g2
          exact s.ap j k u d1 e1 g1 g2 g3 g4
/-- another ground, later on -/
theorem SRep.rebase (s : SRep K B G0 G H σ ρ) : SRep K B G G H σ ρ := ⟨s.gh, s.bh, .refl _, fun _ _ h => h, s.len, s.sl, s.ap⟩
theorem SRep.unbase {G1 H1 : Hp} {σ1 : L2.St} {ρ1 : En} (s1 : SRep K B G0 G1 H1 σ1 ρ1) (s : SRep K B G1 G H σ ρ) : SRep K B G0 G H σ ρ :=
  ⟨s.gh, s.bh, s1.g0.trans s.g0, fun a h1 h2 => s1.gb a h1 (s.gb a h1 h2), s.len, s.sl, s.ap⟩

def R.so : R SO → SO
  | .ok o => o
  | .exc c => .exc c
  | .bad => .bad
@[simp] theorem R.so_ok (o : SO) : (R.ok o).so = o := rfl
@[simp] theorem R.so_exc (c : String) : (R.exc c : R SO).so = .exc c := rfl
@[simp] theorem R.so_bad : (R.bad : R SO).so = .bad := rfl
theorem kS_ {D : Ends} : Kind mg W σ SO fun r G H => SRep K B G0 G H σ ρ ∧ OutS K mg W B G0 r.so D where
  ext := fun e o => ⟨o.1.ext e, o.2⟩
  exc := fun o C G' H' e hm => o.2 σ G' H' C (o.1.ext e).fin hm
  bad := fun o => o.2
end

section
variable {X : Cx} {W : WX} {st : Stmt} {rest body orelse : List Stmt} {e : Expr} {g g2 : En → SO} {ge : En → R D} {gt : En → R Bool} {pos : Pos}
/-! ### blocks -/
def sNil : En → SO := fun ρ => .nx ρ
def sSeq (a b : En → SO) : En → SO := fun ρ => match a ρ with
  | .nx ρ' => b ρ'
  | o => o
theorem bd_nil : BD X W [] sNil := PSs.imp pss_nil fun D σ H ⟨B, G0, ρ, G, s, o⟩ => o σ G H s
theorem bd_cons (h1 : SD X W st g) (h2 : BD X W rest g2) : BD X W (st :: rest) (sSeq g g2) := PSs.imp (pss_cons h1 h2) fun D σ H ⟨B, G0, ρ, G, s, o⟩ => by
  refine ⟨B, G0, ρ, G, s, ?_⟩
  revert o
  unfold sSeq
  cases q : g ρ with
  | nx ρ' => exact fun o σ' G' H' s' => ⟨B, G0, ρ', G', s', o⟩
  | rt d => exact fun o => o
  | br ρ' => exact fun o => o
  | ct ρ' => exact fun o => o
  | exc c => exact fun o => o
  | bad => exact fun o => o
theorem bd_one (h1 : SD X W st g) : BD X W [st] g := PSs.imp (pss_one h1) fun D σ H h => h
/-- freeze a slot's container ahead of a statement -/
def sFrz (i : Nat) (g : En → SO) : En → SO := fun ρ => g (frz i ρ)
theorem sd_frz (i : Nat) (h : SD X W st g) : SD X W st (sFrz i g) := PS.imp h fun D σ H ⟨B, G0, ρ, G, s, o⟩ => by
  obtain ⟨G', s', _⟩ := s.freeze i
  exact ⟨B, G0, _, G', s', o⟩
/-! ### small statements -/
theorem sd_pass : SD X W (.Pass pos) sNil := PS.imp ps_pass fun D σ H ⟨B, G0, ρ, G, s, o⟩ => o σ G H s
theorem sd_break : SD X W (.Break pos) (fun ρ => .br ρ) := PS.imp ps_break fun D σ H ⟨B, G0, ρ, G, s, o⟩ => o σ G H s
theorem sd_continue : SD X W (.Continue pos) (fun ρ => .ct ρ) := PS.imp ps_continue fun D σ H ⟨B, G0, ρ, G, s, o⟩ => o σ G H s
def sRet (ge : En → R D) : En → SO := fun ρ => ((ge ρ).bind fun d => .ok (.rt d)).so
theorem sd_ret (h : ED .sh X W e ge) : SD X W (.Return (some e) pos) (sRet ge) := PS.imp (ps_ret h) fun D σ H ⟨B, G0, ρ, G, s, o⟩ =>
  stepD (m := .sh) (kS_ (ρ := ρ) (B := B) (G0 := G0)) s ⟨s, o⟩ fun d v G' H' s' x r o' => o'.2 G' H' v s'.fin r
theorem sd_retN : SD X W (.Return none pos) (fun _ => .rt .none) := PS.imp ps_retN fun D σ H ⟨B, G0, ρ, G, s, o⟩ => o G H .non s.fin .non
def sDrop (ge : En → R D) : En → SO := fun ρ => ((ge ρ).bind fun _ => .ok (.nx ρ)).so
theorem sd_expr (h : ED .bo X W e ge) (hs : swapsWith e none pos.line X.env = pure false := by rfl) : SD X W (.Expr e pos) (sDrop ge) := PS.imp (ps_expr h hs) fun D σ H ⟨B, G0, ρ, G, s, o⟩ =>
  stepD (m := .bo) (kS_ (ρ := ρ) (B := B) (G0 := G0)) s ⟨s, o⟩ fun d v G' H' s' x r o' => o'.2 σ G' H' s'
def sIf (t : En → R Bool) (a b : En → SO) : En → SO := fun ρ => ((t ρ).bind fun c => .ok (if c = true then a ρ else b ρ)).so
theorem sd_if {c : Expr} (hc : TD X W c gt) (ha : BD X W body g) (hb : BD X W orelse g2) : SD X W (.If c body orelse pos) (sIf gt g g2) := PS.imp (ps_if hc ha hb) fun D σ H ⟨B, G0, ρ, G, s, o⟩ =>
  stepT (kS_ (ρ := ρ) (B := B) (G0 := G0)) s ⟨s, o⟩ fun d G' H' s' x o' => by
    cases d with
    | true => rw [if_pos rfl]; exact ⟨B, G0, ρ, G', s', o'.2⟩
    | false => rw [if_neg Bool.false_ne_true]; exact ⟨B, G0, ρ, G', s', o'.2⟩
/-! ### targets -/
/-- a target by its slots: one name, or a tuple of names -/
inductive Tg where
  | one (i : Nat)
  | tup (is : List Nat)
def setAll : List Nat → List D → En → Option En
  | [], [], ρ => some ρ
  | i :: is, d :: ds, ρ => setAll is ds (ρ.set i (some (.sh d)))
  | _, _, _ => none
def Tg.put : Tg → D → En → Option En
  | .one i, d, ρ => some (ρ.set i (some (.sh d)))
  | .tup is, .tuple ds, ρ => setAll is ds ρ
  | .tup is, .list ds, ρ => setAll is ds ρ
  | _, _, _ => none
def Tg.slots : Tg → List Nat
  | .one i => [i]
  | .tup is => is
/-- slots changed at most at vs -/
structure OutOf (vs : List Nat) (σ σ' : L2.St) : Prop where
  len : σ'.length = σ.length
  out : ∀ j, j ∉ vs → σ'[j]? = σ[j]?
theorem OutOf.refl (vs : List Nat) (σ : L2.St) : OutOf vs σ σ := ⟨rfl, fun _ _ => rfl⟩
theorem OutOf.trans {vs : List Nat} {σ σ1 σ2 : L2.St} (a : OutOf vs σ σ1) (b : OutOf vs σ1 σ2) : OutOf vs σ σ2 := ⟨b.len.trans a.len, fun j h => (b.out j h).trans (a.out j h)⟩
theorem OutOf.set {vs : List Nat} {σ : L2.St} {i : Nat} {x : Option V} (h : i ∈ vs) : OutOf vs σ (σ.set i x) := ⟨by rw [List.length_set], fun j hj => List.getElem?_set_ne (fun z => hj (by rw [← z]; exact h))⟩
theorem OutOf.mono {vs ws : List Nat} {σ σ' : L2.St} (a : OutOf vs σ σ') (h : ∀ i ∈ vs, i ∈ ws) : OutOf ws σ σ' := ⟨a.len, fun j hj => a.out j fun z => hj (h j z)⟩
/-- a target's reading does what t says, of frozen data -/
def TgOk (K : PySem.W.Frag) (t : Tg) (g : TG) : Prop := ∀ B G0 G H σ ρ v d ρ' (Q : L2.St → Hp → Prop), SRep K B G0 G H σ ρ → Rp K G v d → t.put d ρ = some ρ' → (∀ σ', SRep K B G0 G H σ' ρ' → OutOf t.slots σ σ' → Q σ' H) → g v σ H Q
theorem tg_name (i : Nat) : TgOk X.K (.one i) (gName i) := fun B G0 G H σ ρ v d ρ' Q s r e q => by
  cases e
  exact q _ (s.set r) (.set (by simp [Tg.slots]))
/-- several targets -/
def TgsOk (K : PySem.W.Frag) (is : List Nat) (g : TGs) : Prop := ∀ B G0 G H σ ρ vs ds ρ' (Q : L2.St → Hp → Prop), SRep K B G0 G H σ ρ → RpA K G vs ds → setAll is ds ρ = some ρ' → (∀ σ', SRep K B G0 G H σ' ρ' → OutOf is σ σ' → Q σ' H) → g vs σ H Q
theorem tgs_nil : TgsOk X.K [] gNil := fun B G0 G H σ ρ vs ds ρ' Q s r e q => by
  cases r with
  | nil => cases e; exact ⟨rfl, q σ s (.refl _ _)⟩
  | cons a b => cases e
theorem tgs_cons (i : Nat) {is : List Nat} {u : TGs} (h : TgsOk X.K is u) : TgsOk X.K (i :: is) (gCons (gName i) u) := fun B G0 G H σ ρ vs ds ρ' Q s r e q => by
  cases r with
  | nil => cases e
  | cons a b => exact ⟨_, _, rfl, h B G0 G H _ _ _ _ ρ' Q (s.set a) b e fun σ' s' o => q σ' s' ((OutOf.set (by simp)).trans (o.mono fun i h => List.mem_cons_of_mem _ h))⟩
theorem setAll_len : ∀ {is : List Nat} {ds : List D} {ρ ρ' : En}, setAll is ds ρ = some ρ' → ds.length = is.length
  | [], [], _, _, _ => rfl
  | _ :: is, _ :: ds, _, _, h => by simp [setAll_len (is := is) (ds := ds) h]
  | [], _ :: _, _, _, h => by cases h
  | _ :: _, [], _, _, h => by cases h
/-- a, b, .. = a tuple or a list -/
def gSeq (K : PySem.W.Frag) (n : Nat) (t : TGs) : TG := fun v σ H Q => gTup K n t v σ H Q ∨ gUnl K n t v σ H Q
theorem pg_seq {es : List Expr} {k : Nat} {t : TGs} {n : Nat} (hc : X.calm = true) (h : PGs X es t)
    (hn : (assignEach es X.env).length = n := by rfl) (hst : (assignEach es X.env).findIdx? (·.1) = none := by rfl) : PG X (.Tuple es k pos) (gSeq X.K n t) := by
  have h1 := pg_tup (pos := pos) (k := k) hc h hn hst
  have h2 := pg_unl (pos := pos) (k := k) hc h hn hst
  exact ⟨fun pins s σ H v u Q I r hw => hw.elim (fun z => h1.run pins s σ H v u Q I r z) fun z => h2.run pins s σ H v u Q I r z⟩
theorem tg_seq {is : List Nat} {u : TGs} (h : TgsOk X.K is u) : TgOk X.K (.tup is) (gSeq X.K is.length u) := fun B G0 G H σ ρ v d ρ' Q s r e q => by
  cases d with
  | tuple ds =>
    obtain ⟨a, xs, rfl, h1, h2⟩ := RpB.tuple s.gh (.inl r)
    exact .inl ⟨a, xs, rfl, h1, by rw [h2.length]; exact setAll_len e, h B G0 G H σ ρ xs ds ρ' Q s h2 e q⟩
  | list ds =>
    obtain ⟨a, xs, rfl, h1, h2⟩ := RpB.list s.gh (.inl r)
    exact .inr ⟨a, xs, rfl, h1, by rw [h2.length]; exact setAll_len e, h B G0 G H σ ρ xs ds ρ' Q s h2 e q⟩
  | _ => cases e
/-! ### assignments -/
def sSet (t : Tg) (ge : En → R D) : En → SO := fun ρ => ((ge ρ).bind fun d => (R.opt (t.put d ρ)).bind fun ρ' => .ok (.nx ρ')).so
theorem put_ok {K : PySem.W.Frag} {mg : MG} {B G0 : Hp} {ρ : En} {D : Ends} {t : Tg} {d : DL.D} (o : OutS K mg W B G0 (((R.opt (t.put d ρ)).bind fun ρ' => .ok (SO.nx ρ')).so) D) : ∃ ρ', t.put d ρ = some ρ' ∧ ∀ σ G H, SRep K B G0 G H σ ρ' → D.nx σ H := by
  cases e : t.put d ρ with
  | none => rw [e] at o; exact o.elim
  | some ρ' => rw [e] at o; exact ⟨ρ', rfl, o⟩
theorem tAsg_D {t : Tg} {tg : TG} (ht : TgOk X.K t tg) {D : Ends} {σ : L2.St} {H : Hp} (h : tS X.K X.mg W (sSet t ge) D σ H) : tAsg (tD .sh X.K X.mg W ge) tg D σ H := by
  obtain ⟨B, G0, ρ, G, s, o⟩ := h
  exact stepD (m := .sh) (kS_ (ρ := ρ) (B := B) (G0 := G0)) s ⟨s, o⟩ fun d v G' H' s' x r o' => by
    obtain ⟨ρ', e1, e2⟩ := put_ok o'.2
    exact ht B G0 G' H' σ ρ v d ρ' _ s' r e1 fun σ' s2 _ => e2 σ' G' H' s2
theorem sd_set {i : Nat} {x : Str} {pos' : Pos} (hN : X.N.Nodup) (hi : X.N[i]? = some x) (hx : Loc X.env.scope x) (he : ED .sh X W e ge) (hs : swapsWith e (some (.Name x pos')) pos.line X.env = pure false := by rfl) (hf : X.fn x = true ∨ X.env.scope.names.lookup x = some .local := by first | exact .inl rfl | exact .inr rfl | assumption) :
    SD X W (.Assign [.Name x pos'] e pos) (sSet (.one i) ge) := PS.imp (ps_set hN hi hx he hs hf) fun D σ H h => tAsg_D (tg_name i) h
theorem sd_asg {t : Tg} {tg : Expr} {tgr : TG} (he : ED .sh X W e ge) (hg : PG X tg tgr) (ht : TgOk X.K t tgr) (hs : swapsWithSole [tg] e pos.line X.env = pure false := by rfl) (hw : swappedStores [tg] e X.env = pure none := by rfl)
    (h1 : (assignEach [tg] X.env).map (·.2) = [assign tg X.env] := by rfl) : SD X W (.Assign [tg] e pos) (sSet t ge) := PS.imp (ps_asg he hg hs hw h1) fun D σ H h => tAsg_D ht h
/-- a slot that owns its new container -/
def sSetO (i : Nat) (ge : En → R D) : En → SO := fun ρ => ((ge ρ).bind fun d => .ok (.nx (ρ.set i (some (.ow d))))).so
theorem tAsgO_D {i : Nat} {D : Ends} {σ : L2.St} {H : Hp} (h : tS X.K X.mg W (sSetO i ge) D σ H) : tAsg (tD .fr X.K X.mg W ge) (gName i) D σ H := by
  obtain ⟨B, G0, ρ, G, s, o⟩ := h
  refine stepD (m := .fr) (kS_ (ρ := ρ) (B := B) (G0 := G0)) s ⟨s, o⟩ fun d v G' H' s' x r o' => ?_
  obtain ⟨c, a, ev, h0, g0⟩ := r
  refine o'.2 _ G' H' (s'.own c ev g0 (s.bh.free h0) fun j e hj he hv => ?_)
  obtain ⟨w, w1, wc, b, w2, w3, w4⟩ := s.sl j _ he
  rw [hv] at w1; cases w1
  obtain ⟨b', u, e1, e2⟩ := wc.there
  rw [ev] at e1; cases e1
  rw [h0] at e2; cases e2
theorem sd_setO {i : Nat} {x : Str} {pos' : Pos} (hN : X.N.Nodup) (hi : X.N[i]? = some x) (hx : Loc X.env.scope x) (he : ED .fr X W e ge) (hs : swapsWith e (some (.Name x pos')) pos.line X.env = pure false := by rfl) (hf : X.fn x = true ∨ X.env.scope.names.lookup x = some .local := by first | exact .inl rfl | exact .inr rfl | assumption) :
    SD X W (.Assign [.Name x pos'] e pos) (sSetO i ge) := PS.imp (ps_set hN hi hx he hs hf) fun D σ H h => tAsgO_D h
/-- a, b = x, y -/
def sPar (i j : Nat) (ga gb : En → R D) : En → SO := fun ρ => ((ga ρ).bind fun a => (gb ρ).bind fun b => .ok (.nx ((ρ.set i (some (.sh a))).set j (some (.sh b))))).so
theorem sd_par {i j : Nat} {x y : Str} {a b : Expr} {ga gb : En → R D} {px py pt : Pos} {kt k2 pt2} (hc : X.calm = true) (hN : X.N.Nodup) (hi : X.N[i]? = some x) (hj : X.N[j]? = some y) (hij : i ≠ j)
    (hx : X.env.scope.names.lookup x = some .local) (hy : X.env.scope.names.lookup y = some .local) (ha : ED .sh X W a ga) (hb : ED .sh X W b gb)
    (hw : swappedStores [.Tuple [.Name x px, .Name y py] kt pt] (.Tuple [a, b] k2 pt2) X.env = pure (some [x, y]))
    (hs : swapsWithSole [.Tuple [.Name x px, .Name y py] kt pt] (.Tuple [a, b] k2 pt2) pos.line X.env = pure false := by rfl)
    (s1 : starEach [a, b] X.env = (false, eval a X.env) :: starEach [b] X.env := by rfl) (s2 : starEach [b] X.env = (false, eval b X.env) :: starEach [] X.env := by rfl) :
    SD X W (.Assign [.Tuple [.Name x px, .Name y py] kt pt] (.Tuple [a, b] k2 pt2) pos) (sPar i j ga gb) := PS.imp (ps_par hc hN hi hj hij hx hy (pa_cons ha (pa_cons hb pa_nil s2) s1) hw hs) fun D σ H ⟨B, G0, ρ, G, s, o⟩ =>
  stepD (m := .sh) (kS_ (ρ := ρ) (B := B) (G0 := G0)) s ⟨s, o⟩ fun d v G' H' s' x r o' => stepD (m := .sh) (kS_ (ρ := ρ) (B := B) (G0 := G0)) s' o' fun d2 v2 G2 H2 s2 x2 r2 o2 =>
    ⟨v, v2, rfl, o2.2 _ G2 H2 ((s2.set (r.mono x2.g)).set r2)⟩
end
end DL

namespace DL
open PySem PySem.Spec PyProof.Rows L2

/-! ### what is walked -/
/-- J walks what is items, wherever S holds -/
structure JL (K : PySem.W.Frag) (S : Hp → Hp → Prop) (items : List D) (J : It) : Prop where
  go : ∀ i G H, S G H → i < items.length → J.go i H
  st : ∀ i G H, S G H → items.length ≤ i → J.stop i H
  yl : ∀ i d G H x H', S G H → items[i]? = some d → J.yld i H x H' → ∃ G', Ext G H G' H' ∧ Rp K G' x d
def StD (fz : Bool) (G0 H0 G H : Hp) : Prop := Same G0 G ∧ Same G H ∧ (fz = false → Same H0 H)
def tI (fz : Bool) (K : PySem.W.Frag) (mg : MG) (W : WX) (g : En → R (List D)) : TI := fun σ H R => ∃ B G0 ρ G, SRep K B G0 G H σ ρ ∧ match g ρ with
  | .ok ds => ∀ J G' H', Ext G H G' H' → JL K (StD fz G' H') ds J → R J H'
  | .exc c => ∀ C G' H', Ext G H G' H' → mg (Str.ofString c) = some C → W C none σ H'
  | .bad => False
def ID (fz : Bool) (X : Cx) (W : WX) (tg iter : Expr) (g : En → R (List D)) : Prop := PI X tg iter (tI fz X.K X.mg W g)
theorem PI.imp {X : Cx} {tg e : Expr} {t t' : TI} (h : PI X tg e t) (i : ∀ σ H Q, t' σ H Q → t σ H Q) : PI X tg e t' := ⟨fun pins s σ H Q I q => h.run pins s σ H Q I (i _ _ _ q)⟩
def OutI (fz : Bool) (K : PySem.W.Frag) (mg : MG) (W : WX) (r : R (List D)) (σ : L2.St) (G H : Hp) (Q : It → Hp → Prop) : Prop := match r with
  | .ok ds => ∀ J G' H', Ext G H G' H' → JL K (StD fz G' H') ds J → Q J H'
  | .exc c => ∀ C G' H', Ext G H G' H' → mg (Str.ofString c) = some C → W C none σ H'
  | .bad => False
theorem kI_ {fz : Bool} {K : PySem.W.Frag} {mg : MG} {W : WX} {σ : L2.St} {Q : It → Hp → Prop} : Kind mg W σ (List D) fun r G H => OutI fz K mg W r σ G H Q where
  ext := fun {r G H G' H'} e o => by
    cases r with
    | ok ds => exact fun J G2 H2 e2 => o J G2 H2 (e.trans e2)
    | exc c => exact fun C G2 H2 e2 => o C G2 H2 (e.trans e2)
    | bad => exact o
  exc := fun o => o
  bad := fun o => o
theorem tI_eq {fz : Bool} {K : PySem.W.Frag} {mg : MG} {W : WX} {g : En → R (List D)} {σ : L2.St} {H : Hp} {R : It → Hp → Prop} (h : tI fz K mg W g σ H R) : ∃ B G0 ρ G, SRep K B G0 G H σ ρ ∧ OutI fz K mg W (g ρ) σ G H R := by
  obtain ⟨B, G0, ρ, G, s, o⟩ := h
  refine ⟨B, G0, ρ, G, s, ?_⟩
  revert o
  cases g ρ <;> exact fun o => o

section
variable {K : PySem.W.Frag} {S : Hp → Hp → Prop} {ds es : List D} {a b : Addr}
theorem rpA_at {G : Hp} {xs : List V} {i : Nat} {x : V} {d : D} (r : RpA K G xs ds) (hx : xs[i]? = some x) (hd : ds[i]? = some d) : Rp K G x d := by
  obtain ⟨d', h1, h2⟩ := r.get hx
  rw [hd] at h1; cases h1
  exact h2
theorem jl_list (hs : ∀ G H, S G H → Same G H ∧ ∃ xs, SqL K H a xs ∧ RpA K G xs ds) : JL K S ds (Itl K a) where
  go := fun i G H s hi => by
    obtain ⟨gh, xs, h1, h2⟩ := hs G H s
    have : i < xs.length := by rw [h2.length]; exact hi
    exact ⟨xs, xs[i], h1, by simp [this]⟩
  st := fun i G H s hi => by
    obtain ⟨gh, xs, h1, h2⟩ := hs G H s
    exact ⟨xs, h1, by rw [h2.length]; exact hi⟩
  yl := fun i d G H x H' s hd hy => by
    obtain ⟨gh, xs, h1, h2⟩ := hs G H s
    obtain ⟨rfl, hy⟩ := hy
    exact ⟨G, .refl gh, rpA_at h2 (hy xs h1) hd⟩
theorem jl_tup (hs : ∀ G H, S G H → Same G H ∧ ∃ xs, SqT K H a xs ∧ RpA K G xs ds) : JL K S ds (Itt K a) where
  go := fun i G H s hi => by
    obtain ⟨gh, xs, h1, h2⟩ := hs G H s
    have : i < xs.length := by rw [h2.length]; exact hi
    exact ⟨xs, xs[i], h1, by simp [this]⟩
  st := fun i G H s hi => by
    obtain ⟨gh, xs, h1, h2⟩ := hs G H s
    exact ⟨xs, h1, by rw [h2.length]; exact hi⟩
  yl := fun i d G H x H' s hd hy => by
    obtain ⟨gh, xs, h1, h2⟩ := hs G H s
    obtain ⟨rfl, hy⟩ := hy
    exact ⟨G, .refl gh, rpA_at h2 (hy xs h1) hd⟩
def rngD (lo : Int) (n : Nat) : List D := (List.range n).map fun (i : Nat) => PyData.int (lo + (i : Int))
theorem rngD_len {lo : Int} {n : Nat} : (rngD lo n).length = n := by simp [rngD]
theorem jl_range {lo : Int} {n : Nat} (hs : ∀ G H, S G H → Same G H) : JL K S (rngD lo n) (Itr lo n) where
  go := fun i G H s hi => by rw [rngD_len] at hi; exact hi
  st := fun i G H s hi => by rw [rngD_len] at hi; exact hi
  yl := fun i d G H x H' s hd hy => by
    obtain ⟨rfl, rfl⟩ := hy
    refine ⟨G, .refl (hs G _ s), ?_⟩
    have hi : i < n := by
      by_cases h : i < n
      · exact h
      · rw [List.getElem?_eq_none (by rw [rngD_len]; omega)] at hd; cases hd
    simp [rngD, List.getElem?_map, List.getElem?_range hi] at hd
    subst hd
    exact .int _
def enumFrom' (n : Nat) : List D → List D
  | [] => []
  | d :: ds => .tuple [.int (n : Int), d] :: enumFrom' (n + 1) ds
theorem enum_len : ∀ (n : Nat) (ds : List D), (enumFrom' n ds).length = ds.length
  | _, [] => rfl
  | n, d :: ds => by simp [enumFrom', enum_len (n + 1) ds]
theorem enum_get : ∀ (n i : Nat) (ds : List D) (e : D), (enumFrom' n ds)[i]? = some e → ∃ d, ds[i]? = some d ∧ e = .tuple [.int ((n + i : Nat) : Int), d]
  | _, _, [], _, h => by simp [enumFrom'] at h
  | n, 0, d :: ds, e, h => by simp [enumFrom'] at h; exact ⟨d, rfl, by simp [h]⟩
  | n, i + 1, d :: ds, e, h => by
    simp [enumFrom'] at h
    obtain ⟨d', h1, h2⟩ := enum_get (n + 1) i ds e h
    exact ⟨d', by simpa using h1, by rw [h2, show n + 1 + i = n + (i + 1) by omega]⟩
theorem jl_enum (hs : ∀ G H, S G H → Same G H ∧ ∃ xs, SqL K H a xs ∧ RpA K G xs ds) : JL K S (enumFrom' 0 ds) (Ite K a) where
  go := fun i G H s hi => by
    obtain ⟨gh, xs, h1, h2⟩ := hs G H s
    have : i < xs.length := by rw [h2.length]; rw [enum_len] at hi; exact hi
    exact ⟨xs, xs[i], h1, by simp [this]⟩
  st := fun i G H s hi => by
    obtain ⟨gh, xs, h1, h2⟩ := hs G H s
    exact ⟨xs, h1, by rw [h2.length]; rw [enum_len] at hi; exact hi⟩
  yl := fun i d G H x H' s hd hy => by
    obtain ⟨gh, xs, h1, h2⟩ := hs G H s
    obtain ⟨T, y, rfl, hT, rfl, hy⟩ := hy
    obtain ⟨d', e1, rfl⟩ := enum_get 0 i ds d hd
    refine ⟨_, .new gh hT, .tup (.of upd_same) ?_⟩
    rw [Nat.zero_add]
    exact .cons (.int _) (.cons ((rpA_at h2 (hy xs h1) e1).mono (same_new (gh.free hT))) .nil)
def zipD : List D → List D → List D
  | a :: as, b :: bs => .tuple [a, b] :: zipD as bs
  | _, _ => []
theorem zip_len : ∀ (as bs : List D), (zipD as bs).length = min as.length bs.length
  | [], _ => by simp [zipD]
  | _ :: _, [] => by simp [zipD]
  | a :: as, b :: bs => by simp [zipD, zip_len as bs]
theorem zip_get : ∀ (i : Nat) (as bs : List D) (e : D), (zipD as bs)[i]? = some e → ∃ a b, as[i]? = some a ∧ bs[i]? = some b ∧ e = .tuple [a, b]
  | _, [], _, _, h => by simp [zipD] at h
  | _, _ :: _, [], _, h => by simp [zipD] at h
  | 0, a :: as, b :: bs, e, h => by simp [zipD] at h; exact ⟨a, b, rfl, rfl, h.symm⟩
  | i + 1, a :: as, b :: bs, e, h => by
    simp [zipD] at h
    simpa using zip_get i as bs e h
theorem jl_zip (hs : ∀ G H, S G H → Same G H ∧ (∃ xs, SqL K H a xs ∧ RpA K G xs ds) ∧ ∃ xs, SqL K H b xs ∧ RpA K G xs es) : JL K S (zipD ds es) (Itz K a b) where
  go := fun i G H s hi => by
    obtain ⟨gh, ⟨xs, h1, h2⟩, ys, h3, h4⟩ := hs G H s
    rw [zip_len] at hi
    have i1 : i < xs.length := by rw [h2.length]; omega
    have i2 : i < ys.length := by rw [h4.length]; omega
    exact ⟨xs, ys, xs[i], ys[i], h1, h3, by simp [i1], by simp [i2]⟩
  st := fun i G H s hi => by
    obtain ⟨gh, ⟨xs, h1, h2⟩, ys, h3, h4⟩ := hs G H s
    rw [zip_len] at hi
    exact ⟨xs, ys, h1, h3, by rw [h2.length, h4.length]; omega⟩
  yl := fun i d G H x H' s hd hy => by
    obtain ⟨gh, ⟨xs, h1, h2⟩, ys, h3, h4⟩ := hs G H s
    obtain ⟨T, y, z, rfl, hT, rfl, hy, hz⟩ := hy
    obtain ⟨d1, d2, e1, e2, rfl⟩ := zip_get i ds es d hd
    have sn := same_new (o := .tup [y, z]) (gh.free hT)
    exact ⟨_, .new gh hT, .tup (.of upd_same) (.cons ((rpA_at h2 (hy xs h1) e1).mono sn) (.cons ((rpA_at h4 (hz ys h3) e2).mono sn) .nil))⟩
end
/-- a container that is walked: frozen, or as it stands while an expression is reckoned -/
def MdI (fz : Bool) : Md := if fz = true then .sh else .bo
theorem st_list {fz : Bool} {K : PySem.W.Frag} {H0 G1 H1 : Hp} {v : V} {ds : List D} (gh : Same G1 H1) (r : RpM (MdI fz) K H0 G1 H1 v (.list ds)) :
    ∃ a, v = .ref a ∧ (∃ xs, SqL K H1 a xs) ∧ ∀ G H, StD fz G1 H1 G H → Same G H ∧ ∃ xs, SqL K H a xs ∧ RpA K G xs ds := by
  cases fz with
  | true =>
    have r' : Rp K G1 v (.list ds) := r
    cases r' with
    | lst h x => exact ⟨_, rfl, ⟨_, gh.seq h⟩, fun G H ⟨s1, s2, _⟩ => ⟨s2, _, s2.seq (s1.seq h), x.mono s1⟩⟩
  | false =>
    obtain ⟨a, xs, e, h1, h2⟩ := RpB.list gh (show RpB K G1 H1 v (.list ds) from r)
    exact ⟨a, e, ⟨xs, h1⟩, fun G H ⟨s1, s2, s3⟩ => ⟨s2, xs, (s3 rfl).seq h1, h2.mono s1⟩⟩
theorem st_tup {fz : Bool} {K : PySem.W.Frag} {H0 G1 H1 : Hp} {v : V} {ds : List D} (gh : Same G1 H1) (r : RpM (MdI fz) K H0 G1 H1 v (.tuple ds)) :
    ∃ a, v = .ref a ∧ (∃ xs, SqT K H1 a xs) ∧ ∀ G H, StD fz G1 H1 G H → Same G H ∧ ∃ xs, SqT K H a xs ∧ RpA K G xs ds := by
  have r' : RpB K G1 H1 v (.tuple ds) := by
    cases fz with
    | true => exact .inl r
    | false => exact r
  obtain ⟨a, xs, e, h1, h2⟩ := RpB.tuple gh r'
  refine ⟨a, e, ⟨xs, h1⟩, fun G H ⟨s1, s2, s3⟩ => ⟨s2, ?_⟩⟩
  rcases r' with r' | r'
  · cases r' with
    | tup h x => cases e; exact ⟨_, Same.sqt s2 (Same.sqt s1 h), x.mono s1⟩
  · cases r'
section
variable {X : Cx} {W : WX} {tg e a b : Expr} {g ga gb : En → R D} {fz : Bool} {pos p : Pos}
def itL : D → R (List D)
  | .list ds => .ok ds
  | .tuple ds => .ok ds
  | _ => .bad
def iSeq (g : En → R D) : En → R (List D) := fun ρ => (g ρ).bind itL
theorem id_seq (h : ED (MdI fz) X W e g) : ID fz X W tg e (iSeq g) := by
  have h1 := pi_list (tg := tg) h
  have h2 := pi_tup (tg := tg) h
  refine ⟨fun pins s σ H R I hw => ?_⟩
  obtain ⟨B, G0, ρ, G, sr, o⟩ := tI_eq hw
  have o0 := o
  unfold iSeq at o
  cases q : g ρ with
  | ok d =>
    rw [q] at o
    cases d with
    | list ds =>
      refine h1.run pins s σ H R I ⟨B, G0, ρ, G, sr, ?_⟩
      rw [q]
      intro v G1 H1 x r
      obtain ⟨a, e1, e2, e3⟩ := st_list x.gh r
      exact ⟨a, e1, e2, o _ G1 H1 x (jl_list e3)⟩
    | tuple ds =>
      refine h2.run pins s σ H R I ⟨B, G0, ρ, G, sr, ?_⟩
      rw [q]
      intro v G1 H1 x r
      obtain ⟨a, e1, e2, e3⟩ := st_tup x.gh r
      exact ⟨a, e1, e2, o _ G1 H1 x (jl_tup e3)⟩
    | _ => exact o.elim
  | exc c =>
    rw [q] at o
    refine h1.run pins s σ H R I ⟨B, G0, ρ, G, sr, ?_⟩
    rw [q]
    exact o
  | bad => rw [q] at o; exact o.elim
def BIG : Int := 4611686018427387904
def rg1 : List D → R (List D)
  | [.int j] => if -BIG ≤ j ∧ j < BIG then .ok (rngD 0 j.toNat) else .bad
  | _ => .bad
def rg2 : List D → R (List D)
  | [.int i, .int j] => if -BIG ≤ i ∧ i < BIG ∧ -BIG ≤ j ∧ j < BIG then .ok (rngD i (j - i).toNat) else .bad
  | _ => .bad
variable {r : En → R (List D)}
theorem ints1 {K : PySem.W.Frag} {G : Hp} {vs : List V} {i : Int} (h : RpA K G vs [.int i]) : vs = [.int i] := by
  cases h with
  | cons x y => cases y; cases x; rfl
theorem ints2 {K : PySem.W.Frag} {G : Hp} {vs : List V} {i j : Int} (h : RpA K G vs [.int i, .int j]) : vs = [.int i, .int j] := by
  cases h with
  | cons x y =>
    cases y with
    | cons z w => cases w; cases x; cases z; rfl
theorem id_range1 (hg : Gl X "range") (hm : X.mg "range" = none) (ha : AD X W [a] r) (hs : starEach [a] X.env = [(false, eval a X.env)] := by rfl) : ID fz X W tg (.Call (.Name "range" p) [a] [] pos) (fun ρ => (r ρ).bind rg1) :=
  PI.imp (pi_range1 hg hm ha hs) fun σ H R h => by
    obtain ⟨B, G0, ρ, G, s, o⟩ := tI_eq h
    refine stepA kI_ s o fun ds vs G1 H1 s1 e1 r1 o1 => ?_
    cases ds with
    | nil => exact o1.elim
    | cons d ds =>
      cases ds with
      | cons _ _ => cases d <;> exact o1.elim
      | nil =>
        cases d with
        | int j =>
          simp only [rg1] at o1
          by_cases hj : -BIG ≤ j ∧ j < BIG
          · rw [if_pos hj] at o1
            exact ⟨j, ints1 r1, hj.1, hj.2, o1 _ G1 H1 (.refl s1.gh) (jl_range fun G H z => z.2.1)⟩
          · rw [if_neg hj] at o1; exact o1.elim
        | _ => exact o1.elim
theorem id_range2 (hg : Gl X "range") (hm : X.mg "range" = none) (ha : AD X W [a, b] r) (hs : starEach [a, b] X.env = [(false, eval a X.env), (false, eval b X.env)] := by rfl) (hs2 : starEach [b] X.env = [(false, eval b X.env)] := by rfl) :
    ID fz X W tg (.Call (.Name "range" p) [a, b] [] pos) (fun ρ => (r ρ).bind rg2) :=
  PI.imp (pi_range2 hg hm ha hs hs2) fun σ H R h => by
    obtain ⟨B, G0, ρ, G, s, o⟩ := tI_eq h
    refine stepA kI_ s o fun ds vs G1 H1 s1 e1 r1 o1 => ?_
    unfold rg2 at o1
    split at o1
    · rename_i i j
      by_cases hj : -BIG ≤ i ∧ i < BIG ∧ -BIG ≤ j ∧ j < BIG
      · rw [if_pos hj] at o1
        exact ⟨i, j, ints2 r1, hj, o1 _ G1 H1 (.refl s1.gh) (jl_range fun G H z => z.2.1)⟩
      · rw [if_neg hj] at o1; exact o1.elim
    · exact o1.elim
end
/-! ### for, while -/
def forG (t : Tg) (body : En → SO) : List D → En → SO
  | [], ρ => .nx ρ
  | d :: ds, ρ => match t.put d ρ with
    | none => .bad
    | some ρ1 => match body ρ1 with
      | .nx ρ2 => forG t body ds ρ2
      | .ct ρ2 => forG t body ds ρ2
      | .br ρ2 => .nx ρ2
      | o => o
def sFor (t : Tg) (gi : En → R (List D)) (body : En → SO) : En → SO := fun ρ => ((gi ρ).bind fun ds => .ok (forG t body ds ρ)).so
def whileG (t : En → R Bool) (body : En → SO) : Nat → En → SO
  | 0, _ => .bad
  | n + 1, ρ => match t ρ with
    | .ok true => match body ρ with
      | .nx ρ2 => whileG t body n ρ2
      | .ct ρ2 => whileG t body n ρ2
      | .br ρ2 => .nx ρ2
      | o => o
    | .ok false => .nx ρ
    | .exc c => .exc c
    | .bad => .bad
section
variable {K : PySem.W.Frag} {mg : MG} {W : WX} {B G0 G G1 H H1 : Hp} {σ σ1 : L2.St} {ρ ρ1 : En}
theorem Fin.unbase (s1 : SRep K B G0 G1 H1 σ1 ρ1) (s : Fin B G1 G H) : Fin B G0 G H := ⟨s.gh, s.bh, s1.g0.trans s.g0, fun a h1 h2 => s1.gb a h1 (s.gb a h1 h2)⟩
theorem OutS.rebase {r : SO} {D : Ends} (s1 : SRep K B G0 G1 H1 σ1 ρ1) (o : OutS K mg W B G0 r D) : OutS K mg W B G1 r D := by
  cases r with
  | nx ρ => exact fun σ G H s => o σ G H (SRep.unbase s1 s)
  | br ρ => exact fun σ G H s => o σ G H (SRep.unbase s1 s)
  | ct ρ => exact fun σ G H s => o σ G H (SRep.unbase s1 s)
  | rt d => exact fun G H v s => o G H v (s.unbase s1)
  | exc c => exact fun σ G H C s => o σ G H C (s.unbase s1)
  | bad => exact o
end
section
variable {X : Cx} {W : WX} {tg iter c : Expr} {gi : En → R (List D)} {gt : En → R Bool} {t : Tg} {tgr : TG} {body : List Stmt} {g : En → SO} {pos : Pos}
theorem kSI_ {K : PySem.W.Frag} {mg : MG} {W : WX} {B G0 : Hp} {D : Ends} {σ : L2.St} {ρ : En} : Kind mg W σ SO fun r G H => SRep K B G0 G H σ ρ ∧ OutS K mg W B G0 r.so D := kS_
theorem sd_for (hp : PassesOwn (model X.prog X.w) X.A X.env X.xe) (hc : X.calm = true) (hi : ID true X W tg iter gi) (hg : PG X tg tgr) (ht : TgOk X.K t tgr) (hb : BD X W body g)
    (hs : ∀ x, foldedSetIterable iter X.env x = pure x := by intro _; rfl) : SD X W (.For tg iter body [] pos) (sFor t gi g) := PS.imp (ps_for hp hc hi hg hb hs) fun D σ H ⟨B, G0, ρ, G, s, o⟩ => by
  refine ⟨B, G0, ρ, G, s, ?_⟩
  revert o
  unfold sFor
  cases q : gi ρ with
  | bad => exact fun o => o.elim
  | exc c => exact fun o C G' H' x hm => o σ G' H' C (s.ext x).fin hm
  | ok ds =>
    intro o J G1 H1 x jl
    have s1 := s.ext x
    have o1 : OutS X.K X.mg W B G1 (forG t g ds ρ) D := OutS.rebase s1 o
    refine ⟨fun i m σ H => m = ds.length - i ∧ ∃ ρ G, SRep X.K B G1 G H σ ρ ∧ OutS X.K X.mg W B G1 (forG t g (ds.drop i) ρ) D, ⟨ds.length, rfl, ρ, G1, s1.rebase, o1⟩, ?_⟩
    rintro i m σ2 H2 ⟨rfl, ρ2, G2, s2, o2⟩
    have st2 : StD true G1 H1 G2 H2 := ⟨s2.g0, s2.gh, fun z => nomatch z⟩
    by_cases hi : i < ds.length
    · have ed : ds.drop i = ds[i] :: ds.drop (i + 1) := List.drop_eq_getElem_cons hi
      rw [ed] at o2
      refine .inr ⟨jl.go i G2 H2 st2 hi, fun σ' H' => ∃ ρ' G', SRep X.K B G1 G' H' σ' ρ' ∧ OutS X.K X.mg W B G1 (forG t g (ds.drop (i + 1)) ρ') D, fun σ' H' hN => ⟨ds.length - (i + 1), by omega, rfl, hN⟩, fun v H3 hy => ?_⟩
      obtain ⟨G3, x3, r3⟩ := jl.yl i ds[i] G2 H2 v H3 st2 (by simp [hi]) hy
      have s3 := s2.ext x3
      unfold forG at o2
      cases qp : t.put ds[i] ρ2 with
      | none => rw [qp] at o2; exact o2.elim
      | some ρ3 =>
        rw [qp] at o2
        refine ht B G1 G3 H3 σ2 ρ2 v _ ρ3 _ s3 r3 qp fun σ4 s4 _ => ⟨B, G1, ρ3, G3, s4, ?_⟩
        revert o2
        show OutS X.K X.mg W B G1 (match g ρ3 with | .nx ρ2 => forG t g (ds.drop (i + 1)) ρ2 | .ct ρ2 => forG t g (ds.drop (i + 1)) ρ2 | .br ρ2 => .nx ρ2 | o => o) D → _
        cases g ρ3 with
        | nx ρ5 => exact fun o2 σ5 G5 H5 s5 => ⟨ρ5, G5, s5, o2⟩
        | ct ρ5 => exact fun o2 σ5 G5 H5 s5 => ⟨ρ5, G5, s5, o2⟩
        | br ρ5 => exact fun o2 => o2
        | rt d => exact fun o2 => o2
        | exc c => exact fun o2 => o2
        | bad => exact fun o2 => o2
    · have ed : ds.drop i = [] := List.drop_eq_nil_of_le (by omega)
      rw [ed] at o2
      exact .inl ⟨jl.st i G2 H2 st2 (by omega), o2 σ2 G2 H2 s2⟩
/-- m: a bound of the turns, of what the slots hold -/
def sWhile (m : En → Nat) (t : En → R Bool) (body : En → SO) : En → SO := fun ρ => whileG t body (m ρ) ρ
theorem sd_while (m : En → Nat) (hp : PassesOwn (model X.prog X.w) X.A X.env X.xe) (hc : TD X W c gt) (hb : BD X W body g) : SD X W (.While c body [] pos) (sWhile m gt g) := PS.imp (ps_while hp hc hb) fun D σ H ⟨B, G0, ρ, G, s, o⟩ => by
  refine ⟨fun n σ H => ∃ ρ G, SRep X.K B G0 G H σ ρ ∧ OutS X.K X.mg W B G0 (whileG gt g n ρ) D, ⟨m ρ, ρ, G, s, o⟩, ?_⟩
  rintro n σ2 H2 ⟨ρ2, G2, s2, o2⟩
  refine ⟨B, G0, ρ2, G2, s2, ?_⟩
  cases n with
  | zero => exact o2.elim
  | succ n =>
    unfold whileG at o2
    revert o2
    cases q : gt ρ2 with
    | bad => exact fun o2 => o2.elim
    | exc c => exact fun o2 C G' H' x hm => o2 σ2 G' H' C (s2.ext x).fin hm
    | ok b =>
      intro o2 G3 H3 x3
      have s3 := s2.ext x3
      cases b with
      | false => rw [if_neg Bool.false_ne_true]; exact o2 σ2 G3 H3 s3
      | true =>
        rw [if_pos rfl]
        refine ⟨fun σ' H' => ∃ ρ' G', SRep X.K B G0 G' H' σ' ρ' ∧ OutS X.K X.mg W B G0 (whileG gt g n ρ') D, fun σ' H' hN => ⟨n, Nat.lt_succ_self n, hN⟩, B, G0, ρ2, G3, s3, ?_⟩
        revert o2
        show OutS X.K X.mg W B G0 (match g ρ2 with | .nx ρ2 => whileG gt g n ρ2 | .ct ρ2 => whileG gt g n ρ2 | .br ρ2 => .nx ρ2 | o => o) D → _
        cases g ρ2 with
        | nx ρ5 => exact fun o2 σ5 G5 H5 s5 => ⟨ρ5, G5, s5, o2⟩
        | ct ρ5 => exact fun o2 σ5 G5 H5 s5 => ⟨ρ5, G5, s5, o2⟩
        | br ρ5 => exact fun o2 => o2
        | rt d => exact fun o2 => o2
        | exc c => exact fun o2 => o2
        | bad => exact fun o2 => o2
end
/-! ### list comprehensions -/
def never : WX := fun _ _ _ _ => False
def wipeE (ρ : En) : List Nat → En
  | [] => ρ
  | v :: vs => (wipeE ρ vs).set v none
theorem wipe_get (σ : L2.St) (i : Nat) : ∀ vs : List Nat, (wipe σ vs)[i]? = if i ∈ vs then (if i < σ.length then some none else none) else σ[i]?
  | [] => by simp [wipe]
  | v :: vs => by
    unfold wipe
    by_cases hv : v = i
    · subst hv
      rw [List.getElem?_set]
      simp [wipe_length]
    · rw [List.getElem?_set_ne hv, wipe_get σ i vs]
      simp [show ¬ i = v from fun z => hv z.symm]
theorem wipeE_get (σ : En) (i : Nat) : ∀ vs : List Nat, (wipeE σ vs)[i]? = if i ∈ vs then (if i < σ.length then some none else none) else σ[i]? := by
  have len : ∀ vs : List Nat, (wipeE σ vs).length = σ.length := fun vs => by
    induction vs with
    | nil => rfl
    | cons v vs ih => unfold wipeE; rw [List.length_set, ih]
  intro vs
  induction vs with
  | nil => simp [wipeE]
  | cons v vs ih =>
    unfold wipeE
    by_cases hv : v = i
    · subst hv
      rw [List.getElem?_set]
      simp [len]
    · rw [List.getElem?_set_ne hv, ih]
      simp [show ¬ i = v from fun z => hv z.symm]
theorem wipeE_len (σ : En) : ∀ vs : List Nat, (wipeE σ vs).length = σ.length
  | [] => rfl
  | v :: vs => by unfold wipeE; rw [List.length_set, wipeE_len σ vs]
theorem OutOf.wipe {σ σ' : L2.St} {vs ws : List Nat} (o : OutOf ws (L2.wipe σ vs) σ') (h : ∀ i ∈ ws, i ∈ vs) : L2.wipe σ' vs = L2.wipe σ vs := by
  apply List.ext_getElem?
  intro i
  rw [wipe_get, wipe_get]
  by_cases hi : i ∈ vs
  · rw [if_pos hi, if_pos hi, o.len, wipe_length]
  · rw [if_neg hi, if_neg hi, o.out i fun z => hi (h i z), wipe_get, if_neg hi]
theorem SRep.wipe {K : PySem.W.Frag} {B G0 G H : Hp} {σ : L2.St} {ρ : En} (s : SRep K B G0 G H σ ρ) (vs : List Nat) : SRep K B G0 G H (L2.wipe σ vs) (wipeE ρ vs) where
  gh := s.gh
  bh := s.bh
  g0 := s.g0
  gb := s.gb
  len := by rw [wipe_length, wipeE_len]; exact s.len
  sl := fun i x h => by
    rw [wipeE_get] at h
    by_cases hi : i ∈ vs
    · rw [if_pos hi] at h
      split at h
      · cases h
      · cases h
    · rw [if_neg hi] at h
      rw [wipe_get, if_neg hi]
      exact s.sl i x h
  ap := fun i j v d e h1 h2 h3 h4 => by
    rw [wipeE_get] at h1 h2
    rw [wipe_get] at h3 h4
    by_cases hi : i ∈ vs
    · rw [if_pos hi] at h1
      split at h1
      · cases h1
      · cases h1
    · by_cases hj : j ∈ vs
      · rw [if_pos hj] at h2
        split at h2
        · cases h2
        · cases h2
      · rw [if_neg hi] at h1 h3
        rw [if_neg hj] at h2 h4
        exact s.ap i j v d e h1 h2 h3 h4
def lcG (vs : List Nat) (t : Tg) (gt : En → R Bool) (ge : En → R D) (ρ : En) : List D → R (List D)
  | [] => .ok []
  | d :: ds => (R.opt (t.put d (wipeE ρ vs))).bind fun ρ1 => ((gt ρ1).noX).bind fun b =>
    if b = true then ((ge ρ1).noX).bind fun x => (lcG vs t gt ge ρ ds).bind fun xs => .ok (x :: xs) else lcG vs t gt ge ρ ds
def lcD (vs : List Nat) (t : Tg) (gi : En → R (List D)) (gt : En → R Bool) (ge : En → R D) : En → R D := fun ρ => (gi ρ).bind fun ds => if ds.length ≤ LIM then (lcG vs t gt ge ρ ds).bind fun xs => .ok (.list xs) else .bad
theorem R.bind_eq_ok {α β : Type} {r : R α} {f : α → R β} {b : β} (h : r.bind f = .ok b) : ∃ a, r = .ok a ∧ f a = .ok b := by
  cases r with
  | ok a => exact ⟨a, rfl, h⟩
  | exc c => cases h
  | bad => cases h
theorem R.noX_ne {α : Type} {r : R α} {c : String} : r.noX ≠ .exc c := by
  cases r <;> exact fun z => nomatch z
theorem R.noX_eq {α : Type} {r : R α} {a : α} (h : r.noX = .ok a) : r = .ok a := by
  cases r with
  | ok b => cases h; rfl
  | exc c => cases h
  | bad => cases h
theorem lcG_noexc {vs : List Nat} {t : Tg} {gt : En → R Bool} {ge : En → R D} {ρ : En} {c : String} : ∀ ds : List D, lcG vs t gt ge ρ ds ≠ .exc c
  | [] => fun z => nomatch z
  | d :: ds => by
    unfold lcG
    cases t.put d (wipeE ρ vs) with
    | none => exact fun z => nomatch z
    | some ρ1 =>
      rw [R.opt_some, R.bind_ok]
      cases q : (gt ρ1).noX with
      | bad => exact fun z => nomatch z
      | exc c' => exact absurd q R.noX_ne
      | ok b =>
        rw [R.bind_ok]
        cases b with
        | false => rw [if_neg Bool.false_ne_true]; exact lcG_noexc ds
        | true =>
          rw [if_pos rfl]
          cases q2 : (ge ρ1).noX with
          | bad => exact fun z => nomatch z
          | exc c' => exact absurd q2 R.noX_ne
          | ok x =>
            rw [R.bind_ok]
            cases q3 : lcG vs t gt ge ρ ds with
            | bad => exact fun z => nomatch z
            | exc c' => exact absurd q3 (lcG_noexc ds)
            | ok y => exact fun z => nomatch z
section
variable {X : Cx} {W : WX}
def TDs (X : Cx) (W : WX) (ifs : List Expr) (g : En → R Bool) : Prop := PTs X ifs (tT X.K X.mg W g)
def tYesD : En → R Bool := fun _ => .ok true
theorem tds_nil : TDs X W [] tYesD := ⟨fun pins s σ H Q I ⟨B, G0, ρ, G, sr, o⟩ => pts_nil.run pins s σ H Q I (o G H (.refl sr.gh))⟩
theorem tds_one {c : Expr} {g : En → R Bool} (h : TD X W c g) : TDs X W [c] g := pts_one h
variable {elt tg iter : Expr} {ifs : List Expr} {scope : Scope} {own : List (Str × Nat)} {pos : Pos} {t : Tg} {tgr : TG} {gi : En → R (List D)} {gt : En → R Bool} {ge : En → R D}
theorem tLc_D {P : VK} {Kf : PySem.W.Frag} {mg : MG} (ht : TgOk Kf t tgr) (hv : ∀ i ∈ t.slots, i ∈ own.map (·.2)) {B G0 G H : Hp} {σ : L2.St} {ρ : En} (s : SRep Kf B G0 G H σ ρ) (o : Out .fr Kf mg W (lcD (own.map (·.2)) t gi gt ge ρ) σ G H P) :
    tLc (tI false Kf mg W gi) tgr (tT Kf mg never gt) (tD .sh Kf mg never ge) (own.map (·.2)) σ H P := by
  refine ⟨B, G0, ρ, G, s, ?_⟩
  revert o
  unfold lcD
  cases q : gi ρ with
  | bad => exact fun o => o.elim
  | exc c => exact fun o => o
  | ok ds =>
    intro o J G1 H1 x jl
    rw [R.bind_ok] at o
    by_cases hlen : ds.length ≤ LIM
    · rw [if_pos hlen] at o
      cases ql : lcG (own.map (·.2)) t gt ge ρ ds with
      | bad => rw [ql] at o; exact o.elim
      | exc c => exact absurd ql (lcG_noexc ds)
      | ok all =>
        rw [ql, R.bind_ok] at o
        intro Dd hD
        have s1 := s.ext x
        refine ⟨fun i m H => m = ds.length - i ∧ ∃ G acc dn rs, Ext G1 H1 G H ∧ H Dd = some (.lst acc) ∧ G Dd = none ∧ RpA Kf G acc dn ∧ dn.length ≤ i ∧ all = dn ++ rs ∧ lcG (own.map (·.2)) t gt ge ρ (ds.drop i) = .ok rs,
          ⟨ds.length, rfl, G1, [], [], all, .aside s1.gh hD, upd_same, s1.gh.free hD, .nil, Nat.le_refl _, rfl, ql⟩, ?_⟩
        rintro i m H2 ⟨rfl, G2, acc, dn, rs, x2, hDd, gDd, racc, hdn, hall, hrs⟩
        have st2 : StD false G1 H1 G2 H2 := ⟨x2.g, x2.gh, fun _ => x2.h⟩
        by_cases hi : i < ds.length
        · have ed : ds.drop i = ds[i] :: ds.drop (i + 1) := List.drop_eq_getElem_cons hi
          rw [ed] at hrs
          unfold lcG at hrs
          obtain ⟨ρ1, e1, hrs⟩ := R.bind_eq_ok hrs
          have e1' : t.put ds[i] (wipeE ρ (own.map (·.2))) = some ρ1 := by
            cases z : t.put ds[i] (wipeE ρ (own.map (·.2))) with
            | none => rw [z] at e1; cases e1
            | some y => rw [z] at e1; cases e1; rfl
          obtain ⟨b, e2, hrs⟩ := R.bind_eq_ok hrs
          have e2' := R.noX_eq e2
          refine .inr ⟨jl.go i G2 H2 st2 hi, fun H' => ∃ G acc dn rs, Ext G1 H1 G H' ∧ H' Dd = some (.lst acc) ∧ G Dd = none ∧ RpA Kf G acc dn ∧ dn.length ≤ i + 1 ∧ all = dn ++ rs ∧ lcG (own.map (·.2)) t gt ge ρ (ds.drop (i + 1)) = .ok rs,
            fun H' hN => ⟨ds.length - (i + 1), by omega, rfl, hN⟩, fun v H3 hy => ?_⟩
          obtain ⟨G3, x3, r3⟩ := jl.yl i ds[i] G2 H2 v H3 st2 (by simp [hi]) hy
          have s3 := ((s1.ext x2).ext x3).wipe (own.map (·.2))
          have keep : ∀ {G4 H4 : Hp}, Ext G2 H2 G4 H4 → H4 Dd = some (.lst acc) ∧ G4 Dd = none := fun {G4 H4} x4 => ⟨x4.h _ _ hDd, by
            cases z : G4 Dd with
            | none => rfl
            | some u => exact absurd gDd (x4.fr Dd (by rw [hDd]; exact fun z => nomatch z) (by rw [z]; exact fun z => nomatch z))⟩
          refine ht B G0 G3 H3 _ _ v _ ρ1 _ s3 r3 e1' fun σ4 s4 oo => ⟨oo.wipe hv, B, G0, ρ1, G3, s4, ?_⟩
          rw [e2']
          intro G5 H5 x5
          have s5 := s4.ext x5
          cases b with
          | false =>
            rw [if_neg Bool.false_ne_true] at hrs ⊢
            have x25 := x3.trans x5
            obtain ⟨k1, k2⟩ := keep x25
            exact ⟨G5, acc, dn, rs, x2.trans x25, k1, k2, racc.mono x25.g, by omega, hall, hrs⟩
          | true =>
            rw [if_pos rfl] at hrs ⊢
            obtain ⟨y, e3, hrs⟩ := R.bind_eq_ok hrs
            have e3' := R.noX_eq e3
            obtain ⟨xs, e4, hrs⟩ := R.bind_eq_ok hrs
            cases hrs
            refine ⟨B, G0, ρ1, G5, s5, ?_⟩
            rw [e3']
            intro u G6 H6 x6 r6
            have x26 := (x3.trans x5).trans x6
            obtain ⟨k1, k2⟩ := keep x26
            have hal : acc.length < sizeLine := by
              rw [← lim_eq, racc.length]; omega
            have x16 := x2.trans x26
            refine ⟨acc, k1, hal, G6, acc ++ [u], dn ++ [y], xs, ⟨x16.g, fun b' o' h' => ?_, fun b' o' h' => ?_, x16.fr⟩, upd_same, k2, (racc.mono x26.g).append (.cons r6 .nil), ?_, ?_, e4⟩
            · rw [upd_ne (ne_of_none h' hD)]; exact x16.h b' o' h'
            · rw [upd_ne (ne_of_none h' k2)]; exact x16.gh b' o' h'
            · rw [List.length_append]; simp; omega
            · rw [hall, List.append_assoc]; rfl
        · have ed : ds.drop i = [] := List.drop_eq_nil_of_le (by omega)
          rw [ed] at hrs
          cases hrs
          rw [List.append_nil] at hall
          subst hall
          exact .inl ⟨jl.st i G2 H2 st2 (by omega), o _ G2 H2 (x.trans x2) ⟨.lst hDd racc, Dd, rfl, x.h.free hD, gDd⟩⟩
    · rw [if_neg hlen] at o; exact o.elim
variable (hc : X.calm = true) (hN : X.N.Nodup) (hi : ID false X W tg iter gi) (ok : BlkOk X.N X.env.scope scope own)
  (hg : ∀ (s : Shared) (H : Hp) (C : Addr) (cl : List (Str × Addr)) (fp : List Addr), PG (X.blk s H scope (compEnvC scope cl C X.env) fp) tg tgr) (ht : TgOk X.K t tgr) {vs : List Nat} (hvs : own.map (·.2) = vs) (hv : ∀ i ∈ t.slots, i ∈ vs)
  (htt : ∀ (s : Shared) (H : Hp) (C : Addr) (cl : List (Str × Addr)) (fp : List Addr), TDs (X.blk s H scope (compEnvC scope cl C X.env) fp) never ifs gt)
  (he : ∀ (s : Shared) (H : Hp) (C : Addr) (cl : List (Str × Addr)) (fp : List Addr), ED .sh (X.blk s H scope (compEnvC scope cl C X.env) fp) never elt ge)
include hc hN hi ok hg ht hvs hv htt he
theorem ed_lc (hs : ∀ x, foldedSetIterable iter X.env x = pure x := by intro _; rfl) : ED .fr X W (.ListComp elt [⟨tg, iter, ifs, 0⟩] scope pos) (lcD vs t gi gt ge) :=
  PE.imp (pe_lc (tt := tT X.K X.mg never gt) (te := tD .sh X.K X.mg never ge) hc hN hi ok hg htt he hs) fun σ H Q ⟨B, G0, ρ, G, s, o⟩ => by subst hvs; exact tLc_D ht hv s o
variable {i : Nat} {y : Str} {py spos : Pos} (hy : X.N[i]? = some y) (hyl : X.env.scope.names.lookup y = some .local)
    (hsw : swapsWith (.ListComp elt [⟨tg, iter, ifs, 0⟩] scope pos) (some (.Name y py)) spos.line X.env = pure true)
include hy hyl hsw
/-- name = [..], the list kept as the slot's own | frozen -/
theorem sd_setLcO (hs : ∀ x, foldedSetIterable iter X.env x = pure x := by intro _; rfl) : SD X W (.Assign [.Name y py] (.ListComp elt [⟨tg, iter, ifs, 0⟩] scope pos) spos) (sSetO i (lcD vs t gi gt ge)) :=
  PS.imp (ps_setLc (tt := tT X.K X.mg never gt) (te := tD .sh X.K X.mg never ge) hc hN hy hyl hsw hi ok hg htt he hs) fun D σ H h => by
    subst hvs
    obtain ⟨B, G0, ρ, G, s, o⟩ := (tAsgO_D (X := X) h)
    exact tLc_D ht hv s o
theorem sd_setLc (hs : ∀ x, foldedSetIterable iter X.env x = pure x := by intro _; rfl) : SD X W (.Assign [.Name y py] (.ListComp elt [⟨tg, iter, ifs, 0⟩] scope pos) spos) (sSet (.one i) (lcD vs t gi gt ge)) :=
  PS.imp (ps_setLc (tt := tT X.K X.mg never gt) (te := tD .sh X.K X.mg never ge) hc hN hy hyl hsw hi ok hg htt he hs) fun D σ H h => by
    have h1 : tAsg (tD .sh X.K X.mg W (lcD vs t gi gt ge)) (gName i) D σ H := tAsg_D (tg_name (X := X) i) h
    subst hvs
    obtain ⟨B, G0, ρ, G, s, o⟩ := h1
    refine tLc_D ht hv s ?_
    revert o
    cases lcD _ t gi gt ge ρ with
    | bad => exact fun o => o
    | exc c => exact fun o => o
    | ok d =>
      intro o v G' H' x r
      obtain ⟨c, a, ev, h0, g0⟩ := r
      obtain ⟨a', u, ev', hu⟩ := c.there
      rw [ev] at ev'; cases ev'
      exact o v _ H' (x.freeze h0 hu g0) (c.freeze ev hu g0)
end
end DL

namespace DL
open PySem PySem.Spec PyProof.Rows L2

/-! ### arithmetic -/
section
variable {K : PySem.W.Frag} {X : Cx} {m : Md}
def iop (C : Int → Int → Bool) (f : Int → Int → Int) : D → D → Option D
  | .int i, .int j => if C i j = true then some (.int (f i j)) else none
  | _, _ => none
theorem rp_sh {G G' H H' H0 : Hp} {v : V} {d : D} (m : Md) (hm : m ≠ .fr) (h : Rp K G v d) : RpM m K H0 G H v d := by
  cases m with
  | sh => exact h
  | bo => exact .inl h
  | fr => exact absurd rfl hm
theorem opd_int {C : Int → Int → Prop} {c : Int → Int → Bool} {f : Int → Int → Int} (hc : ∀ i j, c i j = true → C i j) (hm : m ≠ .fr := by decide) : OpD m K (rI C fun i j => .int (f i j)) (iop c f) := fun x y d v u G H Q gh rx ry e q => by
  cases x <;> cases y <;> first
    | (cases e; done)
    | skip
  rename_i i j
  simp only [iop] at e
  split at e
  · rename_i h
    cases e
    exact ⟨i, j, RpB.int rx, RpB.int ry, hc i j h, q _ G H (.refl gh) (rp_sh (G' := G) (H' := H) m hm (.int _))⟩
  · cases e
def always : Int → Int → Bool := fun _ _ => true
def cMul : Int → Int → Bool := fun i j => decide (i.natAbs < 18446744073709551616) || decide (j.natAbs < 18446744073709551616) || decide (i.natAbs.log2 + j.natAbs.log2 < 1000000)
def cPos : Int → Int → Bool := fun _ j => decide (0 < j)
def cDiv : Int → Int → Bool := fun _ j => decide (0 < j) && decide (j.natAbs.log2 < 9000)
def CMulA (i j : Int) : Prop := CMul i j ∨ CMulW i j
theorem cMul_ok (i j : Int) (h : cMul i j = true) : CMulA i j := by
  simp only [cMul, Bool.or_eq_true, decide_eq_true_eq] at h
  rcases h with (h | h) | h
  · exact .inl (.inl (by omega))
  · exact .inl (.inr (by omega))
  · exact .inr h
theorem op_mulA : OpR X (binaryOp .Mult) (rI CMulA fun i j => .int (i * j)) := opI fun _ _ _ _ _ _ _ hc q => mul_int q (hc.elim (fun h => h.ok) fun h => h.ok)
theorem op_addC : OpR X (binaryOp .Add) (rI (fun _ _ => True) fun i j => .int (i + j)) := opI fun _ _ _ _ _ _ _ _ q => add_int q
theorem op_subC : OpR X (binaryOp .Sub) (rI (fun _ _ => True) fun i j => .int (i - j)) := opI fun _ _ _ _ _ _ _ _ q => sub_int q
variable {W : WX} {a b e : Expr} {ga gb g : En → R D} {pos : Pos}
theorem ed_sub (ha : ED .bo X W a ga) (hb : ED .bo X W b gb) : ED .sh X W (.BinOp a .Sub b pos) (op2 (iop always fun i j => i - j) ga gb) := ed_op op_subC (opd_int fun _ _ _ => trivial) ha hb
theorem ed_mul (ha : ED .bo X W a ga) (hb : ED .bo X W b gb) : ED .sh X W (.BinOp a .Mult b pos) (op2 (iop cMul fun i j => i * j) ga gb) := ed_op op_mulA (opd_int cMul_ok) ha hb
theorem ed_mod (ha : ED .bo X W a ga) (hb : ED .bo X W b gb) : ED .sh X W (.BinOp a .Mod b pos) (op2 (iop cPos fun i j => i % j) ga gb) := ed_op op_mod (opd_int fun i j h => of_decide_eq_true h) ha hb
theorem ed_div (ha : ED .bo X W a ga) (hb : ED .bo X W b gb) : ED .sh X W (.BinOp a .FloorDiv b pos) (op2 (iop cDiv fun i j => i / j) ga gb) := ed_op op_fdivW (opd_int fun i j h => by
  simp only [cDiv, Bool.and_eq_true, decide_eq_true_eq] at h
  exact h) ha hb
def cPow : Int → Int → Bool := fun i j => decide (0 ≤ j) && decide (j ≤ 1000) && decide (i.natAbs < 1000)
theorem ed_pow (ha : ED .bo X W a ga) (hb : ED .bo X W b gb) : ED .sh X W (.BinOp a .Pow b pos) (op2 (iop cPow fun i j => i ^ j.toNat) ga gb) := ed_op op_pow (opd_int fun i j h => by
  simp only [cPow, Bool.and_eq_true, decide_eq_true_eq] at h
  exact ⟨h.1.1, by omega, by omega⟩) ha hb
def dNeg : D → R D
  | .int i => .ok (.int (-i))
  | _ => .bad
theorem ed_neg (ha : ED .bo X W a g) : ED .sh X W (.UnaryOp .USub a pos) (fun ρ => (g ρ).bind dNeg) := PE.imp (pe_un un_neg ha) fun σ H Q ⟨B, G0, ρ, G, s, o⟩ => stepD (m := .bo) kD_ s o fun d v G1 H1 s1 e1 r1 o1 => by
  cases d with
  | int i => exact ⟨i, RpB.int r1, o1 _ G1 H1 (.refl s1.gh) (.int _)⟩
  | _ => exact o1.elim

/-! ### + -/
/-- lists that are to be read -/
def rCatS (K : PySem.W.Frag) : R2 := fun x y H Q => ∃ a b xs ys, x = .ref a ∧ y = .ref b ∧ SqL K H a xs ∧ SqL K H b ys ∧ xs.length + ys.length ≤ sizeLine ∧ ∀ p, H p = none → Q (.ref p) (upd H p (.lst (xs ++ ys)))
theorem op_catS : OpR X (binaryOp .Add) (rCatS X.K) := by
  intro pins s σ H x y v u Q I rx ry h
  obtain ⟨l, b, xs, zs, rfl, rfl, hH, hB, hz, q⟩ := h
  cases rx
  cases ry
  obtain ⟨its, r, p1, _⟩ := I.list hH
  obtain ⟨its2, r2, p2, _⟩ := I.list hB
  obtain ⟨⟨cls, dd, data, sl⟩, ho, hc, n, hd⟩ := p1.isList
  obtain ⟨⟨cls2, dd2, data2, sl2⟩, ho2, hc2, n2, hd2⟩ := p2.isList
  simp only at hc hd hc2 hd2
  subst hc hd hc2 hd2
  have h1 := r.length
  have h2 := r2.length
  refine concat_meets ⟨_, ho, rfl⟩ ⟨_, ho2, rfl⟩ noFill_list_add seq_list_add PySem.F.slot_list_add PySem.F.entry_list_add (PySem.F.args_list_add_2 _ _) (list_addW l b its.toArray its2.toArray n n2 dd dd2 sl sl2 (by rw [List.size_toArray, List.size_toArray]; omega)) ⟨ho, ho2, ?_⟩
  have ea : its.toArray ++ its2.toArray = (its ++ its2).toArray := by simp
  rw [ea]
  exact ⟨.ref _, _, I.lnew (t' := s.toks) (r.append r2) (by rw [List.length_append]; omega), rfl, q _ I.fresh⟩
def catL : D → D → Option D
  | .list a, .list b => if a.length + b.length ≤ LIM then some (.list (a ++ b)) else none
  | _, _ => none
theorem opd_catL : OpD .fr K (rCatS K) catL := fun x y d v u G H Q gh rx ry e q => by
  cases x <;> cases y <;> first
    | (cases e; done)
    | skip
  rename_i ds es
  simp only [catL] at e
  split at e
  · rename_i h
    cases e
    obtain ⟨a, xs, rfl, h1, h2⟩ := RpB.list gh rx
    obtain ⟨b, ys, rfl, h3, h4⟩ := RpB.list gh ry
    refine ⟨a, b, xs, ys, rfl, rfl, h1, h3, by rw [h2.length, h4.length, ← lim_eq]; exact h, fun p hp => q _ _ _ (.aside gh hp) ⟨.lst upd_same (h2.append h4), p, rfl, hp, gh.free hp⟩⟩
  · cases e
theorem ed_cat (ha : ED .bo X W a ga) (hb : ED .bo X W b gb) : ED .fr X W (.BinOp a .Add b pos) (op2 catL ga gb) := ed_op op_catS opd_catL ha hb
def dAdd : D → D → Option D
  | .int i, .int j => some (.int (i + j))
  | .str x, .str y => if x.length + y.length ≤ LIM then some (.str (x ++ y)) else none
  | .list a, .list b => if a.length + b.length ≤ LIM then some (.list (a ++ b)) else none
  | .tuple a, .tuple b => if a.length + b.length ≤ LIM then some (.tuple (a ++ b)) else none
  | _, _ => none
def rAddG (K : PySem.W.Frag) : R2 := fun x y H Q => (rI0 (fun i j => .int (i + j)) x y H Q ∨ rCatS K x y H Q) ∨ (rCatA K x y H Q ∨ ∃ i j, x = .str i ∧ y = .str j ∧ i.length + j.length ≤ sizeLine ∧ Q (.str (i ++ j)) H)
theorem op_addG : OpR X (binaryOp .Add) (rAddG X.K) := (op_add.or op_catS).or (op_catA.or op_add_str)
theorem opd_add : OpD .sh K (rAddG K) dAdd := fun x y d v u G H Q gh rx ry e q => by
  cases x <;> cases y <;> first
    | (cases e; done)
    | skip
  · rename_i i j
    cases e
    exact .inl (.inl ⟨i, j, RpB.int rx, RpB.int ry, q _ G H (.refl gh) (.int _)⟩)
  · rename_i i j
    simp only [dAdd] at e
    split at e
    · rename_i h
      cases e
      exact .inr (.inr ⟨i, j, RpB.str rx, RpB.str ry, by rw [← lim_eq]; exact h, q _ G H (.refl gh) (.str _)⟩)
    · cases e
  · rename_i ds es
    simp only [dAdd] at e
    split at e
    · rename_i h
      cases e
      obtain ⟨a, xs, rfl, h1, h2⟩ := RpB.list gh rx
      obtain ⟨b, ys, rfl, h3, h4⟩ := RpB.list gh ry
      refine .inl (.inr ⟨a, b, xs, ys, rfl, rfl, h1, h3, by rw [h2.length, h4.length, ← lim_eq]; exact h, fun p hp => q _ _ _ (.new gh hp) (.lst (.of upd_same) ((h2.append h4).mono (same_new (gh.free hp))))⟩)
    · cases e
  · rename_i ds es
    simp only [dAdd] at e
    split at e
    · rename_i h
      cases e
      obtain ⟨a, xs, rfl, h1, h2⟩ := RpB.tuple gh rx
      obtain ⟨b, ys, rfl, h3, h4⟩ := RpB.tuple gh ry
      have sx : RpB K G H (.ref a) (.tuple ds) → Rp K G (.ref a) (.tuple ds) := fun h => h.elim (fun h => h) fun h => by cases h
      have sy : RpB K G H (.ref b) (.tuple es) → Rp K G (.ref b) (.tuple es) := fun h => h.elim (fun h => h) fun h => by cases h
      refine .inr (.inl ⟨a, b, xs, ys, rfl, rfl, h1, h3, by rw [h2.length, h4.length, ← lim_eq]; exact h, fun z => ?_, fun z1 z2 => ?_, fun _ _ p hp => q _ _ _ (.new gh hp) (.tup (.of upd_same) ((h2.append h4).mono (same_new (gh.free hp))))⟩)
      · subst z
        cases h2
        exact q _ G H (.refl gh) (sy ry)
      · subst z2
        cases h4
        rw [List.append_nil] at q
        exact q _ G H (.refl gh) (sx rx)
    · cases e
theorem ed_add (ha : ED .bo X W a ga) (hb : ED .bo X W b gb) : ED .sh X W (.BinOp a .Add b pos) (op2 dAdd ga gb) := ed_op op_addG opd_add ha hb

/-! ### comparisons -/
def bop (f : Int → Int → Bool) : D → D → Option D
  | .int i, .int j => some (.bool (f i j))
  | _, _ => none
theorem opd_bool {f : Int → Int → Bool} (hm : m ≠ .fr := by decide) : OpD m K (rI0 fun i j => .bl (f i j)) (bop f) := fun x y d v u G H Q gh rx ry e q => by
  cases x <;> cases y <;> first
    | (cases e; done)
    | skip
  rename_i i j
  cases e
  exact ⟨i, j, RpB.int rx, RpB.int ry, q _ G H (.refl gh) (rp_sh (G' := G) (H' := H) m hm (.bl _))⟩
abbrev ltD := bop fun i j => decide (i < j)
abbrev leD := bop fun i j => decide (i ≤ j)
abbrev gtD := bop fun i j => decide (j < i)
abbrev geD := bop fun i j => decide (j ≤ i)
theorem ed_lt (ha : ED .bo X W a ga) (hb : ED .bo X W b gb) : ED .sh X W (.Compare a [.Lt] [b] pos) (op2 ltD ga gb) := ed_cmp op_lt opd_bool ha hb (nomark _)
theorem ed_le (ha : ED .bo X W a ga) (hb : ED .bo X W b gb) : ED .sh X W (.Compare a [.LtE] [b] pos) (op2 leD ga gb) := ed_cmp op_le opd_bool ha hb (nomark _)
theorem ed_gt (ha : ED .bo X W a ga) (hb : ED .bo X W b gb) : ED .sh X W (.Compare a [.Gt] [b] pos) (op2 gtD ga gb) := ed_cmp op_gt opd_bool ha hb (nomark _)
theorem ed_ge (ha : ED .bo X W a ga) (hb : ED .bo X W b gb) : ED .sh X W (.Compare a [.GtE] [b] pos) (op2 geD ga gb) := ed_cmp op_ge opd_bool ha hb (nomark _)
theorem td_lt (ha : ED .bo X W a ga) (hb : ED .bo X W b gb) : TD X W (.Compare a [.Lt] [b] pos) (tst (op2 ltD ga gb)) := td_cmp op_lt opd_bool ha hb (nomark _)
theorem td_le (ha : ED .bo X W a ga) (hb : ED .bo X W b gb) : TD X W (.Compare a [.LtE] [b] pos) (tst (op2 leD ga gb)) := td_cmp op_le opd_bool ha hb (nomark _)
theorem td_gt (ha : ED .bo X W a ga) (hb : ED .bo X W b gb) : TD X W (.Compare a [.Gt] [b] pos) (tst (op2 gtD ga gb)) := td_cmp op_gt opd_bool ha hb (nomark _)
theorem td_ge (ha : ED .bo X W a ga) (hb : ED .bo X W b gb) : TD X W (.Compare a [.GtE] [b] pos) (tst (op2 geD ga gb)) := td_cmp op_ge opd_bool ha hb (nomark _)

mutual
theorem Rp.dp {K : PySem.W.Frag} {G H : Hp} (gh : Same G H) : ∀ {v : V} {d : D}, Rp K G v d → d.canLay0 = true → Dp K H v d
  | _, _, .non, _ => .non
  | _, _, .bl b, _ => .bl b
  | _, _, .int i, _ => .int i
  | _, _, .str x, _ => .str x
  | _, _, .lst h a, c => .lst (gh.seq h) (RpA.dp gh a (by simpa [PyData.canLay0] using c))
  | _, _, .tup h a, c => .tup (Same.sqt gh h) (RpA.dp gh a (by simpa [PyData.canLay0] using c))
  | _, _, .dct h a, c => by simp [PyData.canLay0] at c
theorem RpA.dp {K : PySem.W.Frag} {G H : Hp} (gh : Same G H) : ∀ {v : List V} {d : List D}, RpA K G v d → PyData.canLayAll0 d = true → DpAll K H v d
  | _, _, .nil, _ => .nil
  | _, _, .cons a b, c => by
    simp only [PyData.canLayAll0, Bool.and_eq_true] at c
    exact .cons (Rp.dp gh a c.1) (RpA.dp gh b c.2)
end
theorem RpB.dp {G H : Hp} {v : V} {d : D} (gh : Same G H) (r : RpB K G H v d) (c : d.canLay0 = true) : Dp K H v d := by
  rcases r with r | r
  · exact r.dp gh c
  · cases r with
    | lst h a => exact .lst (.of h) (a.dp gh (by simpa [PyData.canLay0] using c))
    | dct h a => simp [PyData.canLay0] at c
def dEq : D → D → Option D := fun x y => if SeqAt.shaped x = true ∧ SeqAt.shaped y = true then some (.bool (PyData.eqv x y)) else none
def dNe : D → D → Option D := fun x y => if SeqAt.shaped x = true ∧ SeqAt.shaped y = true then some (.bool (!PyData.eqv x y)) else none
theorem opd_eq (hm : m ≠ .fr := by decide) : OpD m K (rEqD K) dEq := fun x y d v u G H Q gh rx ry e q => by
  unfold dEq at e
  split at e
  · rename_i h
    cases e
    exact ⟨x, y, RpB.dp gh rx (SeqAt.canLay_of_shaped h.1), RpB.dp gh ry (SeqAt.canLay_of_shaped h.2), h.1, h.2, q _ G H (.refl gh) (rp_sh (G' := G) (H' := H) m hm (.bl _))⟩
  · cases e
theorem opd_ne (hm : m ≠ .fr := by decide) : OpD m K (rNeD K) dNe := fun x y d v u G H Q gh rx ry e q => by
  unfold dNe at e
  split at e
  · rename_i h
    cases e
    exact ⟨x, y, RpB.dp gh rx (SeqAt.canLay_of_shaped h.1), RpB.dp gh ry (SeqAt.canLay_of_shaped h.2), h.1, h.2, q _ G H (.refl gh) (rp_sh (G' := G) (H' := H) m hm (.bl _))⟩
  · cases e
variable {k : Nat} (hr : Room k X.A)
include hr
theorem ed_eq (ha : ED .bo X W a ga) (hb : ED .bo X W b gb) : ED .sh X W (.Compare a [.Eq] [b] pos) (op2 dEq ga gb) := ed_cmp (op_eqD hr.units) opd_eq ha hb (nomark _)
theorem ed_ne (ha : ED .bo X W a ga) (hb : ED .bo X W b gb) : ED .sh X W (.Compare a [.NotEq] [b] pos) (op2 dNe ga gb) := ed_cmp (op_neD hr.units) opd_ne ha hb (nomark _)
theorem td_eq (ha : ED .bo X W a ga) (hb : ED .bo X W b gb) : TD X W (.Compare a [.Eq] [b] pos) (tst (op2 dEq ga gb)) := td_cmp (op_eqD hr.units) opd_eq ha hb (nomark _)
theorem td_ne (ha : ED .bo X W a ga) (hb : ED .bo X W b gb) : TD X W (.Compare a [.NotEq] [b] pos) (tst (op2 dNe ga gb)) := td_cmp (op_neD hr.units) opd_ne ha hb (nomark _)
omit hr
def isNone : D → Bool
  | .none => true
  | _ => false
theorem rpB_none {G H : Hp} {v : V} {d : D} (r : RpB K G H v d) : decide (v = V.non) = isNone d := by
  rcases r with r | r
  · cases r <;> rfl
  · cases r <;> rfl
def dIs : D → D → Option D
  | x, .none => some (.bool (isNone x))
  | .bool a, .bool b => some (.bool (decide (a = b)))
  | _, _ => none
def dIsN : D → D → Option D
  | x, .none => some (.bool (!isNone x))
  | .bool a, .bool b => some (.bool (!decide (a = b)))
  | _, _ => none
theorem opd_is (hm : m ≠ .fr := by decide) : OpD m K (fun x y H Q => (y = .non ∧ Q (.bl (decide (x = .non))) H) ∨ ∃ a b, x = .bl a ∧ y = .bl b ∧ Q (.bl (decide (a = b))) H) dIs := fun x y d v u G H Q gh rx ry e q => by
  cases y with
  | none =>
    cases e
    exact .inl ⟨RpB.non ry, by rw [rpB_none rx]; exact q _ G H (.refl gh) (rp_sh (G' := G) (H' := H) m hm (.bl _))⟩
  | bool b =>
    cases x with
    | bool a => cases e; exact .inr ⟨a, b, RpB.bl rx, RpB.bl ry, q _ G H (.refl gh) (rp_sh (G' := G) (H' := H) m hm (.bl _))⟩
    | _ => cases e
  | _ => cases x <;> cases e
theorem opd_isN (hm : m ≠ .fr := by decide) : OpD m K (fun x y H Q => (y = .non ∧ Q (.bl (!decide (x = .non))) H) ∨ ∃ a b, x = .bl a ∧ y = .bl b ∧ Q (.bl (!decide (a = b))) H) dIsN := fun x y d v u G H Q gh rx ry e q => by
  cases y with
  | none =>
    cases e
    exact .inl ⟨RpB.non ry, by rw [rpB_none rx]; exact q _ G H (.refl gh) (rp_sh (G' := G) (H' := H) m hm (.bl _))⟩
  | bool b =>
    cases x with
    | bool a => cases e; exact .inr ⟨a, b, RpB.bl rx, RpB.bl ry, q _ G H (.refl gh) (rp_sh (G' := G) (H' := H) m hm (.bl _))⟩
    | _ => cases e
  | _ => cases x <;> cases e
theorem ed_is (ha : ED .bo X W a ga) (hb : ED .bo X W b gb) : ED .sh X W (.Compare a [.Is] [b] pos) (op2 dIs ga gb) := ed_cmp (op_isN.or op_is_bl) opd_is ha hb (nomark _)
theorem ed_isN (ha : ED .bo X W a ga) (hb : ED .bo X W b gb) : ED .sh X W (.Compare a [.IsNot] [b] pos) (op2 dIsN ga gb) := ed_cmp (op_notN.or op_isnot_bl) opd_isN ha hb (nomark _)
theorem td_is (ha : ED .bo X W a ga) (hb : ED .bo X W b gb) : TD X W (.Compare a [.Is] [b] pos) (tst (op2 dIs ga gb)) := td_cmp (op_isN.or op_is_bl) opd_is ha hb (nomark _)
theorem td_isN (ha : ED .bo X W a ga) (hb : ED .bo X W b gb) : TD X W (.Compare a [.IsNot] [b] pos) (tst (op2 dIsN ga gb)) := td_cmp (op_notN.or op_isnot_bl) opd_isN ha hb (nomark _)
end
end DL

namespace DL
open PySem PySem.Spec PyProof.Rows L2

/-! ### dicts: what stands under a key -/
def keyEq : D → D → Bool
  | .int i, .int j => i == j
  | .str x, .str y => x == y
  | _, _ => false
def toK : D → Option Key
  | .int i => some (.inl i)
  | .str x => some (.inr x)
  | _ => none
theorem toK_kD (k : Key) : toK (kD k) = some k := by cases k <;> rfl
theorem of_toK {d : D} {k : Key} (h : toK d = some k) : d = kD k := by
  cases d <;> first
    | (cases h; rfl)
    | cases h
theorem keyEq_kD (a b : Key) : keyEq (kD a) (kD b) = decide (a = b) := by
  cases a <;> cases b <;> simp [keyEq, kD] <;> rfl
def dLook (kvs : List (D × D)) (k : D) : Option D := (kvs.find? fun p => keyEq p.1 k).map (·.2)
def dPut (kvs : List (D × D)) (k v : D) : List (D × D) :=
  if (kvs.any fun p => keyEq p.1 k) = true then kvs.map (fun p => if keyEq p.1 k = true then (p.1, v) else p) else kvs ++ [(k, v)]
section
variable {K : PySem.W.Frag} {G G' H H' : Hp}
theorem RpK.look : ∀ {kvs : List (Key × V)} {ds : List (D × D)} (k : Key), RpK K G kvs ds → (∀ v, valV kvs k = some v → ∃ d, dLook ds (kD k) = some d ∧ Rp K G v d) ∧ (valV kvs k = none → dLook ds (kD k) = none)
  | _, _, k, .nil => ⟨fun v h => (by cases h), fun _ => rfl⟩
  | _, _, k, .cons (k := k0) (v := v0) (kvs := r) (d := d0) (ds := rs) a b => by
    have ih := RpK.look k b
    have e : dLook ((kD k0, d0) :: rs) (kD k) = if k0 = k then some d0 else dLook rs (kD k) := by
      unfold dLook
      rw [List.find?_cons]
      simp only [keyEq_kD]
      by_cases h : k0 = k
      · simp [h]
      · simp [h]
    by_cases h : k0 = k
    · rw [e, if_pos h, valV_pos h]
      exact ⟨fun v hv => by cases hv; exact ⟨_, rfl, a⟩, fun hv => by cases hv⟩
    · rw [e, if_neg h, valV_neg h]
      exact ih
theorem RpK.look_of {kvs : List (Key × V)} {ds : List (D × D)} {k : Key} {d : D} (r : RpK K G kvs ds) (h : dLook ds (kD k) = some d) : ∃ v, valV kvs k = some v ∧ Rp K G v d := by
  obtain ⟨h1, h2⟩ := r.look k
  cases e : valV kvs k with
  | none => rw [h2 e] at h; cases h
  | some v =>
    obtain ⟨d', e1, e2⟩ := h1 v e
    rw [h] at e1; cases e1
    exact ⟨v, rfl, e2⟩
theorem RpK.look_none {kvs : List (Key × V)} {ds : List (D × D)} {k : Key} (r : RpK K G kvs ds) (h : dLook ds (kD k) = none) : valV kvs k = none := by
  obtain ⟨h1, h2⟩ := r.look k
  cases e : valV kvs k with
  | none => rfl
  | some v =>
    obtain ⟨d', e1, e2⟩ := h1 v e
    rw [h] at e1; cases e1
theorem RpK.any {kvs : List (Key × V)} {ds : List (D × D)} (k : Key) (r : RpK K G kvs ds) : (kvs.any fun p => decide (p.1 = k)) = ds.any fun p => keyEq p.1 (kD k) := by
  induction kvs generalizing ds with
  | nil => cases r; rfl
  | cons p kvs ih =>
    cases r with
    | cons a b => rw [List.any_cons, List.any_cons, ih b, keyEq_kD]
theorem RpK.append : ∀ {a b : List (Key × V)} {c d : List (D × D)}, RpK K G a c → RpK K G b d → RpK K G (a ++ b) (c ++ d)
  | _, _, _, _, .nil, b => b
  | _, _, _, _, .cons a r, b => .cons a (RpK.append r b)
theorem RpK.put {kvs : List (Key × V)} {ds : List (D × D)} {k : Key} {v : V} {d : D} (r : RpK K G kvs ds) (h : Rp K G v d) : RpK K G (putK kvs k v) (dPut ds (kD k) d) := by
  unfold putK dPut
  rw [r.any k]
  by_cases q : (ds.any fun p => keyEq p.1 (kD k)) = true
  · rw [if_pos q, if_pos q]
    clear q
    induction kvs generalizing ds with
    | nil => cases r; exact .nil
    | cons p kvs ih =>
      cases r with
      | @cons k0 v0 _ d0 ds0 a b =>
        rw [List.map_cons, List.map_cons]
        show RpK K G ((if k0 = k then (k0, v) else (k0, v0)) :: _) ((if keyEq (kD k0) (kD k) = true then (kD k0, d) else (kD k0, d0)) :: _)
        rw [keyEq_kD]
        by_cases e : k0 = k
        · rw [if_pos e, if_pos (decide_eq_true e)]
          exact .cons h (ih b)
        · rw [if_neg e, if_neg (by rw [decide_eq_false e]; decide)]
          exact .cons a (ih b)
  · rw [if_neg q, if_neg q]
    exact r.append (.cons h .nil)
theorem RpK.length : ∀ {a : List (Key × V)} {c : List (D × D)}, RpK K G a c → a.length = c.length
  | _, _, .nil => rfl
  | _, _, .cons _ b => by simp [RpK.length b]
theorem rpB_key {v : V} {d : D} {k : Key} (r : RpB K G H v d) (h : toK d = some k) : v = kV k := by
  cases d with
  | int i => cases h; exact RpB.int r
  | str x => cases h; exact RpB.str r
  | _ => cases h
end

/-! ### a[i] -/
def dIx : D → D → Option D
  | .list ds, .int i => atI ds i
  | .tuple ds, .int i => atI ds i
  | .dict kvs, k => match toK k with
    | some _ => dLook kvs k
    | none => none
  | _, _ => none
theorem atI_rp {K : PySem.W.Frag} {G : Hp} {vs : List V} {ds : List D} {i : Int} {d : D} (r : RpA K G vs ds) (h : atI ds i = some d) : ∃ v, atI vs i = some v ∧ Rp K G v d := by
  unfold atI at h ⊢
  rw [r.length]
  cases e : ixN ds.length i with
  | none => rw [e] at h; cases h
  | some j =>
    rw [e] at h
    exact r.getD h
section
variable {K : PySem.W.Frag} {X : Cx} {m : Md} {W : WX} {a b e i : Expr} {ga gb g gi : En → R D} {pos : Pos} {k : Nat}
def notDict : D → Bool
  | .dict _ => false
  | _ => true
theorem opd_ix : OpD .sh K (rIx K) (fun x y => if notDict x = true then dIx x y else none) := fun x y d v u G H Q gh rx ry e q => by
  cases x <;> cases y <;> first
    | (cases e; done)
    | skip
  · rename_i ds i
    have e' : atI ds i = some d := e
    obtain ⟨a, xs, rfl, h1, h2⟩ := RpB.list gh rx
    obtain ⟨w, h3, h4⟩ := atI_rp h2 e'
    exact .inl ⟨a, xs, i, w, rfl, RpB.int ry, h1, h3, q w G H (.refl gh) h4⟩
  · rename_i ds i
    have e' : atI ds i = some d := e
    obtain ⟨a, xs, rfl, h1, h2⟩ := RpB.tuple gh rx
    obtain ⟨w, h3, h4⟩ := atI_rp h2 e'
    exact .inr (.inl ⟨a, xs, i, w, rfl, RpB.int ry, h1, h3, q w G H (.refl gh) h4⟩)
theorem ED.two {g1 g2 : En → R D} (h1 : ED m X W e g1) (h2 : ED m X W e g2) (h : ∀ ρ, g ρ = g1 ρ ∨ g ρ = g2 ρ) : ED m X W e g := by
  refine ⟨fun pins s σ H Q I hw => ?_⟩
  obtain ⟨B, G0, ρ, G, sr, o⟩ := hw
  rcases h ρ with q | q
  · exact h1.run pins s σ H Q I ⟨B, G0, ρ, G, sr, q ▸ o⟩
  · exact h2.run pins s σ H Q I ⟨B, G0, ρ, G, sr, q ▸ o⟩
theorem op2_two {f f1 f2 : D → D → Option D} {p : D → Bool} (h1 : ∀ x y, p x = true → f x y = f1 x y) (h2 : ∀ x y, p x = false → f x y = f2 x y) (ρ : En) : op2 f ga gb ρ = op2 f1 ga gb ρ ∨ op2 f ga gb ρ = op2 f2 ga gb ρ := by
  unfold op2
  cases ga ρ with
  | bad => exact .inl rfl
  | exc c => exact .inl rfl
  | ok x =>
    simp only [R.bind_ok]
    cases gb ρ with
    | bad => exact .inl rfl
    | exc c => exact .inl rfl
    | ok y =>
      simp only [R.bind_ok]
      cases q : p x with
      | true => exact .inl (by rw [h1 x y q])
      | false => exact .inr (by rw [h2 x y q])
theorem ed_dget (hr : Room k X.A) (ha : ED .bo X W a ga) (hb : ED .bo X W i gi) (hs2 : NoSl i) : ED .sh X W (.Subscript a i pos) (op2 (fun x y => if notDict x = true then none else dIx x y) ga gi) :=
  PE.imp (pe_dget (hu_of hr) ha hb hs2) fun σ H Q ⟨B, G0, ρ, G, s, o⟩ => stepD (m := .bo) kD_ s o fun x v G1 H1 s1 e1 r1 o1 => stepD (m := .bo) kD_ s1 o1 fun y u G2 H2 s2 e2 r2 o2 => by
    obtain ⟨d, q1, q2⟩ := out_opt o2
    have r1' := RpB.mono e2 r1
    cases x with
    | dict ds =>
      obtain ⟨a, kv, rfl, h3, h4⟩ := RpB.dict s2.gh r1'
      have q1' : (match toK y with | some _ => dLook ds y | none => none) = some d := by cases y <;> exact q1
      cases ek : toK y with
      | none => rw [ek] at q1'; cases q1'
      | some ky =>
        rw [ek] at q1'
        have q3 : dLook ds y = some d := q1'
        rw [of_toK ek] at q3
        obtain ⟨w, w1, w2⟩ := h4.look_of q3
        refine ⟨a, w, rfl, ?_, q2 w G2 H2 (.refl s2.gh) w2⟩
        rw [rpB_key r2 ek, ← w1]
        exact DGet.k h3
    | _ => cases q1
theorem ed_ixG (hr : Room k X.A) (ha : ED .bo X W a ga) (hb : ED .bo X W i gi) (hs : PlainIx i := by intro _ _; rfl) (hs2 : NoSl i := by intro _ _; rfl) : ED .sh X W (.Subscript a i pos) (op2 dIx ga gi) :=
  ED.two (ed_ix ix_seq (opd_ix (K := X.K)) ha hb hs) (ed_dget hr ha hb hs2) (op2_two (p := notDict) (fun x y h => by rw [if_pos h]) (fun x y h => by rw [if_neg (by rw [h]; decide)]))

/-! ### a[lo:hi] -/
def cutA {α : Type} (xs : List α) (lo hi : Option Int) : List α := (xs.drop (HT.sIx xs.length 0 lo)).take (HT.sIx xs.length xs.length hi - HT.sIx xs.length 0 lo)
def dSl : D → Option Int → Option Int → Option D
  | .list ds, lo, hi => some (.list (cutA ds lo hi))
  | .tuple ds, lo, hi => some (.tuple (cutA ds lo hi))
  | _, _, _ => none
theorem RpA.cut {K : PySem.W.Frag} {G : Hp} {vs : List V} {ds : List D} (r : RpA K G vs ds) (lo hi : Option Int) : RpA K G (cutV vs lo hi) (cutA ds lo hi) := by
  unfold cutV cutA
  rw [r.length]
  exact (r.drop _).take _
def OutO (mg : MG) (W : WX) (r : R (Option Int)) (σ : L2.St) (G H : Hp) (Q : Option Int → Hp → Prop) : Prop := match r with
  | .ok b => ∀ G' H', Ext G H G' H' → Q b H'
  | .exc c => ∀ C G' H', Ext G H G' H' → mg (Str.ofString c) = some C → W C none σ H'
  | .bad => False
def tO (K : PySem.W.Frag) (mg : MG) (W : WX) (g : En → R (Option Int)) : TO := fun σ H Q => ∃ B G0 ρ G, SRep K B G0 G H σ ρ ∧ OutO mg W (g ρ) σ G H Q
def OD (X : Cx) (W : WX) (e : Option Expr) (g : En → R (Option Int)) : Prop := PO X e (tO X.K X.mg W g)
theorem PO.imp {X : Cx} {e : Option Expr} {t t' : TO} (h : PO X e t) (i : ∀ σ H Q, t' σ H Q → t σ H Q) : PO X e t' := ⟨fun pins s σ H Q I q => h.run pins s σ H Q I (i _ _ _ q)⟩
theorem kO_ {mg : MG} {σ : L2.St} {Q : Option Int → Hp → Prop} : Kind mg W σ (Option Int) fun r G H => OutO mg W r σ G H Q where
  ext := fun {r G H G' H'} e o => by
    cases r with
    | ok d => exact fun G2 H2 e2 => o G2 H2 (e.trans e2)
    | exc c => exact fun C G2 H2 e2 => o C G2 H2 (e.trans e2)
    | bad => exact o
  exc := fun o => o
  bad := fun o => o
theorem stepO {α : Type} {Oc : R α → Hp → Hp → Prop} {K : PySem.W.Frag} {mg : MG} {B G0 G H : Hp} {σ : L2.St} {ρ : En} (kd : Kind mg W σ α Oc) {g : En → R (Option Int)} {k : Option Int → R α} {P : Option Int → Hp → Prop} (s : SRep K B G0 G H σ ρ) (o : Oc ((g ρ).bind k) G H)
    (hp : ∀ d G' H', SRep K B G0 G' H' σ ρ → Ext G H G' H' → Oc (k d) G' H' → P d H') : tO K mg W g σ H P := by
  refine ⟨B, G0, ρ, G, s, ?_⟩
  revert o
  cases e : g ρ with
  | ok d => exact fun o G' H' x => hp d G' H' (s.ext x) x (kd.ext x o)
  | exc c => exact fun o C G' H' x hm => kd.exc o C G' H' x hm
  | bad => exact fun o => absurd o kd.bad
def oNone : En → R (Option Int) := fun _ => .ok none
def asI : D → R (Option Int)
  | .int i => .ok (some i)
  | _ => .bad
theorem od_none : OD X W none oNone := PO.imp po_none fun σ H Q ⟨B, G0, ρ, G, s, o⟩ => o G H (.refl s.gh)
theorem od_some (h : ED .bo X W e g) : OD X W (some e) (fun ρ => (g ρ).bind asI) := PO.imp (po_some h) fun σ H Q ⟨B, G0, ρ, G, s, o⟩ => stepD (m := .bo) kO_ s o fun d v G1 H1 s1 e1 r1 o1 => by
  cases d with
  | int i => exact ⟨i, RpB.int r1, o1 G1 H1 (.refl s1.gh)⟩
  | _ => exact o1.elim
def sl3 (g : En → R D) (gl gh : En → R (Option Int)) : En → R D := fun ρ => (g ρ).bind fun x => (gl ρ).bind fun l => (gh ρ).bind fun h => R.opt (dSl x l h)
theorem ed_slice {lo hi : Option Expr} {gl gh : En → R (Option Int)} {p2 : Pos} (he : ED .bo X W e g) (hl : OD X W lo gl) (hu : OD X W hi gh) : ED .sh X W (.Subscript e (.Slice lo hi none p2) pos) (sl3 g gl gh) :=
  PE.imp (pe_slice (sl_list.or sl_tupA) he hl hu) fun σ H Q ⟨B, G0, ρ, G, s, o⟩ => stepD (m := .bo) kD_ s o fun x v G1 H1 s1 e1 r1 o1 => stepO kD_ s1 o1 fun l G2 H2 s2 e2 o2 => stepO kD_ s2 o2 fun h G3 H3 s3 e3 o3 => by
    obtain ⟨d, q1, q2⟩ := out_opt o3
    have r3 := RpB.mono e3 (RpB.mono e2 r1)
    cases x with
    | list ds =>
      cases q1
      obtain ⟨a, xs, rfl, h1, h2⟩ := RpB.list s3.gh r3
      exact .inl ⟨a, xs, rfl, h1, fun p hp => q2 _ _ _ (.new s3.gh hp) (.lst (.of upd_same) ((h2.cut l h).mono (same_new (s3.gh.free hp))))⟩
    | tuple ds =>
      cases q1
      obtain ⟨a, xs, rfl, h1, h2⟩ := RpB.tuple s3.gh r3
      refine .inr ⟨a, xs, rfl, h1, fun z => ?_, fun _ p hp => q2 _ _ _ (.new s3.gh hp) (.tup (.of upd_same) ((h2.cut l h).mono (same_new (s3.gh.free hp))))⟩
      have hw : cutA ds l h = ds := by
        unfold cutA
        rw [h2.length] at z
        rw [z.1, z.2, List.drop_zero, Nat.sub_zero, List.take_length]
      have r3' : Rp X.K G3 (.ref a) (.tuple ds) := r3.elim (fun h => h) fun h => by cases h
      rw [hw] at q2
      exact q2 _ G3 H3 (.refl s3.gh) r3'
    | _ => cases q1
end

/-! ### arguments for built-ins: as they lie -/
def RpBA (K : PySem.W.Frag) (G H : Hp) : List V → List D → Prop := Paired fun v d => RpB K G H v d
def OutB (K : PySem.W.Frag) (mg : MG) (W : WX) (r : R (List D)) (σ : L2.St) (G H : Hp) (Q : List V → Hp → Prop) : Prop := match r with
  | .ok ds => ∀ vs G' H', Ext G H G' H' → RpBA K G' H' vs ds → Q vs H'
  | .exc c => ∀ C G' H', Ext G H G' H' → mg (Str.ofString c) = some C → W C none σ H'
  | .bad => False
def tAB (K : PySem.W.Frag) (mg : MG) (W : WX) (g : En → R (List D)) : TA := fun σ H Q => ∃ B G0 ρ G, SRep K B G0 G H σ ρ ∧ OutB K mg W (g ρ) σ G H Q
def AB (X : Cx) (W : WX) (es : List Expr) (g : En → R (List D)) : Prop := PA X es (tAB X.K X.mg W g)
section
variable {X : Cx} {W : WX} {e : Expr} {es : List Expr} {g : En → R D} {r : En → R (List D)} {pos : Pos}
theorem kB_ {K : PySem.W.Frag} {mg : MG} {σ : L2.St} {Q : List V → Hp → Prop} : Kind mg W σ (List D) fun r G H => OutB K mg W r σ G H Q where
  ext := fun {r G H G' H'} e o => by
    cases r with
    | ok d => exact fun v G2 H2 e2 r2 => o v G2 H2 (e.trans e2) r2
    | exc c => exact fun C G2 H2 e2 => o C G2 H2 (e.trans e2)
    | bad => exact o
  exc := fun o => o
  bad := fun o => o
theorem stepB {α : Type} {Oc : R α → Hp → Hp → Prop} {K : PySem.W.Frag} {mg : MG} {B G0 G H : Hp} {σ : L2.St} {ρ : En} (kd : Kind mg W σ α Oc) {g : En → R (List D)} {k : List D → R α} {P : List V → Hp → Prop} (s : SRep K B G0 G H σ ρ) (o : Oc ((g ρ).bind k) G H)
    (hp : ∀ ds vs G' H', SRep K B G0 G' H' σ ρ → Ext G H G' H' → RpBA K G' H' vs ds → Oc (k ds) G' H' → P vs H') : tAB K mg W g σ H P := by
  refine ⟨B, G0, ρ, G, s, ?_⟩
  revert o
  cases e : g ρ with
  | ok d => exact fun o v G' H' x r => hp d v G' H' (s.ext x) x r (kd.ext x o)
  | exc c => exact fun o C G' H' x hm => kd.exc o C G' H' x hm
  | bad => exact fun o => absurd o kd.bad
theorem ab_nil : AB X W [] aNil := PA.imp pa_nil fun σ H Q ⟨B, G0, ρ, G, s, o⟩ => o [] G H (.refl s.gh) .nil
theorem ab_cons (ha : ED .bo X W e g) (hr : AB X W es r) (hs : starEach (e :: es) X.env = (false, eval e X.env) :: starEach es X.env := by rfl) : AB X W (e :: es) (aCons g r) :=
  PA.imp (pa_cons ha hr hs) fun σ H Q ⟨B, G0, ρ, G, s, o⟩ => stepD (m := .bo) kB_ s o fun d v G1 H1 s1 e1 r1 o1 => stepB kB_ s1 o1 fun ds vs G2 H2 s2 e2 r2 o2 =>
    o2 (v :: vs) G2 H2 (.refl s2.gh) (.cons (RpB.mono e2 r1) r2)
/-- a built-in's rule does f -/
def CalD (m : Md) (K : PySem.W.Frag) (r : List V → Hp → VK → Prop) (f : List D → Option D) : Prop :=
  ∀ ds d vs G H Q, Same G H → RpBA K G H vs ds → f ds = some d → (∀ w G' H', Ext G H G' H' → RpM m K H G' H' w d → Q w H') → r vs H Q
def cal (f : List D → Option D) (r : En → R (List D)) : En → R D := fun ρ => (r ρ).bind fun ds => R.opt (f ds)
variable {m : Md} {x : Str} {p : Pos} {id T : String} {rr : List V → Hp → VK → Prop} {f : List D → Option D}
theorem ed_callB (hc : CallR X (.builtin id) rr) (hf : CalD m X.K rr f) (hm : X.mg x = none) (hv : bootBuiltins x = some (.builtin id)) (ha : AB X W (e :: es) r) (hg : Gl X x := by rfl) (hn : x ≠ "__name__" := by decide) (hdb : (x == ("__debug__" : Str)) = false := by decide)
    (he : starEach (e :: es) X.env = (false, eval e X.env) :: starEach es X.env := by rfl) (hpl : (backTo pos (starEach es X.env)).any (·.1) = false := by rfl) : ED m X W (.Call (.Name x p) (e :: es) [] pos) (cal f r) :=
  PE.imp (pe_callB hc hg hm hv ha hn hdb he hpl) fun σ H Q ⟨B, G0, ρ, G, s, o⟩ => stepB kD_ s o fun ds vs G1 H1 s1 e1 r1 o1 => by
    obtain ⟨d, q1, q2⟩ := out_opt o1
    exact hf ds d vs G1 H1 Q s1.gh r1 q1 q2
theorem ed_callTy (hc : CallR X (.type T) rr) (hf : CalD m X.K rr f) (hm : X.mg x = none) (hv : bootBuiltins x = some (.type T)) (ha : AB X W (e :: es) r) (hg : Gl X x := by rfl) (hn : x ≠ "__name__" := by decide) (hdb : (x == ("__debug__" : Str)) = false := by decide)
    (he : starEach (e :: es) X.env = (false, eval e X.env) :: starEach es X.env := by rfl) (hpl : (backTo pos (starEach es X.env)).any (·.1) = false := by rfl) : ED m X W (.Call (.Name x p) (e :: es) [] pos) (cal f r) :=
  PE.imp (pe_callTy hc hg hm hv ha hn hdb he hpl) fun σ H Q ⟨B, G0, ρ, G, s, o⟩ => stepB kD_ s o fun ds vs G1 H1 s1 e1 r1 o1 => by
    obtain ⟨d, q1, q2⟩ := out_opt o1
    exact hf ds d vs G1 H1 Q s1.gh r1 q1 q2
end
theorem rb1 {K : PySem.W.Frag} {G H : Hp} {vs : List V} {a : D} (r : RpBA K G H vs [a]) : ∃ v, vs = [v] ∧ RpB K G H v a := by
  cases r with
  | cons x y => cases y; exact ⟨_, rfl, x⟩
theorem rb2 {K : PySem.W.Frag} {G H : Hp} {vs : List V} {a b : D} (r : RpBA K G H vs [a, b]) : ∃ v w, vs = [v, w] ∧ RpB K G H v a ∧ RpB K G H w b := by
  cases r with
  | cons x y =>
    cases y with
    | cons z w => cases w; exact ⟨_, _, rfl, x, z⟩
/-! ### len, int, abs, max, min of two -/
section
variable {X : Cx} {K : PySem.W.Frag} {m : Md}
def dLen : List D → Option D
  | [.list ds] => some (.int ds.length)
  | [.tuple ds] => some (.int ds.length)
  | [.dict ds] => some (.int ds.length)
  | [.str x] => if x.length ≤ LIM then some (.int x.length) else none
  | _ => none
def rLen (K : PySem.W.Frag) : List V → Hp → VK → Prop := fun xs H Q => (∃ x n, xs = [x] ∧ LenV K x H n ∧ Q (.int n) H) ∨ ∃ a kvs, xs = [V.ref a] ∧ H a = some (.dK kvs) ∧ Q (.int kvs.length) H
theorem call_lenG : CallR X (.builtin "len") (rLen X.K) := call_len.or call_lenD
theorem cal_len : CalD .sh K (rLen K) dLen := fun ds d vs G H Q gh r e q => by
  unfold dLen at e
  split at e
  · cases e
    obtain ⟨v, rfl, rv⟩ := rb1 r
    obtain ⟨a, xs, rfl, h1, h2⟩ := RpB.list gh rv
    exact .inl ⟨_, _, rfl, .inl ⟨xs, h1, rfl⟩, by rw [h2.length]; exact q _ G H (.refl gh) (.int _)⟩
  · cases e
    obtain ⟨v, rfl, rv⟩ := rb1 r
    obtain ⟨a, xs, rfl, h1, h2⟩ := RpB.tuple gh rv
    exact .inl ⟨_, _, rfl, .inr ⟨xs, h1, rfl⟩, by rw [h2.length]; exact q _ G H (.refl gh) (.int _)⟩
  · cases e
    obtain ⟨v, rfl, rv⟩ := rb1 r
    obtain ⟨a, xs, rfl, h1, h2⟩ := RpB.dict gh rv
    exact .inr ⟨a, xs, rfl, h1, by rw [h2.length]; exact q _ G H (.refl gh) (.int _)⟩
  · split at e
    · rename_i x h
      cases e
      obtain ⟨v, rfl, rv⟩ := rb1 r
      exact .inl ⟨v, _, rfl, by rw [RpB.str rv]; exact ⟨by rw [← lim_eq]; exact h, rfl⟩, q _ G H (.refl gh) (.int _)⟩
    · cases e
  · cases e
def dInt : List D → Option D
  | [.int i] => some (.int i)
  | [.bool b] => some (.int (if b then 1 else 0))
  | _ => none
theorem cal_int : CalD .sh K (fun xs H Q => (∃ i, xs = [.int i] ∧ Q (.int i) H) ∨ ∃ k, xs = [.bl k] ∧ Q (.int (if k then 1 else 0)) H) dInt := fun ds d vs G H Q gh r e q => by
  unfold dInt at e
  split at e
  · cases e
    obtain ⟨v, rfl, rv⟩ := rb1 r
    exact .inl ⟨_, by rw [RpB.int rv], q _ G H (.refl gh) (.int _)⟩
  · cases e
    obtain ⟨v, rfl, rv⟩ := rb1 r
    exact .inr ⟨_, by rw [RpB.bl rv], q _ G H (.refl gh) (.int _)⟩
  · cases e
def dAbs : List D → Option D
  | [.int i] => some (.int (if i < 0 then -i else i))
  | _ => none
theorem cal_abs : CalD .sh K (fun xs H Q => ∃ i, xs = [.int i] ∧ Q (.int (if i < 0 then -i else i)) H) dAbs := fun ds d vs G H Q gh r e q => by
  unfold dAbs at e
  split at e
  · cases e
    obtain ⟨v, rfl, rv⟩ := rb1 r
    exact ⟨_, by rw [RpB.int rv], q _ G H (.refl gh) (.int _)⟩
  · cases e
def dMax2 : List D → Option D
  | [.int i, .int j] => some (.int (if j > i then j else i))
  | _ => none
def dMin2 : List D → Option D
  | [.int i, .int j] => some (.int (if j < i then j else i))
  | _ => none
theorem cal_max2 : CalD .sh K (fun xs H Q => ∃ i j, xs = [.int i, .int j] ∧ Q (.int (if j > i then j else i)) H) dMax2 := fun ds d vs G H Q gh r e q => by
  unfold dMax2 at e
  split at e
  · cases e
    obtain ⟨v, w, rfl, rv, rw'⟩ := rb2 r
    exact ⟨_, _, by rw [RpB.int rv, RpB.int rw'], q _ G H (.refl gh) (.int _)⟩
  · cases e
theorem cal_min2 : CalD .sh K (fun xs H Q => ∃ i j, xs = [.int i, .int j] ∧ Q (.int (if j < i then j else i)) H) dMin2 := fun ds d vs G H Q gh r e q => by
  unfold dMin2 at e
  split at e
  · cases e
    obtain ⟨v, w, rfl, rv, rw'⟩ := rb2 r
    exact ⟨_, _, by rw [RpB.int rv, RpB.int rw'], q _ G H (.refl gh) (.int _)⟩
  · cases e
end
end DL

namespace DL
open PySem PySem.Spec PyProof.Rows L2

/-! ### a def and its promise -/
def spD (K : PySem.W.Frag) (mg : MG) (n : Nat) (fn : List D → R D) : Sp := fun vs H Q E => vs.length = n ∧ ∃ ds G, Same G H ∧ RpA K G vs ds ∧ match fn ds with
  | .ok d => ∀ v G' H', Ext G H G' H' → Rp K G' v d → Q v H'
  | .exc c => ∀ C G' H', Ext G H G' H' → mg (Str.ofString c) = some C → E C none H'
  | .bad => False
/-- the outcome of a def's body at its arguments; n: how many slots -/
def soR : SO → R D
  | .rt d => .ok d
  | .nx _ => .ok .none
  | .exc c => .exc c
  | _ => .bad
def env0 (n : Nat) (ds : List D) : En := ds.map (fun d => some (SV.sh d)) ++ List.replicate (n - ds.length) none
def runD (n : Nat) (g : En → SO) (ds : List D) : R D := soR (g (env0 n ds))
theorem srep_start {K : PySem.W.Frag} {G H : Hp} {N : List Str} {vs : List V} {ds : List D} (gh : Same G H) (r : RpA K G vs ds) : SRep K H G G H (L2.start N vs) (env0 N.length ds) where
  gh := gh
  bh := .refl _
  g0 := .refl _
  gb := fun _ _ h => h
  len := by simp [L2.start, env0, r.length]
  sl := fun i s h => by
    unfold env0 at h
    by_cases hi : i < ds.length
    · rw [List.getElem?_append_left (by simpa using hi), List.getElem?_map] at h
      obtain ⟨d, e1, e2⟩ := Option.map_eq_some_iff.mp h
      cases e2
      obtain ⟨v, h1, h2⟩ := r.getD e1
      refine ⟨v, ?_, h2⟩
      unfold L2.start
      rw [List.getElem?_append_left (by simp [r.length, hi]), List.getElem?_map, h1]; rfl
    · rw [List.getElem?_append_right (by simpa using hi), List.getElem?_replicate] at h
      split at h
      · cases h
      · cases h
  ap := fun i j v d e h => by
    unfold env0 at h
    by_cases hi : i < ds.length
    · rw [List.getElem?_append_left (by simpa using hi), List.getElem?_map] at h
      obtain ⟨d, e1, e2⟩ := Option.map_eq_some_iff.mp h
      cases e2
    · rw [List.getElem?_append_right (by simpa using hi), List.getElem?_replicate] at h
      split at h
      · cases h
      · cases h
theorem Fin.ext {G H G' H' : Hp} (f : Fin H G G' H') : Ext G H G' H' := ⟨f.g0, f.bh, f.gh, f.gb⟩
abbrev WB (E : XK) : WX := fun cls d _ H => E cls d H
section
variable {P : Program} {w : World} {K : PySem.W.Frag} {mg : MG} {base : Heap}
/-- THE RULE for a def -/
theorem def_ok {x qual : Str} {st : Stmt} {f : Addr} {fd : FuncData} {N ps : List Str} {k : Nat} {g : En → SO} (F : Fun K x qual st f fd) (S : FnScope N ps (defScope st))
    (hbody : ∀ (cdv : Value) (A : Around) (outer : List Env) (s : Shared) (H : Hp) (E : XK), Room k (A.deeper (envOfC qual (defScope st) s.heap.objs.size f cdv)) →
      BD (cxOf (L2N.CX P w) P w K mg base N qual (defScope st) f cdv A outer s H E) (WB E) (defBody st) g) : FnOk P w K mg base (L2N.CX P w) (k + 1) f fd ps (spD K mg ps.length (runD N.length g)) := by
  obtain ⟨oc, od, kV, doc, pm, an, cdv, ct, osl, rfl, lk, hcd⟩ := F.ex
  refine fn_of lk hcd S (fun vs H Q E h => h.1) fun A outer s H vs Q E hr hsp => ⟨_, hbody cdv A outer s H E hr, ?_⟩
  obtain ⟨_, ds, G, gh, r, o⟩ := hsp
  refine ⟨H, G, _, G, srep_start gh r, ?_⟩
  revert o
  unfold runD
  cases g (env0 N.length ds) with
  | nx ρ => exact fun o σ G' H' s' => o _ G' H' s'.fin.ext .non
  | rt d => exact fun o G' H' v f r => o v G' H' f.ext r
  | br ρ => exact fun o => o.elim
  | ct ρ => exact fun o => o.elim
  | exc c => exact fun o σ G' H' C f hm => o C G' H' f.ext hm
  | bad => exact fun o => o
/-- a def that keeps the promise fn, and is to be had by its name -/
structure DF (P : Program) (w : World) (K : PySem.W.Frag) (mg : MG) (base : Heap) (k : Nat) (x : Str) (n : Nat) (fn : List D → R D) : Prop where
  ex : ∃ (f : Addr) (fd : FuncData) (ps : List Str), mg x = some (.ref f) ∧ PySem.W.keepIn K (.ref f) = true ∧ Binds K fd ps [] ∧ FnOk P w K mg base (L2N.CX P w) k f fd ps (spD K mg n fn)
theorem DF.mono {j k : Nat} {x : Str} {n : Nat} {fn : List D → R D} (h : DF P w K mg base j x n fn) (e : j ≤ k) : DF P w K mg base k x n fn := by
  obtain ⟨f, fd, ps, h1, h2, h3, h4⟩ := h
  exact ⟨f, fd, ps, h1, h2, h3, h4.mono e⟩
/-- where the top left a def -/
structure Here (K : PySem.W.Frag) (mg : MG) (x qual : Str) (st : Stmt) (ps : List Str) : Prop where
  ex : ∃ (f : Addr) (fd : FuncData), mg x = some (.ref f) ∧ Fun K x qual st f fd ∧ Binds K fd ps []
theorem Here.df {x qual : Str} {st : Stmt} {N ps : List Str} {k : Nat} {g : En → SO} (h : Here K mg x qual st ps) (S : FnScope N ps (defScope st))
    (hbody : ∀ (f : Addr) (cdv : Value) (A : Around) (outer : List Env) (s : Shared) (H : Hp) (E : XK), Room k (A.deeper (envOfC qual (defScope st) s.heap.objs.size f cdv)) →
      BD (cxOf (L2N.CX P w) P w K mg base N qual (defScope st) f cdv A outer s H E) (WB E) (defBody st) g) : DF P w K mg base (k + 1) x ps.length (runD N.length g) := by
  obtain ⟨f, fd, h1, F, b⟩ := h
  exact ⟨f, fd, ps, h1, F.kp, b, def_ok F S (hbody f)⟩
end
/-- a def's own wish of exceptions -/
theorem tk_of {P : Program} {w : World} {K : PySem.W.Frag} {mg : MG} {base : Heap} {N : List Str} {qual : Str} {scope : Scope} {f : Addr} {cd : Value} {A : Around} {outer : List Env} {s : Shared} {H : Hp} {E : XK} :
    L2N.Takes (cxOf (L2N.CX P w) P w K mg base N qual scope f cd A outer s H E) (WB E) := L2N.takes_of rfl rfl rfl rfl
theorem hp_of {P : Program} {w : World} {K : PySem.W.Frag} {mg : MG} {base : Heap} {N : List Str} {qual : Str} {scope : Scope} {f : Addr} {cd : Value} {A : Around} {outer : List Env} {s : Shared} {H : Hp} {E : XK} :
    PassesOwn (model P w) (cxOf (L2N.CX P w) P w K mg base N qual scope f cd A outer s H E).A (cxOf (L2N.CX P w) P w K mg base N qual scope f cd A outer s H E).env (cxOf (L2N.CX P w) P w K mg base N qual scope f cd A outer s H E).xe :=
  passes_of (X := cxOf (L2N.CX P w) P w K mg base N qual scope f cd A outer s H E) rfl
theorem tk_never {X : Cx} : L2N.Takes X never := fun _ _ x => by
  obtain ⟨_, _, _, _, _, _, _, _, _, _, _, _, _, _, _, _, z⟩ := x
  exact z.elim
def callD (n : Nat) (fn : List D → R D) (ds : List D) : R D := if ds.length = n then fn ds else .bad
section
variable {X : Cx} {W : WX} {e : Expr} {es : List Expr} {r : En → R (List D)} {pos p : Pos} {x : Str} {k n : Nat} {fn : List D → R D}
theorem ed_call (F : DF X.prog X.w X.K X.mg X.base k x n fn) (hr : Room k X.A) (tk : L2N.Takes X W) (ha : AD X W (e :: es) r) (hg : Gl X x := by rfl)
    (hdb : (x == ("__debug__" : Str)) = false := by decide) (he : starEach (e :: es) X.env = (false, eval e X.env) :: starEach es X.env := by rfl) (hpl : (backTo pos (starEach es X.env)).any (·.1) = false := by rfl) :
    ED .sh X W (.Call (.Name x p) (e :: es) [] pos) (fun ρ => (r ρ).bind (callD n fn)) := by
  obtain ⟨f, fd, ps, hm, hk, hb, F⟩ := F.ex
  refine PE.imp (pe_callS F hr hg hm hk hb (L2N.passAt tk) ha hdb he hpl) fun σ H Q ⟨B, G0, ρ, G, s, o⟩ => stepA kD_ s o fun ds vs G1 H1 s1 e1 r1 o1 => ?_
  unfold callD at o1
  by_cases hl : ds.length = n
  · rw [if_pos hl] at o1
    refine ⟨by rw [r1.length]; exact hl, ds, G1, s1.gh, r1, ?_⟩
    revert o1
    cases fn ds with
    | ok d => exact fun o v G' H' x r => o v G' H' x r
    | exc c => exact fun o C G' H' x hm => o C G' H' x hm
    | bad => exact fun o => o
  · rw [if_neg hl] at o1; exact o1.elim
end

/-! ### isinstance -/
def tyN : D → String
  | .none => "NoneType"
  | .bool _ => "bool"
  | .int _ => "int"
  | .str _ => "str"
  | .list _ => "list"
  | .tuple _ => "tuple"
  | .dict _ => "dict"
/-- T's answers, by the type's name -/
def isT (T : String) (n : String) : Bool := (kitB n T).getD false
def IsiOk (T : String) : Prop := ∀ d : D, kitB (tyN d) T = some (isT T (tyN d))
theorem isi_of {T : String} (h : (["NoneType", "bool", "int", "str", "list", "tuple", "dict"].all fun n => (kitB n T).isSome) = true) : IsiOk T := fun d => by
  have hh := List.all_eq_true.mp h (tyN d) (by cases d <;> simp [tyN])
  obtain ⟨b, hb⟩ := Option.isSome_iff_exists.mp hh
  unfold isT
  rw [hb]; rfl
theorem rpB_ty {K : PySem.W.Frag} {G H : Hp} {v : V} {d : D} (gh : Same G H) (r : RpB K G H v d) : TyX K H v (.type (tyN d)) := by
  have hl : ∀ {a : Addr} {xs : List V}, SqL K H a xs → TyX K H (.ref a) (.type "list") := fun h => by
    rcases h with (h | ⟨o, h⟩) | ⟨o, its, n, h1, h2, _⟩
    · exact .base (.lst h)
    · exact .base (.frz h)
    · exact .kList h1 h2
  have ht : ∀ {a : Addr} {xs : List V}, SqT K H a xs → TyX K H (.ref a) (.type "tuple") := fun h => by
    rcases h with (h | ⟨o, h⟩) | ⟨o, its, n, h1, h2, _⟩
    · exact .base (.tup h)
    · exact .fTuple h
    · exact .kTuple h1 h2
  rcases r with r | r
  · cases r with
    | non => exact .base .non
    | bl b => exact .base (.bl b)
    | int i => exact .base (.int i)
    | str x => exact .base (.str x)
    | lst h a => exact hl (gh.seq h)
    | tup h a => exact ht (Same.sqt gh h)
    | dct h a => exact .base (.dK (gh _ _ h))
  · cases r with
    | lst h a => exact .base (.lst h)
    | dct h a => exact .base (.dK h)
section
variable {X : Cx} {W : WX} {e : Expr} {g : En → R D} {pos p p2 : Pos} {x : Str} {T : String}
theorem ed_isi (h : IsiOk T) (hm : X.mg "isinstance" = none) (hm2 : X.mg x = none) (hv : bootBuiltins x = some (.type T)) (he : ED .bo X W e g) (hg : Gl X "isinstance" := by rfl) (hg2 : Gl X x := by rfl) (hn : x ≠ "__name__" := by decide) (hdb : (x == ("__debug__" : Str)) = false := by decide)
    (h1 : starEach [e, .Name x p2] X.env = (false, eval e X.env) :: starEach [.Name x p2] X.env := by rfl) (h2 : starEach [.Name x p2] X.env = (false, eval (.Name x p2) X.env) :: starEach [] X.env := by rfl) (hpl : (backTo pos (starEach [.Name x p2] X.env)).any (·.1) = false := by rfl) :
    ED .sh X W (.Call (.Name "isinstance" p) [e, .Name x p2] [] pos) (fun ρ => (g ρ).bind fun d => .ok (.bool (isT T (tyN d)))) :=
  PE.imp (pe_callB call_isi hg hm boot_isinstance (pa_cons he (pa_cons (pe_bltn (v := .ty T) hg2 hm2 hv rfl hn hdb) pa_nil h2) h1) (by decide) (by decide) h1 hpl) fun σ H Q ⟨B, G0, ρ, G, s, o⟩ => stepD (m := .bo) kD_ s o fun d v G1 H1 s1 e1 r1 o1 =>
    ⟨v, .ty T, .type (tyN d), .type T, isT T (tyN d), rfl, .ty T, rpB_ty s1.gh r1, kit_ty (h d), o1 _ G1 H1 (.refl s1.gh) (.bl _)⟩
end
theorem isi_bool : IsiOk "bool" := isi_of (by decide +kernel)
theorem isi_int : IsiOk "int" := isi_of (by decide +kernel)
theorem isi_str : IsiOk "str" := isi_of (by decide +kernel)
theorem isi_list : IsiOk "list" := isi_of (by decide +kernel)
theorem isi_tuple : IsiOk "tuple" := isi_of (by decide +kernel)

/-! ### methods that change a slot's own container; d.get -/
/-- the side conditions of a method's call -/
structure MC (X : Cx) (o : Expr) (name : Str) (apos : Pos) (es : List Expr) (cpos : Pos) : Prop where
  base : attributeBase o name X.env (eval o X.env) = eval o X.env
  few : (((backTo cpos (starEach es X.env)).all fun x => !x.1) && ((backToKw cpos (keywordEach [] X.env)).all fun x => x.1.isSome) && decide (es.length + ([] : List Keyword).length + (if ([] : List Keyword).isEmpty = true then 0 else 1) < 30)) = true
  line : (apos.endLine == cpos.line) = true
section
variable {X : Cx} {W : WX} {o a e f : Expr} {es : List Expr} {ga g gf : En → R D} {r : En → R (List D)} {pos p p2 p3 : Pos} {k i : Nat} {x : Str}
def own? (i : Nat) (ρ : En) : Option D := match ρ[i]? with
  | some (some (.ow d)) => some d
  | _ => none
theorem own?_eq {ρ : En} {d : D} (h : own? i ρ = some d) : ρ[i]? = some (some (.ow d)) := by
  unfold own? at h
  split at h
  · rename_i d' e; cases h; exact e
  · cases h
theorem own_at {K : PySem.W.Frag} {B G0 G H : Hp} {σ : L2.St} {ρ : En} {d : D} (s : SRep K B G0 G H σ ρ) (h : ρ[i]? = some (some (.ow d))) :
    ∃ a, σ[i]? = some (some (.ref a)) ∧ OwC K G H (.ref a) d ∧ G a = none ∧ B a = none := by
  obtain ⟨v, h1, ⟨hc, a, h2, h3, h4⟩⟩ := s.sl i _ h
  subst h2
  exact ⟨a, h1, hc, h3, h4⟩
/-- x.append(e), x the slot's own list -/
def sApp (i : Nat) (ge : En → R D) : En → SO := fun ρ => match own? i ρ with
  | some (.list ds) => ((ge ρ).bind fun d => if ds.length < LIM then .ok (.nx (ρ.set i (some (.ow (.list (ds ++ [d])))))) else .bad).so
  | _ => .bad
theorem sd_append (hv : PE X (.Name x p) (tVar i)) (he : ED .sh X W e g) (m : MC X (.Name x p) "append" p2 [e] p3)
    (hs : starEach [e] X.env = (false, eval e X.env) :: starEach [] X.env := by rfl) (hpl : (backTo p3 (starEach [] X.env)).any (·.1) = false := by rfl)
    (hsw : swapsWith (.Call (.Attribute (.Name x p) "append" p2) [e] [] p3) none pos.line X.env = pure false := by rfl) :
    SD X W (.Expr (.Call (.Attribute (.Name x p) "append" p2) [e] [] p3) pos) (sApp i g) :=
  PS.imp (ps_expr (pe_bm PySem.F.plainAttrs_list PySem.F.slot_list_append PySem.F.type_list_append mt_append hv (pa_cons he pa_nil hs) m.base m.few m.line hs hpl) hsw) fun D σ H ⟨B, G0, ρ, G, s, o⟩ => by
    revert o
    unfold sApp
    cases ei : own? i ρ with
    | none => exact fun o => o.elim
    | some d0 =>
      cases d0 with
      | list ds =>
        intro o
        obtain ⟨a, h1, hc, h3, h4⟩ := own_at s (own?_eq ei)
        cases hc with
        | @lst _ xs _ h2 h5 =>
        refine ⟨.ref a, h1, .inl ⟨rfl, _, .inl (.inl h2)⟩, ?_⟩
        refine stepD (m := .sh) (kS_ (ρ := ρ) (B := B) (G0 := G0)) s ⟨s, o⟩ fun d v G1 H1 s1 e1 r1 o1 => ?_
        by_cases hl : ds.length < LIM
        · rw [if_pos hl] at o1
          have hx := e1.h _ _ h2
          refine ⟨a, xs, v, rfl, rfl, hx, by rw [h5.length, ← lim_eq]; exact hl, o1.2 σ G1 _ (s1.change (own?_eq ei) h1 (.lst upd_same ((h5.mono e1.g).append (.cons r1 .nil))))⟩
        · rw [if_neg hl] at o1; exact o1.2.elim
      | _ => exact fun o => o.elim
/-- x.extend(e), e a new list -/
def sExt (i : Nat) (ge : En → R D) : En → SO := fun ρ => match own? i ρ with
  | some (.list ds) => ((ge ρ).bind fun d => match d with
    | .list es => if ds.length + es.length ≤ LIM then .ok (.nx (ρ.set i (some (.ow (.list (ds ++ es)))))) else .bad
    | _ => .bad).so
  | _ => .bad
theorem sd_extend (hv : PE X (.Name x p) (tVar i)) (he : ED .fr X W e g) (m : MC X (.Name x p) "extend" p2 [e] p3)
    (hs : starEach [e] X.env = (false, eval e X.env) :: starEach [] X.env := by rfl) (hpl : (backTo p3 (starEach [] X.env)).any (·.1) = false := by rfl)
    (hsw : swapsWith (.Call (.Attribute (.Name x p) "extend" p2) [e] [] p3) none pos.line X.env = pure false := by rfl) :
    SD X W (.Expr (.Call (.Attribute (.Name x p) "extend" p2) [e] [] p3) pos) (sExt i g) :=
  PS.imp (ps_expr (pe_bm PySem.F.plainAttrs_list PySem.F.slot_list_extend PySem.F.type_list_extend mt_extend hv (pa_cons he pa_nil hs) m.base m.few m.line hs hpl) hsw) fun D σ H ⟨B, G0, ρ, G, s, o⟩ => by
    revert o
    unfold sExt
    cases ei : own? i ρ with
    | none => exact fun o => o.elim
    | some d0 =>
      cases d0 with
      | list ds =>
        intro o
        obtain ⟨a, h1, hc, h3, h4⟩ := own_at s (own?_eq ei)
        cases hc with
        | @lst _ xs _ h2 h5 =>
        refine ⟨.ref a, h1, .inl ⟨rfl, _, .inl (.inl h2)⟩, ?_⟩
        refine stepD (m := .fr) (kS_ (ρ := ρ) (B := B) (G0 := G0)) s ⟨s, o⟩ fun d v G1 H1 s1 e1 r1 o1 => ?_
        cases d with
        | list es =>
          obtain ⟨c, b, eb, hb0, hg0⟩ := r1
          subst eb
          cases c with
          | @lst _ ys _ q1 q2 =>
          have o2 : OutS X.K X.mg W B G0 (R.so (if ds.length + es.length ≤ LIM then .ok (.nx (ρ.set i (some (.ow (.list (ds ++ es)))))) else .bad)) D := o1.2
          by_cases hl : ds.length + es.length ≤ LIM
          · rw [if_pos hl] at o2
            have hx := e1.h _ _ h2
            exact ⟨a, b, xs, ys, rfl, rfl, hx, q1, by rw [h5.length, q2.length, ← lim_eq]; exact hl, o2 σ G1 _ (s1.change (own?_eq ei) h1 (.lst upd_same ((h5.mono e1.g).append q2)))⟩
          · rw [if_neg hl] at o2; exact o2.elim
        | _ => exact o1.2.elim
      | _ => exact fun o => o.elim
/-- x[k] = v, x the slot's own list | dict -/
def sPutL (i : Nat) (gk gv : En → R D) : En → SO := fun ρ => match own? i ρ with
  | some (.list ds) => ((gv ρ).bind fun v => (gk ρ).bind fun k => match k with
    | .int j => match ixN ds.length j with
      | some n => .ok (.nx (ρ.set i (some (.ow (.list (ds.set n v))))))
      | none => .bad
    | _ => .bad).so
  | _ => .bad
theorem sd_putL {ik : Expr} {gk : En → R D} {sp : Pos} (hv : PE X (.Name x p) (tVar i)) (hk : ED .bo X W ik gk) (he : ED .sh X W e g)
    (ha : ∀ v, assign (.Subscript (.Name x p) ik sp) X.env v = (do
      let ov ← holding [v] (eval (.Name x p) X.env)
      let iv ← holding [v, ov] (eval ik X.env)
      standAt sp
      holding [v, ov, iv] (setItem ov iv v)
      release [v, ov, iv] []) := by intro _; rfl)
    (hs : swapsWithSole [.Subscript (.Name x p) ik sp] e pos.line X.env = pure false := by rfl) (hw : swappedStores [.Subscript (.Name x p) ik sp] e X.env = pure none := by rfl)
    (h1 : (assignEach [.Subscript (.Name x p) ik sp] X.env).map (·.2) = [assign (.Subscript (.Name x p) ik sp) X.env] := by rfl) :
    SD X W (.Assign [.Subscript (.Name x p) ik sp] e pos) (sPutL i gk g) :=
  PS.imp (ps_asg he (pg_sub hv hk set_list ha) hs hw h1) fun D σ H ⟨B, G0, ρ, G, s, o⟩ => by
    revert o
    unfold sPutL
    cases ei : own? i ρ with
    | none => exact fun o => o.elim
    | some d0 =>
      cases d0 with
      | list ds =>
        intro o
        obtain ⟨a, h1, hc, h3, h4⟩ := own_at s (own?_eq ei)
        cases hc with
        | @lst _ xs _ h2 h5 =>
        refine stepD (m := .sh) (kS_ (ρ := ρ) (B := B) (G0 := G0)) s ⟨s, o⟩ fun v w G1 H1 s1 e1 r1 o1 => ⟨.ref a, h1, ?_⟩
        refine stepD (m := .bo) (kS_ (ρ := ρ) (B := B) (G0 := G0)) s1 o1 fun kk u G2 H2 s2 e2 r2 o2 => ?_
        cases kk with
        | int j =>
          have hx := (e1.trans e2).h _ _ h2
          have o3 : OutS X.K X.mg W B G0 (R.so (match ixN ds.length j with | some n => .ok (.nx (ρ.set i (some (.ow (.list (ds.set n v)))))) | none => .bad)) D := o2.2
          cases ej : ixN ds.length j with
          | none => rw [ej] at o3; exact o3.elim
          | some n =>
            rw [ej] at o3
            refine ⟨a, xs, j, n, rfl, RpB.int r2, hx, by rw [h5.length]; exact ej, o3 σ G2 _ (s2.change (own?_eq ei) h1 (.lst upd_same (((h5.mono e1.g).mono e2.g).set (Rp.mono e2.g r1))))⟩
        | _ => exact o2.2.elim
      | _ => exact fun o => o.elim
def sPutD (i : Nat) (gk gv : En → R D) : En → SO := fun ρ => match own? i ρ with
  | some (.dict kvs) => ((gv ρ).bind fun v => (gk ρ).bind fun k => match toK k with
    | some _ => if kvs.length < LIM then .ok (.nx (ρ.set i (some (.ow (.dict (dPut kvs k v)))))) else .bad
    | none => .bad).so
  | _ => .bad
theorem sd_putD {ik : Expr} {gk : En → R D} {sp : Pos} (hr : Room k X.A) (hv : PE X (.Name x p) (tVar i)) (hk : ED .bo X W ik gk) (he : ED .sh X W e g)
    (hs : swapsWith e (some (.Subscript (.Name x p) ik sp)) pos.line X.env = pure false := by rfl) :
    SD X W (.Assign [.Subscript (.Name x p) ik sp] e pos) (sPutD i gk g) :=
  PS.imp (ps_dput (hu_of hr) hv hk he hs) fun D σ H ⟨B, G0, ρ, G, s, o⟩ => by
    revert o
    unfold sPutD
    cases ei : own? i ρ with
    | none => exact fun o => o.elim
    | some d0 =>
      cases d0 with
      | dict ds =>
        intro o
        obtain ⟨a, h1, hc, h3, h4⟩ := own_at s (own?_eq ei)
        cases hc with
        | @dct _ xs _ h2 h5 =>
        refine stepD (m := .sh) (kS_ (ρ := ρ) (B := B) (G0 := G0)) s ⟨s, o⟩ fun v w G1 H1 s1 e1 r1 o1 => ⟨.ref a, h1, ?_⟩
        refine stepD (m := .bo) (kS_ (ρ := ρ) (B := B) (G0 := G0)) s1 o1 fun kk u G2 H2 s2 e2 r2 o2 => ?_
        have hx := (e1.trans e2).h _ _ h2
        have o3 : OutS X.K X.mg W B G0 (R.so (match toK kk with | some _ => if ds.length < LIM then .ok (.nx (ρ.set i (some (.ow (.dict (dPut ds kk v)))))) else .bad | none => .bad)) D := o2.2
        cases ek : toK kk with
        | none => rw [ek] at o3; exact o3.elim
        | some ky =>
          rw [ek] at o3
          have o4 : OutS X.K X.mg W B G0 (R.so (if ds.length < LIM then .ok (.nx (ρ.set i (some (.ow (.dict (dPut ds kk v)))))) else .bad)) D := o3
          by_cases hl : ds.length < LIM
          · rw [if_pos hl] at o4
            refine ⟨a, _, rfl, by rw [rpB_key r2 ek]; exact DPut.k hx (by rw [h5.length, ← lim_eq]; exact hl), o4 σ G2 _ (s2.change (own?_eq ei) h1 (.dct upd_same ?_))⟩
            have := ((h5.mono e1.g).mono e2.g).put (k := ky) (Rp.mono e2.g r1)
            rw [← of_toK ek] at this
            exact this
          · rw [if_neg hl] at o4; exact o4.elim
      | _ => exact fun o => o.elim
/-- d.get(e, f) -/
def dGet (d k z : D) : Option D := match d with
  | .dict kvs => match toK k with
    | some _ => some ((dLook kvs k).getD z)
    | none => none
  | _ => none
def get3 (ga gk gf : En → R D) : En → R D := fun ρ => (ga ρ).bind fun d => match d with
  | .dict kvs => (gk ρ).bind fun k => (gf ρ).bind fun z => R.opt (dGet (.dict kvs) k z)
  | _ => .bad
theorem ed_get (hr : Room k X.A) (ha : ED .bo X W a ga) (he : ED .bo X W e g) (hf : ED .sh X W f gf) (m : M2 X a "get" p2 e f p3) : ED .sh X W (.Call (.Attribute a "get" p2) [e, f] [] p3) (get3 ga g gf) :=
  PE.imp (pe_dget2 (hu_of hr) ha he hf m) fun σ H Q ⟨B, G0, ρ, G, s, o⟩ => stepD (m := .bo) kD_ s o fun d v G1 H1 s1 e1 r1 o1 => by
    cases d with
    | dict kvs =>
      obtain ⟨b, kv, rfl, h1, h2⟩ := RpB.dict s1.gh r1
      refine ⟨b, rfl, .inl ⟨kv, .inl h1⟩, stepD (m := .bo) kD_ s1 o1 fun kk u G2 H2 s2 e2 r2 o2 => stepD (m := .sh) kD_ s2 o2 fun z y G3 H3 s3 e3 r3 o3 => ?_⟩
      obtain ⟨d, q1, q2⟩ := out_opt o3
      have q1' : (match toK kk with | some _ => some ((dLook kvs kk).getD z) | none => none) = some d := q1
      cases ek : toK kk with
      | none => rw [ek] at q1'; cases q1'
      | some ky =>
        rw [ek] at q1'
        have q3 : (dLook kvs kk).getD z = d := Option.some.inj q1'
        have h3 := (e2.trans e3).h _ _ h1
        have h4 := (h2.mono e2.g).mono e3.g
        refine ⟨valV kv ky, by rw [rpB_key r2 ek]; exact DGet.k h3, ?_⟩
        rw [of_toK ek] at q3
        cases el : dLook kvs (kD ky) with
        | none =>
          rw [h4.look_none el]
          rw [el] at q3
          exact q2 y G3 H3 (.refl s3.gh) (by rw [← q3]; exact r3)
        | some d' =>
          obtain ⟨w, w1, w2⟩ := h4.look_of el
          rw [w1]
          rw [el] at q3
          exact q2 w G3 H3 (.refl s3.gh) (by rw [← q3]; exact w2)
    | _ => exact o1.elim
/-- l.index(x) -/
def idxOf : List D → D → Option Nat
  | [], _ => none
  | z :: zs, d => if PyData.eqv z d = true then some 0 else (idxOf zs d).map (· + 1)
theorem idxOf_spec : ∀ {ds : List D} {d : D} {j : Nat}, idxOf ds d = some j → (∃ z, ds[j]? = some z ∧ PyData.eqv z d = true) ∧ ∀ (m : Nat) (z' : D), m < j → ds[m]? = some z' → PyData.eqv z' d = false
  | [], _, _, h => by cases h
  | z :: zs, d, j, h => by
    unfold idxOf at h
    by_cases e : PyData.eqv z d = true
    · rw [if_pos e] at h
      cases h
      exact ⟨⟨z, rfl, e⟩, fun m z' hm => absurd hm (Nat.not_lt_zero m)⟩
    · rw [if_neg e] at h
      obtain ⟨j', h1, h2⟩ := Option.map_eq_some_iff.mp h
      subst h2
      obtain ⟨⟨y, y1, y2⟩, h3⟩ := idxOf_spec h1
      refine ⟨⟨y, by simpa using y1, y2⟩, fun m z' hm hz => ?_⟩
      cases m with
      | zero =>
        simp at hz; subst hz
        simpa using e
      | succ m => exact h3 m z' (by omega) (by simpa using hz)
def dIndex : D → D → Option D
  | .list ds, d => if SeqAt.shaped (.list ds) = true ∧ SeqAt.shaped d = true then (idxOf ds d).map (fun (j : Nat) => PyData.int (j : Int)) else none
  | _, _ => none
def idx2 (ga gk : En → R D) : En → R D := fun ρ => (ga ρ).bind fun d => match d with
  | .list ds => (gk ρ).bind fun k => R.opt (dIndex (.list ds) k)
  | _ => .bad
theorem ed_index (hr : Room k X.A) (ha : ED .bo X W a ga) (he : ED .bo X W e g) (m : MC X a "index" p2 [e] p3)
    (hs : starEach [e] X.env = (false, eval e X.env) :: starEach [] X.env := by rfl) (hpl : (backTo p3 (starEach [] X.env)).any (·.1) = false := by rfl) : ED .sh X W (.Call (.Attribute a "index" p2) [e] [] p3) (idx2 ga g) :=
  PE.imp (pe_bm PySem.F.plainAttrs_list PySem.F.slot_list_index PySem.F.type_list_index (mt_indexD (by have := hr.un; omega)) ha (pa_cons he pa_nil hs) m.base m.few m.line hs hpl) fun σ H Q ⟨B, G0, ρ, G, s, o⟩ => stepD (m := .bo) kD_ s o fun d v G1 H1 s1 e1 r1 o1 => by
    cases d with
    | list ds =>
      obtain ⟨b, xs, rfl, h1, h2⟩ := RpB.list s1.gh r1
      have ty : tyV X.K "list" (.ref b) H1 := .inl ⟨rfl, xs, h1⟩
      refine ⟨ty, stepD (m := .bo) kD_ s1 o1 fun kk u G2 H2 s2 e2 r2 o2 => ?_⟩
      obtain ⟨d, q1, q2⟩ := out_opt o2
      have q1 : (if SeqAt.shaped (.list ds) = true ∧ SeqAt.shaped kk = true then (idxOf ds kk).map (fun (j : Nat) => PyData.int (j : Int)) else none) = some d := q1
      by_cases hc : SeqAt.shaped (.list ds) = true ∧ SeqAt.shaped kk = true
      · rw [if_pos hc] at q1
        obtain ⟨j, e3, e4⟩ := Option.map_eq_some_iff.mp q1
        obtain ⟨⟨z, z1, z2⟩, z3⟩ := idxOf_spec e3
        subst e4
        exact ⟨b, u, kk, ds, j, z, rfl, rfl, RpB.dp s2.gh (RpB.mono e2 r1) (SeqAt.canLay_of_shaped hc.1), RpB.dp s2.gh r2 (SeqAt.canLay_of_shaped hc.2), hc.1, hc.2, z1, z2, z3, q2 _ G2 H2 (.refl s2.gh) (.int _)⟩
      · rw [if_neg hc] at q1; cases q1
    | _ => exact o1.elim
end
/-! ### dict displays -/
/-- {k: v, ..} -/
def pNil : En → R (List (D × D)) := fun _ => .ok []
def pCons (gk gv : En → R D) (r : En → R (List (D × D))) : En → R (List (D × D)) := fun ρ => (gk ρ).bind fun k => match toK k with
  | some _ => (gv ρ).bind fun v => (r ρ).bind fun ps => .ok ((k, v) :: ps)
  | none => .bad
inductive PPD (X : Cx) (W : WX) (pos : Pos) : List (Option Expr) → List Expr → List (TE × TE) → (En → R (List (D × D))) → Prop
  | nil : PPD X W pos [] [] [] pNil
  | cons {k v : Expr} {ks : List (Option Expr)} {vs : List Expr} {trs : List (TE × TE)} {gk gv : En → R D} {r : En → R (List (D × D))} : ED .sh X W k gk → ED .sh X W v gv → PPD X W pos ks vs trs r →
    PPD X W pos (some k :: ks) (v :: vs) ((tD .sh X.K X.mg W gk, tD .sh X.K X.mg W gv) :: trs) (pCons gk gv r)
def mergeD (kvs more : List (D × D)) : List (D × D) := more.foldl (fun acc kv => dPut acc kv.1 kv.2) kvs
def mkD (r : En → R (List (D × D))) : En → R D := fun ρ => (r ρ).bind fun ps => if ps.length ≤ 15 then .ok (.dict (mergeD [] ps)) else .bad
section
variable {X : Cx} {W : WX} {pos : Pos} {ks : List (Option Expr)} {vs : List Expr} {trs : List (TE × TE)} {r : En → R (List (D × D))}
theorem PPD.pps (h : PPD X W pos ks vs trs r) : PPs X pos ks vs trs := by
  induction h with
  | nil => exact pps_nil
  | cons h1 h2 _ ih => exact pps_cons h1 h2 ih
/-- pairs of values -/
inductive RpP (K : PySem.W.Frag) (G : Hp) : List (V × V) → List (D × D) → Prop
  | nil : RpP K G [] []
  | cons {k v : V} {ps : List (V × V)} {dk dv : D} {ds : List (D × D)} : Rp K G k dk → Rp K G v dv → (toK dk).isSome = true → RpP K G ps ds → RpP K G ((k, v) :: ps) ((dk, dv) :: ds)
theorem RpP.keys {K : PySem.W.Frag} {G : Hp} {ps : List (V × V)} {ds : List (D × D)} (h : RpP K G ps ds) : ∃ kvs : List (Key × V), ps = kvs.map (fun kv => (kV kv.1, kv.2)) ∧ RpK K G kvs ds := by
  induction h with
  | nil => exact ⟨[], rfl, .nil⟩
  | @cons k v ps dk dv ds h1 h2 h3 _ ih =>
    obtain ⟨kvs, e1, e2⟩ := ih
    obtain ⟨ky, hk⟩ := Option.isSome_iff_exists.mp h3
    refine ⟨(ky, v) :: kvs, ?_, ?_⟩
    · rw [List.map_cons, ← e1, rpB_key (.inl h1) hk (H := G)]
    · rw [of_toK hk]; exact .cons h2 e2
theorem tPairs_D {mg : MG} {K : PySem.W.Frag} (hK : K = X.K) (hmg : mg = X.mg) (h : PPD X W pos ks vs trs r) : ∀ {α : Type} {Oc : R α → Hp → Hp → Prop} {B G0 G H : Hp} {σ : L2.St} {ρ : En} {kk : List (D × D) → R α} {P : List (V × V) → Hp → Prop}, Kind mg W σ α Oc → SRep K B G0 G H σ ρ → Oc ((r ρ).bind kk) G H →
    (∀ ds ps G' H', SRep K B G0 G' H' σ ρ → Ext G H G' H' → RpP K G' ps ds → Oc (kk ds) G' H' → P ps H') → tPairs trs σ H P := by
  subst hK hmg
  induction h with
  | nil =>
    intro α Oc B G0 G H σ ρ kk P kd s o hp
    exact hp [] [] G H s (.refl s.gh) .nil o
  | @cons k v ks vs trs gk gv r h1 h2 h3 ih =>
    intro α Oc B G0 G H σ ρ kk P kd s o hp
    have o' : Oc ((gk ρ).bind fun k => (match toK k with | some _ => (gv ρ).bind fun v => (r ρ).bind fun ps => .ok ((k, v) :: ps) | none => .bad : R (List (D × D))).bind kk) G H := by
      have e : ((pCons gk gv r) ρ).bind kk = (gk ρ).bind fun k => (match toK k with | some _ => (gv ρ).bind fun v => (r ρ).bind fun ps => .ok ((k, v) :: ps) | none => .bad : R (List (D × D))).bind kk := by
        unfold pCons
        cases gk ρ <;> rfl
      rw [← e]; exact o
    refine stepD (m := .sh) kd s o' fun dk kv G1 H1 s1 e1 r1 o1 => ?_
    cases ek : toK dk with
    | none => rw [ek] at o1; exact absurd o1 kd.bad
    | some ky =>
      rw [ek] at o1
      have o1' : Oc ((gv ρ).bind fun v => (r ρ).bind fun ps => kk ((dk, v) :: ps)) G1 H1 := by
        have e : (((gv ρ).bind fun v => (r ρ).bind fun ps => (.ok ((dk, v) :: ps) : R (List (D × D)))) : R (List (D × D))).bind kk = (gv ρ).bind fun v => (r ρ).bind fun ps => kk ((dk, v) :: ps) := by
          cases gv ρ <;> try rfl
          simp only [R.bind_ok]
          cases r ρ <;> rfl
        rw [← e]; exact o1
      refine stepD (m := .sh) kd s1 o1' fun dv vv G2 H2 s2 e2 r2 o2 => ih kd s2 o2 fun ds ps G3 H3 s3 e3 r3 o3 => ?_
      exact hp ((dk, dv) :: ds) ((kv, vv) :: ps) G3 H3 s3 ((e1.trans e2).trans e3) (.cons (Rp.mono (e2.g.trans e3.g) r1) (Rp.mono e3.g r2) (by rw [ek]; rfl) r3) o3
theorem RpK.merge {K : PySem.W.Frag} {G : Hp} : ∀ {more : List (Key × V)} {ds : List (D × D)} {kvs : List (Key × V)} {es : List (D × D)}, RpK K G more ds → RpK K G kvs es → RpK K G (mergeK kvs more) (mergeD es ds)
  | _, _, _, _, .nil, h => h
  | _, _, kvs, es, .cons (k := k) (v := v) (kvs := r) (d := d) (ds := ds) a b, h => by
    show RpK K G (mergeK (putK kvs k v) r) (mergeD (dPut es (kD k) d) ds)
    exact RpK.merge b (h.put a)
end
end DL

namespace DL
open PySem PySem.Spec PyProof.Rows L2
section
variable {X : Cx} {W : WX} {pos p : Pos} {ks : List (Option Expr)} {vs : List Expr} {trs : List (TE × TE)} {r : En → R (List (D × D))}
theorem ed_dict (h : PPD X W pos ks vs trs r) (hall : ks.all (·.isSome) = true := by rfl) (hl : ks.length = vs.length := by rfl) (h0 : ks ≠ [] := by exact fun z => nomatch z) (h15 : ks.length ≤ 15 := by decide) : ED .fr X W (.Dict ks vs pos) (mkD r) :=
  PE.imp (pe_disp h.pps hall hl h0 h15) fun σ H Q ⟨B, G0, ρ, G, s, o⟩ => by
    intro p hp
    have x0 : Ext G H G (upd H p (.dK [])) := .aside s.gh hp
    have s0 := s.ext x0
    -- the outcome is told of the heap ahead of the display
    have kd : Kind X.mg W σ D fun r G1 H1 => H1 p = some (.dK []) ∧ G1 p = none ∧ Ext G H G1 H1 ∧ Out .fr X.K X.mg W r σ G H Q := by
      refine ⟨fun {r G1 H1 G2 H2} e o => ⟨e.h _ _ o.1, ?_, o.2.2.1.trans e, o.2.2.2⟩, fun {c G1 H1} o C G2 H2 e hm => o.2.2.2 C G2 H2 (o.2.2.1.trans e) hm, fun {G1 H1} o => o.2.2.2⟩
      cases z : G2 p with
      | none => rfl
      | some u => exact absurd o.2.1 (e.fr p (by rw [o.1]; exact fun z => nomatch z) (by rw [z]; exact fun z => nomatch z))
    refine tPairs_D rfl rfl h kd s0 ⟨upd_same, s.gh.free hp, x0, o⟩ fun ds ps G1 H1 s1 e1 r1 o1 => ?_
    obtain ⟨q1, q2, q3, q4⟩ := o1
    by_cases hlen : ds.length ≤ 15
    · rw [if_pos hlen] at q4
      obtain ⟨kvs, ek, rk⟩ := r1.keys
      refine ⟨q1, kvs, ek, by rw [rk.length]; exact hlen, q4 _ G1 _ ⟨q3.g, fun b u z => ?_, fun b u z => ?_, q3.fr⟩ ⟨.dct upd_same (rk.merge .nil), p, rfl, hp, q2⟩⟩
      · rw [upd_ne (ne_of_none z hp)]; exact q3.h b u z
      · rw [upd_ne (ne_of_none z q2)]; exact q3.gh b u z
    · rw [if_neg hlen] at q4; exact q4.elim
end
section
variable {X : Cx} {K : PySem.W.Frag} {m : Md}
/-- an empty dict -/
theorem ed_dnew {W : WX} {pos : Pos} : ED .fr X W (.Dict [] [] pos) (cst (.dict [])) := PE.imp pe_dnewK fun σ H Q ⟨B, G0, ρ, G, s, o⟩ p hp =>
  o _ _ _ (.aside s.gh hp) ⟨.dct upd_same .nil, p, rfl, hp, s.gh.free hp⟩
/-- dict(d): a copy; dict(pairs) -/
def pairs? : List D → Option (List (D × D))
  | [] => some []
  | .tuple [k, v] :: r => match toK k, pairs? r with
    | some _, some ps => some ((k, v) :: ps)
    | _, _ => none
  | _ :: _ => none
def dDict : List D → Option D
  | [.dict kvs] => some (.dict kvs)
  | [.list ds] => (pairs? ds).map fun ps => .dict (mergeD [] ps)
  | _ => none
def rDict (K : PySem.W.Frag) : List V → Hp → VK → Prop := fun xs H Q => (∃ (a : Addr) (kvs : List (Key × V)), xs = [.ref a] ∧ Rd H a (.dK kvs) ∧ ∀ p, H p = none → Q (.ref p) (upd H p (.dK kvs))) ∨
  ∃ (a : Addr) (ps : List Addr) (kvs : List (Key × V)), xs = [.ref a] ∧ SqL K H a (ps.map V.ref) ∧ Paired (fun p kv => SqT K H p [kV kv.1, kv.2]) ps kvs ∧ ∀ p, H p = none → Q (.ref p) (upd H p (.dK (mergeK [] kvs)))
theorem call_dictG (hc : X.calm = true) : CallR X (.type "dict") (rDict X.K) := call_dictD.or (call_dictP hc)
theorem pairs_rp {G H : Hp} (gh : Same G H) : ∀ {ds : List D} {vs : List V} {ps : List (D × D)}, RpA K G vs ds → pairs? ds = some ps →
    ∃ (as : List Addr) (kvs : List (Key × V)), vs = as.map V.ref ∧ Paired (fun p kv => SqT K H p [kV kv.1, kv.2]) as kvs ∧ RpK K G kvs ps
  | [], _, _, .nil, h => by cases h; exact ⟨[], [], rfl, .nil, .nil⟩
  | d :: ds, _, ps, .cons a b, h => by
    unfold pairs? at h
    split at h
    · rename_i heq; exact absurd heq (by simp)
    · rename_i k v r heq
      injection heq with e1 e2
      subst e1 e2
      cases ek : toK k with
      | none => rw [ek] at h; cases h
      | some ky =>
        cases er : pairs? ds with
        | none => rw [ek, er] at h; cases h
        | some qs =>
          rw [ek, er] at h
          cases h
          obtain ⟨as, kvs, e3, e4, e5⟩ := pairs_rp gh b er
          obtain ⟨a', xs, rfl, h1, h2⟩ := RpB.tuple gh (.inl a)
          cases h2 with
          | cons r1 r2 =>
            cases r2 with
            | cons r3 r4 =>
              cases r4
              refine ⟨a' :: as, (ky, _) :: kvs, by rw [e3]; rfl, .cons ?_ e4, by rw [of_toK ek]; exact .cons r3 e5⟩
              rw [← rpB_key (.inl r1) ek (H := G)]
              exact h1
    · cases h
theorem cal_dict : CalD .fr K (rDict K) dDict := fun ds d vs G H Q gh r e q => by
  unfold dDict at e
  split at e
  · cases e
    obtain ⟨v, rfl, rv⟩ := rb1 r
    obtain ⟨a, kvs, rfl, h1, h2⟩ := RpB.dict gh rv
    exact .inl ⟨a, kvs, rfl, .inl h1, fun p hp => q _ _ _ (.aside gh hp) ⟨.dct upd_same h2, p, rfl, hp, gh.free hp⟩⟩
  · rename_i es
    obtain ⟨ps, e1, e2⟩ := Option.map_eq_some_iff.mp e
    subst e2
    obtain ⟨v, rfl, rv⟩ := rb1 r
    obtain ⟨a, xs, rfl, h1, h2⟩ := RpB.list gh rv
    obtain ⟨as, kvs, e3, e4, e5⟩ := pairs_rp gh h2 e1
    subst e3
    exact .inr ⟨a, as, kvs, rfl, h1, e4, fun p hp => q _ _ _ (.aside gh hp) ⟨.dct upd_same (e5.merge .nil), p, rfl, hp, gh.free hp⟩⟩
  · cases e
/-! ### lists of ints, of bools -/
def ints? : List D → Option (List Int)
  | [] => some []
  | .int i :: r => (ints? r).map (i :: ·)
  | _ :: _ => none
def bools? : List D → Option (List Bool)
  | [] => some []
  | .bool b :: r => (bools? r).map (b :: ·)
  | _ :: _ => none
theorem ints_eq : ∀ {ds : List D} {ns : List Int}, ints? ds = some ns → ds = ns.map PyData.int
  | [], _, h => by cases h; rfl
  | .int i :: r, _, h => by
    obtain ⟨ms, e1, e2⟩ := Option.map_eq_some_iff.mp (show (ints? r).map (i :: ·) = _ from h)
    subst e2
    rw [ints_eq e1]; rfl
  | .none :: _, _, h => by cases h
  | .bool _ :: _, _, h => by cases h
  | .str _ :: _, _, h => by cases h
  | .list _ :: _, _, h => by cases h
  | .tuple _ :: _, _, h => by cases h
  | .dict _ :: _, _, h => by cases h
theorem bools_eq : ∀ {ds : List D} {ns : List Bool}, bools? ds = some ns → ds = ns.map PyData.bool
  | [], _, h => by cases h; rfl
  | .bool i :: r, _, h => by
    obtain ⟨ms, e1, e2⟩ := Option.map_eq_some_iff.mp (show (bools? r).map (i :: ·) = _ from h)
    subst e2
    rw [bools_eq e1]; rfl
  | .none :: _, _, h => by cases h
  | .int _ :: _, _, h => by cases h
  | .str _ :: _, _, h => by cases h
  | .list _ :: _, _, h => by cases h
  | .tuple _ :: _, _, h => by cases h
  | .dict _ :: _, _, h => by cases h
@[simp] theorem ints_map : ∀ ns : List Int, ints? (ns.map PyData.int) = some ns
  | [] => rfl
  | n :: ns => by simp [ints?, ints_map ns]
@[simp] theorem bools_map : ∀ ns : List Bool, bools? (ns.map PyData.bool) = some ns
  | [] => rfl
  | n :: ns => by simp [bools?, bools_map ns]
theorem rpA_ints {G : Hp} : ∀ {ns : List Int} {vs : List V}, RpA K G vs (ns.map PyData.int) → vs = ns.map V.int
  | [], _, h => by cases h; rfl
  | n :: ns, _, h => by
    rw [List.map_cons] at h
    cases h with
    | cons a b => cases a; rw [rpA_ints b]; rfl
theorem rpA_bools {G : Hp} : ∀ {ns : List Bool} {vs : List V}, RpA K G vs (ns.map PyData.bool) → vs = ns.map V.bl
  | [], _, h => by cases h; rfl
  | n :: ns, _, h => by
    rw [List.map_cons] at h
    cases h with
    | cons a b => cases a; rw [rpA_bools b]; rfl
theorem ints_rpA {G : Hp} : ∀ (ns : List Int), RpA K G (ns.map V.int) (ns.map PyData.int)
  | [] => .nil
  | n :: ns => .cons (.int n) (ints_rpA ns)
def maxL : List Int → Int
  | [] => 0
  | [x] => x
  | x :: y :: r => let m := maxL (y :: r); if x < m then m else x
def minL : List Int → Int
  | [] => 0
  | [x] => x
  | x :: y :: r => let m := minL (y :: r); if m < x then m else x
theorem maxL_mem : ∀ (x : Int) (r : List Int), maxL (x :: r) ∈ x :: r ∧ ∀ y ∈ x :: r, y ≤ maxL (x :: r)
  | x, [] => by simp [maxL]
  | x, y :: r => by
    obtain ⟨h1, h2⟩ := maxL_mem y r
    unfold maxL
    by_cases h : x < maxL (y :: r)
    · simp only [h, if_true]
      refine ⟨List.mem_cons_of_mem _ h1, fun z hz => ?_⟩
      rcases List.mem_cons.mp hz with rfl | hz
      · omega
      · exact h2 z hz
    · simp only [h, if_false]
      refine ⟨List.mem_cons_self, fun z hz => ?_⟩
      rcases List.mem_cons.mp hz with rfl | hz
      · omega
      · have := h2 z hz; omega
theorem minL_mem : ∀ (x : Int) (r : List Int), minL (x :: r) ∈ x :: r ∧ ∀ y ∈ x :: r, minL (x :: r) ≤ y
  | x, [] => by simp [minL]
  | x, y :: r => by
    obtain ⟨h1, h2⟩ := minL_mem y r
    unfold minL
    by_cases h : minL (y :: r) < x
    · simp only [h, if_true]
      refine ⟨List.mem_cons_of_mem _ h1, fun z hz => ?_⟩
      rcases List.mem_cons.mp hz with rfl | hz
      · omega
      · exact h2 z hz
    · simp only [h, if_false]
      refine ⟨List.mem_cons_self, fun z hz => ?_⟩
      rcases List.mem_cons.mp hz with rfl | hz
      · omega
      · have := h2 z hz; omega
def dSum : List D → Option D
  | [.list ds] => (ints? ds).map fun ns => .int ns.sum
  | _ => none
def dMaxL : List D → Option D
  | [.list ds] => match ints? ds with
    | some (n :: ns) => some (.int (maxL (n :: ns)))
    | _ => none
  | _ => none
def dMinL : List D → Option D
  | [.list ds] => match ints? ds with
    | some (n :: ns) => some (.int (minL (n :: ns)))
    | _ => none
  | _ => none
def dAny : List D → Option D
  | [.list ds] => (bools? ds).map fun ns => .bool (ns.any id)
  | _ => none
def dAll : List D → Option D
  | [.list ds] => (bools? ds).map fun ns => .bool (ns.all id)
  | _ => none
theorem cal_sum : CalD .sh K (rSum K) dSum := fun ds d vs G H Q gh r e q => by
  unfold dSum at e
  split at e
  · rename_i es
    obtain ⟨ns, e1, e2⟩ := Option.map_eq_some_iff.mp e
    subst e2
    obtain ⟨v, rfl, rv⟩ := rb1 r
    rw [ints_eq e1] at rv
    obtain ⟨a, xs, rfl, h1, h2⟩ := RpB.list gh rv
    rw [rpA_ints h2] at h1
    exact ⟨a, ns, rfl, h1, q _ G H (.refl gh) (.int _)⟩
  · cases e
theorem cal_maxL : CalD .sh K (rMax K) dMaxL := fun ds d vs G H Q gh r e q => by
  unfold dMaxL at e
  split at e
  · rename_i es
    split at e
    · rename_i n ns e1
      cases e
      obtain ⟨v, rfl, rv⟩ := rb1 r
      rw [ints_eq e1] at rv
      obtain ⟨a, xs, rfl, h1, h2⟩ := RpB.list gh rv
      rw [rpA_ints h2] at h1
      refine ⟨a, n :: ns, rfl, h1, Nat.zero_lt_succ _, fun m hm hy => ?_⟩
      obtain ⟨g1, g2⟩ := maxL_mem n ns
      have e : m = maxL (n :: ns) := Int.le_antisymm (g2 m hm) (hy _ g1)
      rw [e]
      exact q _ G H (.refl gh) (.int _)
    · cases e
  · cases e
theorem cal_minL : CalD .sh K (rMin K) dMinL := fun ds d vs G H Q gh r e q => by
  unfold dMinL at e
  split at e
  · rename_i es
    split at e
    · rename_i n ns e1
      cases e
      obtain ⟨v, rfl, rv⟩ := rb1 r
      rw [ints_eq e1] at rv
      obtain ⟨a, xs, rfl, h1, h2⟩ := RpB.list gh rv
      rw [rpA_ints h2] at h1
      refine ⟨a, n :: ns, rfl, h1, Nat.zero_lt_succ _, fun m hm hy => ?_⟩
      obtain ⟨g1, g2⟩ := minL_mem n ns
      have e : m = minL (n :: ns) := Int.le_antisymm (hy _ g1) (g2 m hm)
      rw [e]
      exact q _ G H (.refl gh) (.int _)
    · cases e
  · cases e
theorem cal_any : CalD .sh K (rAny K) dAny := fun ds d vs G H Q gh r e q => by
  unfold dAny at e
  split at e
  · rename_i es
    obtain ⟨ns, e1, e2⟩ := Option.map_eq_some_iff.mp e
    subst e2
    obtain ⟨v, rfl, rv⟩ := rb1 r
    rw [bools_eq e1] at rv
    obtain ⟨a, xs, rfl, h1, h2⟩ := RpB.list gh rv
    rw [rpA_bools h2] at h1
    exact ⟨a, ns, rfl, h1, q _ G H (.refl gh) (.bl _)⟩
  · cases e
theorem cal_all : CalD .sh K (rAll K) dAll := fun ds d vs G H Q gh r e q => by
  unfold dAll at e
  split at e
  · rename_i es
    obtain ⟨ns, e1, e2⟩ := Option.map_eq_some_iff.mp e
    subst e2
    obtain ⟨v, rfl, rv⟩ := rb1 r
    rw [bools_eq e1] at rv
    obtain ⟨a, xs, rfl, h1, h2⟩ := RpB.list gh rv
    rw [rpA_bools h2] at h1
    exact ⟨a, ns, rfl, h1, q _ G H (.refl gh) (.bl _)⟩
  · cases e
/-! ### two dicts that are alike, == and != -/
def scaEq : D → D → Bool
  | .none, .none => true
  | .int i, .int j => i == j
  | .str x, .str y => x == y
  | .bool a, .bool b => a == b
  | _, _ => false
def dAlike (a b : List (D × D)) : Bool := a.length == b.length && a.all fun p => match dLook b p.1 with
  | some v => scaEq p.2 v
  | none => false
def dEqK : D → D → Option D
  | .dict a, .dict b => if dAlike a b = true then some (.bool true) else none
  | _, _ => none
def dNeK : D → D → Option D
  | .dict a, .dict b => if dAlike a b = true then some (.bool false) else none
  | _, _ => none
def rDk (b : Bool) : R2 := fun x y H Q => ∃ (a c : Addr) (ks ls : List (Key × V)), x = .ref a ∧ y = .ref c ∧ H a = some (.dK ks) ∧ H c = some (.dK ls) ∧ ks.length = ls.length ∧ (∀ p ∈ ks, valV ls p.1 = some p.2 ∧ flatB p.2 = true) ∧ Q (.bl b) H
theorem hits_flat {A : Around} {s : Shared} {ls : List (Key × V)} {vb : List (Key × Value)} (rb : KV ls vb) {ks : List (Key × V)} {va : List (Key × Value)}
    (ra : KV ks va) : (∀ p ∈ ks, valV ls p.1 = some p.2 ∧ flatB p.2 = true) → PySem.W.KeqHits A s vb va true := by
  unfold KV at ra
  induction ra with
  | nil => intro _; exact .nil
  | @cons p q ps qs h t k =>
    intro hp
    obtain ⟨h1, h2⟩ := h
    obtain ⟨e, f⟩ := hp p List.mem_cons_self
    have rr : RelO (some p.2) (valueAt vb p.1) := by rw [← e]; exact rb.val p.1
    obtain ⟨y, hy, ry⟩ := rr.some_of
    obtain ⟨key, v⟩ := q
    have h1' : p.1 = key := h1
    rw [h1'] at hy
    show PySem.W.KeqHits A s vb ((key, v) :: qs) (true && true)
    exact .hit hy (eqAt_same h2 ry f) (k fun p' hm => hp p' (List.mem_cons_of_mem _ hm))
theorem op_eqDk (hu : X.A.units < cLine) : OpR X (compareOp .Eq) (rDk true) := by
  intro pins s σ H x y v u Q I rx ry h
  obtain ⟨a, b, ks, ls, rfl, rfl, ha, hb, hl, hp, q⟩ := h
  cases (show v = Value.ref a from rx)
  cases (show u = Value.ref b from ry)
  obtain ⟨_, ya, va, ra, da⟩ := (show ObjOk X.prog X.w H s.heap a (.dK ks) from I.hok a _ ha)
  obtain ⟨_, yb, vb, rb, db⟩ := (show ObjOk X.prog X.w H s.heap b (.dK ls) from I.hok b _ hb)
  refine PySem.W.keq_eq (knd := mixKind X.prog X.w) (r := true) ya yb da db hu (fun _ => hits_flat rb ra hp) ?_
  have e : va.length = vb.length := by rw [← ra.length, ← rb.length]; exact hl
  rw [show (va.length == vb.length && true) = true from by rw [e]; simp]
  exact ⟨.bl true, H, I, rfl, q⟩
theorem op_neDk (hu : X.A.units < cLine) : OpR X (compareOp .NotEq) (rDk false) := by
  intro pins s σ H x y v u Q I rx ry h
  obtain ⟨a, b, ks, ls, rfl, rfl, ha, hb, hl, hp, q⟩ := h
  cases (show v = Value.ref a from rx)
  cases (show u = Value.ref b from ry)
  obtain ⟨_, ya, va, ra, da⟩ := (show ObjOk X.prog X.w H s.heap a (.dK ks) from I.hok a _ ha)
  obtain ⟨_, yb, vb, rb, db⟩ := (show ObjOk X.prog X.w H s.heap b (.dK ls) from I.hok b _ hb)
  refine PySem.W.keq_ne (knd := mixKind X.prog X.w) (r := true) ya yb da db hu (fun _ => hits_flat rb ra hp) ?_
  have e : va.length = vb.length := by rw [← ra.length, ← rb.length]; exact hl
  rw [show (!(va.length == vb.length && true)) = false from by rw [e]; simp]
  exact ⟨.bl false, H, I, rfl, q⟩
theorem sca_rp {G : Hp} {v w : V} {a b : D} (r : Rp K G v a) (q : Rp K G w b) (h : scaEq a b = true) : v = w ∧ flatB w = true := by
  cases r <;> cases q <;> first
    | (exact absurd (show false = true from h) Bool.false_ne_true)
    | skip
  · exact ⟨rfl, rfl⟩
  · have : _ = _ := eq_of_beq (show (_ == _) = true from h); subst this; exact ⟨rfl, rfl⟩
  · have : _ = _ := eq_of_beq (show (_ == _) = true from h); subst this; exact ⟨rfl, rfl⟩
  · have : _ = _ := eq_of_beq (show (_ == _) = true from h); subst this; exact ⟨rfl, rfl⟩
theorem alike_rp {G : Hp} {ls : List (Key × V)} {es : List (D × D)} (rb : RpK K G ls es) : ∀ {ks : List (Key × V)} {ds : List (D × D)}, RpK K G ks ds → (ds.all fun p => match dLook es p.1 with | some v => scaEq p.2 v | none => false) = true → ∀ p ∈ ks, valV ls p.1 = some p.2 ∧ flatB p.2 = true
  | _, _, .nil, _, p, hp => by cases hp
  | _, _, .cons (k := k) (v := v) (d := d) a b, h, p, hp => by
    rw [List.all_cons, Bool.and_eq_true] at h
    rcases List.mem_cons.mp hp with rfl | hp
    · have h1 : (match dLook es (kD k) with | some v => scaEq d v | none => false) = true := h.1
      cases e : dLook es (kD k) with
      | none => rw [e] at h1; cases h1
      | some w =>
        rw [e] at h1
        obtain ⟨u, u1, u2⟩ := rb.look_of e
        obtain ⟨e1, e2⟩ := sca_rp a u2 h1
        subst e1
        exact ⟨u1, e2⟩
    · exact alike_rp rb b h.2 p hp
theorem opd_dk {b : Bool} {f : D → D → Option D} (hf : ∀ x y d, f x y = some d → ∃ a c, x = .dict a ∧ y = .dict c ∧ dAlike a c = true ∧ d = .bool b) (hm : m ≠ .fr := by decide) : OpD m K (rDk b) f := fun x y d v u G H Q gh rx ry e q => by
  obtain ⟨a, c, rfl, rfl, h, rfl⟩ := hf x y d e
  obtain ⟨p1, ks, rfl, h1, h2⟩ := RpB.dict gh rx
  obtain ⟨p2, ls, rfl, h3, h4⟩ := RpB.dict gh ry
  unfold dAlike at h
  rw [Bool.and_eq_true] at h
  exact ⟨p1, p2, ks, ls, rfl, rfl, h1, h3, by rw [h2.length, h4.length]; exact eq_of_beq h.1, alike_rp h4 h2 h.2, q _ G H (.refl gh) (rp_sh (G' := G) (H' := H) m hm (.bl _))⟩
theorem eqK_eq (x y d : D) (h : dEqK x y = some d) : ∃ a c, x = .dict a ∧ y = .dict c ∧ dAlike a c = true ∧ d = .bool true := by
  unfold dEqK at h
  split at h
  · split at h
    · cases h; exact ⟨_, _, rfl, rfl, ‹_›, rfl⟩
    · cases h
  · cases h
theorem neK_eq (x y d : D) (h : dNeK x y = some d) : ∃ a c, x = .dict a ∧ y = .dict c ∧ dAlike a c = true ∧ d = .bool false := by
  unfold dNeK at h
  split at h
  · split at h
    · cases h; exact ⟨_, _, rfl, rfl, ‹_›, rfl⟩
    · cases h
  · cases h
variable {W : WX} {a b : Expr} {ga gb : En → R D} {pos : Pos} {k : Nat}
theorem ed_neDk (hr : Room k X.A) (ha : ED .bo X W a ga) (hb : ED .bo X W b gb) : ED .sh X W (.Compare a [.NotEq] [b] pos) (op2 dNeK ga gb) := ed_cmp (op_neDk hr.units0) (opd_dk neK_eq) ha hb (nomark _)
theorem td_neDk (hr : Room k X.A) (ha : ED .bo X W a ga) (hb : ED .bo X W b gb) : TD X W (.Compare a [.NotEq] [b] pos) (tst (op2 dNeK ga gb)) := td_cmp (op_neDk hr.units0) (opd_dk neK_eq) ha hb (nomark _)
/-! ### sorted of ints, any length -/
def insI (x : Int) : List Int → List Int
  | [] => [x]
  | y :: r => if x ≤ y then x :: y :: r else y :: insI x r
def sortI : List Int → List Int
  | [] => []
  | x :: r => insI x (sortI r)
theorem insI_perm (x : Int) : ∀ l : List Int, (insI x l).Perm (x :: l)
  | [] => .refl _
  | y :: r => by
    unfold insI
    by_cases h : x ≤ y
    · rw [if_pos h]
    · rw [if_neg h]; exact ((insI_perm x r).cons y).trans (.swap x y r)
theorem sortI_perm : ∀ l : List Int, (sortI l).Perm l
  | [] => .refl _
  | x :: r => (insI_perm x _).trans ((sortI_perm r).cons x)
theorem insI_sorted (x : Int) : ∀ l : List Int, l.Pairwise (· ≤ ·) → (insI x l).Pairwise (· ≤ ·)
  | [], _ => by simp [insI]
  | y :: r, h => by
    unfold insI
    rw [List.pairwise_cons] at h
    by_cases hx : x ≤ y
    · rw [if_pos hx]
      refine List.pairwise_cons.mpr ⟨fun z hz => ?_, List.pairwise_cons.mpr h⟩
      rcases List.mem_cons.mp hz with rfl | hz
      · exact hx
      · exact Int.le_trans hx (h.1 z hz)
    · rw [if_neg hx]
      refine List.pairwise_cons.mpr ⟨fun z hz => ?_, insI_sorted x r h.2⟩
      rcases List.mem_cons.mp ((insI_perm x r).mem_iff.mp hz) with rfl | hz
      · omega
      · exact h.1 z hz
theorem sortI_sorted : ∀ l : List Int, (sortI l).Pairwise (· ≤ ·)
  | [] => .nil
  | x :: r => insI_sorted x _ (sortI_sorted r)
theorem sorted_unique : ∀ {a b : List Int}, a.Perm b → a.Pairwise (· ≤ ·) → b.Pairwise (· ≤ ·) → a = b
  | [], b, p, _, _ => by rw [List.nil_perm.mp p]
  | x :: r, [], p, _, _ => absurd p.length_eq (by simp)
  | x :: r, y :: t, p, ha, hb => by
    rw [List.pairwise_cons] at ha hb
    have e : x = y := by
      have h1 : x ∈ y :: t := p.mem_iff.mp List.mem_cons_self
      have h2 : y ∈ x :: r := p.mem_iff.mpr List.mem_cons_self
      have l1 : x ≤ y := by
        rcases List.mem_cons.mp h2 with h | h
        · omega
        · exact ha.1 y h
      have l2 : y ≤ x := by
        rcases List.mem_cons.mp h1 with h | h
        · omega
        · exact hb.1 x h
      omega
    subst e
    rw [sorted_unique (p.cons_inv) ha.2 hb.2]
def dSortI : List D → Option D
  | [.list ds] => (ints? ds).map fun ns => .list ((sortI ns).map .int)
  | _ => none
theorem cal_sortI : CalD .fr K (rSortedI K) dSortI := fun ds d vs G H Q gh r e q => by
  unfold dSortI at e
  split at e
  · rename_i es
    obtain ⟨ns, e1, e2⟩ := Option.map_eq_some_iff.mp e
    subst e2
    obtain ⟨v, rfl, rv⟩ := rb1 r
    rw [ints_eq e1] at rv
    obtain ⟨a, xs, rfl, h1, h2⟩ := RpB.list gh rv
    rw [rpA_ints h2] at h1
    refine ⟨a, ns, rfl, h1, fun ns' p hp hs hn => ?_⟩
    have e3 : ns' = sortI ns := sorted_unique (hp.trans (sortI_perm ns).symm) hs (sortI_sorted ns)
    rw [e3]
    exact q _ _ _ (.aside gh hn) ⟨.lst upd_same (ints_rpA _), p, rfl, hn, gh.free hn⟩
  · cases e
/-! ### list(..), tuple(..) -/
def dList : List D → Option D
  | [.list ds] => some (.list ds)
  | [.tuple ds] => some (.list ds)
  | _ => none
def dTuple : List D → Option D
  | [.list ds] => some (.tuple ds)
  | [.tuple ds] => some (.tuple ds)
  | _ => none
theorem cal_list : CalD .fr K (fun xs H Q => ∃ p ys, xs = [.ref p] ∧ (SqL K H p ys ∨ SqT K H p ys) ∧ ∀ l, H l = none → Q (.ref l) (upd H l (.lst ys))) dList := fun ds d vs G H Q gh r e q => by
  unfold dList at e
  split at e
  · cases e
    obtain ⟨v, rfl, rv⟩ := rb1 r
    obtain ⟨a, xs, rfl, h1, h2⟩ := RpB.list gh rv
    exact ⟨a, xs, rfl, .inl h1, fun p hp => q _ _ _ (.aside gh hp) ⟨.lst upd_same h2, p, rfl, hp, gh.free hp⟩⟩
  · cases e
    obtain ⟨v, rfl, rv⟩ := rb1 r
    obtain ⟨a, xs, rfl, h1, h2⟩ := RpB.tuple gh rv
    exact ⟨a, xs, rfl, .inr h1, fun p hp => q _ _ _ (.aside gh hp) ⟨.lst upd_same h2, p, rfl, hp, gh.free hp⟩⟩
  · cases e
theorem cal_tuple : CalD .sh K (fun xs H Q => ∃ p ys, xs = [.ref p] ∧ ((SqL K H p ys ∧ ∀ l, H l = none → Q (.ref l) (upd H l (.tup ys))) ∨ (SqT K H p ys ∧ Q (.ref p) H))) dTuple := fun ds d vs G H Q gh r e q => by
  unfold dTuple at e
  split at e
  · cases e
    obtain ⟨v, rfl, rv⟩ := rb1 r
    obtain ⟨a, xs, rfl, h1, h2⟩ := RpB.list gh rv
    exact ⟨a, xs, rfl, .inl ⟨h1, fun p hp => q _ _ _ (.new gh hp) (.tup (.of upd_same) (h2.mono (same_new (gh.free hp))))⟩⟩
  · cases e
    obtain ⟨v, rfl, rv⟩ := rb1 r
    have rv' : Rp K G v (.tuple _) := rv.elim (fun h => h) fun h => by cases h
    obtain ⟨a, xs, rfl, h1, h2⟩ := RpB.tuple gh rv
    exact ⟨a, xs, rfl, .inr ⟨h1, q _ G H (.refl gh) rv'⟩⟩
  · cases e
/-! ### a list so many times -/
def dRep : D → D → Option D
  | .list ds, .int j => if -BIG ≤ j ∧ j < BIG ∧ ds.length * j.toNat ≤ LIM then some (.list (List.replicate j.toNat ds).flatten) else none
  | _, _ => none
theorem rpA_rep {G : Hp} {xs : List V} {ds : List D} (r : RpA K G xs ds) : ∀ n : Nat, RpA K G (List.replicate n xs).flatten (List.replicate n ds).flatten
  | 0 => .nil
  | n + 1 => by rw [List.replicate_succ, List.replicate_succ, List.flatten_cons, List.flatten_cons]; exact r.append (rpA_rep r n)
/-- the list is a new one (a display) -/
theorem ed_rep (ha : ED .fr X W a ga) (hb : ED .bo X W b gb) : ED .fr X W (.BinOp a .Mult b pos) (op2 dRep ga gb) :=
  PE.imp (pe_op op_rep ha hb) fun σ H Q ⟨B, G0, ρ, G, s, o⟩ => by
    -- the list stands aside
    have kd : Kind X.mg W σ D fun r G1 H1 => Ext G H G1 H1 ∧ Out .fr X.K X.mg W r σ G H Q :=
      ⟨fun {r G1 H1 G2 H2} e o => ⟨o.1.trans e, o.2⟩, fun {c G1 H1} o C G2 H2 e hm => o.2 C G2 H2 (o.1.trans e) hm, fun {G1 H1} o => o.2⟩
    refine stepD (m := .fr) kd s ⟨.refl s.gh, o⟩ fun x v G1 H1 s1 e1 r1 o1 => stepD (m := .bo) kd s1 o1 fun y u G2 H2 s2 e2 r2 o2 => ?_
    obtain ⟨c, a, ev, h0, g0⟩ := r1
    obtain ⟨x2, o3⟩ := o2
    cases o4 : dRep x y with
    | none => rw [o4] at o3; exact o3.elim
    | some d =>
      rw [o4] at o3
      unfold dRep at o4
      split at o4
      · rename_i ds j
        split at o4
        · rename_i hj
          cases o4
          subst ev
          cases c with
          | @lst _ xs _ q1 q2 =>
          have q3 := e2.h _ _ q1
          have q4 := q2.mono e2.g
          unfold BIG at hj
          refine ⟨a, j, xs, rfl, RpB.int r2, q3, by omega, by omega, by rw [q4.length, ← lim_eq]; exact hj.2.2, fun p hp => ?_⟩
          have hp0 : H p = none := x2.h.free hp
          have x3 : Ext G H G2 (upd H2 p (.lst (List.replicate j.toNat xs).flatten)) := x2.trans (.aside s2.gh hp)
          exact o3 _ _ _ x3 ⟨.lst upd_same (rpA_rep q4 _), p, rfl, hp0, s2.gh.free hp⟩
        · cases o4
      · cases o4
end
end DL

namespace DL
open PySem PySem.Spec PyProof.Rows L2
/-! ### short words of the mirrors -/
abbrev subI := iop always fun i j => i - j
abbrev mulI := iop cMul fun i j => i * j
abbrev modI := iop cPos fun i j => i % j
abbrev divI := iop cDiv fun i j => i / j
abbrev powI := iop cPow fun i j => i ^ j.toNat
abbrev negD (g : En → R D) : En → R D := fun ρ => (g ρ).bind dNeg
abbrev isiD (T : String) (g : En → R D) : En → R D := fun ρ => (g ρ).bind fun d => .ok (.bool (isT T (tyN d)))
abbrev callM (n : Nat) (fn : List D → R D) (r : En → R (List D)) : En → R D := fun ρ => (r ρ).bind (callD n fn)
abbrev oSome (g : En → R D) : En → R (Option Int) := fun ρ => (g ρ).bind asI
abbrev iRg1 (r : En → R (List D)) : En → R (List D) := fun ρ => (r ρ).bind rg1
abbrev iRg2 (r : En → R (List D)) : En → R (List D) := fun ρ => (r ρ).bind rg2
def fuelI (i : Nat) : En → Nat := fun ρ => match ρ[i]? with
  | some (some (.sh (.int j))) => j.toNat + 1
  | _ => 0
def onlyL : D → R (List D)
  | .list ds => .ok ds
  | _ => .bad
abbrev iEnumD (g : En → R D) : En → R (List D) := fun ρ => (g ρ).bind fun d => (onlyL d).bind fun ds => .ok (enumFrom' 0 ds)
abbrev iZipD (g h : En → R D) : En → R (List D) := fun ρ => (g ρ).bind fun d => (h ρ).bind fun e => (onlyL d).bind fun ds => (onlyL e).bind fun es => .ok (zipD ds es)
section
variable {X : Cx} {W : WX} {e e2 : Expr} {g g2 : En → R D} {fz : Bool} {pos p tpos : Pos} {elts : List Expr} {kk : Nat}
theorem md_bo {fz : Bool} {K : PySem.W.Frag} {H0 G H G' H' : Hp} {v : V} {d : D} (x : Ext G H G' H') (r : RpM (MdI fz) K H0 G H v d) : RpM (MdI fz) K H0 G' H' v d := by
  cases fz with
  | true => exact Rp.mono x.g r
  | false => exact RpB.mono x r
theorem id_enum (hm : X.mg "enumerate" = none) (h : ED (MdI fz) X W e g) (hg : Gl X "enumerate" := by rfl) (hs : starEach [e] X.env = [(false, eval e X.env)] := by rfl) :
    ID fz X W (.Tuple elts kk tpos) (.Call (.Name "enumerate" p) [e] [] pos) (iEnumD g) :=
  PI.imp (pi_enum hg hm (pa_cons h pa_nil hs) hs) fun σ H R hh => by
    obtain ⟨B, G0, ρ, G, s, o⟩ := tI_eq hh
    refine stepD (m := MdI fz) kI_ s o fun d v G1 H1 s1 e1 r1 o1 => ?_
    cases d with
    | list ds =>
      obtain ⟨a, e1, ⟨xs, e2⟩, e3⟩ := st_list s1.gh r1
      subst e1
      exact ⟨a, xs, rfl, e2, o1 _ G1 H1 (.refl s1.gh) (jl_enum e3)⟩
    | _ => exact o1.elim
theorem id_zip (hm : X.mg "zip" = none) (h : ED (MdI fz) X W e g) (h2 : ED (MdI fz) X W e2 g2) (hg : Gl X "zip" := by rfl)
    (hs : starEach [e, e2] X.env = (false, eval e X.env) :: starEach [e2] X.env := by rfl) (hs2 : starEach [e2] X.env = (false, eval e2 X.env) :: starEach [] X.env := by rfl) (hpl : (backTo pos (starEach [e2] X.env)).any (·.1) = false := by rfl) :
    ID fz X W (.Tuple elts kk tpos) (.Call (.Name "zip" p) [e, e2] [] pos) (iZipD g g2) :=
  PI.imp (pi_zip hg hm (pa_cons h (pa_cons h2 pa_nil hs2) hs) hs hpl) fun σ H R hh => by
    obtain ⟨B, G0, ρ, G, s, o⟩ := tI_eq hh
    refine stepD (m := MdI fz) kI_ s o fun d v G1 H1 s1 e1 r1 o1 => stepD (m := MdI fz) kI_ s1 o1 fun d2 v2 G2 H2 s2 x2 r2 o2 => ?_
    have r1' := md_bo x2 r1
    cases d with
    | list ds =>
      cases d2 with
      | list es =>
        obtain ⟨a, q1, ⟨xs, q2⟩, q3⟩ := st_list s2.gh r1'
        obtain ⟨b, q4, ⟨ys, q5⟩, q6⟩ := st_list s2.gh r2
        subst q1 q4
        exact ⟨a, b, xs, ys, rfl, q2, q5, o2 _ G2 H2 (.refl s2.gh) (jl_zip fun G H z => ⟨(q3 G H z).1, (q3 G H z).2, (q6 G H z).2⟩)⟩
      | _ => exact o2.elim
    | _ => cases d2 <;> exact o2.elim
end
/-! ### constants of the module -/
structure GlC (K : PySem.W.Frag) (mg : MG) (x : Str) (d : D) : Prop where
  ex : ∃ (u : Value) (v : V), mg x = some u ∧ RelV v u ∧ ∀ G, Rp K G v d
theorem ed_gl {X : Cx} {W : WX} {x : Str} {d : D} {pos : Pos} (hg : Gl X x) (h : GlC X.K X.mg x d) (hd : (x == ("__debug__" : Str)) = false := by decide) : ED .sh X W (.Name x pos) (cst d) := by
  obtain ⟨u, v, h1, h2, h3⟩ := h
  exact ed_glob hg h1 h2 h3 hd
theorem GlC.int {K : PySem.W.Frag} {mg : MG} {x : Str} {i : Int} {t : Tok} (h : mg x = some (.int i t)) : GlC K mg x (.int i) := ⟨_, .int i, h, ⟨t, rfl⟩, fun _ => .int i⟩
theorem GlC.str {K : PySem.W.Frag} {mg : MG} {x y : Str} {t : Tok} (h : mg x = some (.str y t)) : GlC K mg x (.str y) := ⟨_, .str y, h, ⟨t, rfl⟩, fun _ => .str y⟩
def flat? : Value → Option D
  | .none => some .none
  | .bool b => some (.bool b)
  | .int i _ => some (.int i)
  | .str x _ => some (.str x)
  | _ => none
def flats? : List Value → Option (List D)
  | [] => some []
  | v :: r => match flat? v, flats? r with
    | some d, some ds => some (d :: ds)
    | _, _ => none
def tupOf (o : Obj) : Option (List D) := match o with
  | { cls := .type "tuple", data := .seq its _, .. } => if its.size ≤ LIM then flats? its.toList else none
  | _ => none
theorem flat_rp {K : PySem.W.Frag} {G : Hp} {u : Value} {d : D} (h : flat? u = some d) : ∃ v, RelV v u ∧ Rp K G v d := by
  unfold flat? at h
  split at h
  · cases h; exact ⟨.non, rfl, .non⟩
  · cases h; exact ⟨.bl _, rfl, .bl _⟩
  · cases h; exact ⟨.int _, ⟨_, rfl⟩, .int _⟩
  · cases h; exact ⟨.str _, ⟨_, rfl⟩, .str _⟩
  · cases h
theorem flats_rp {K : PySem.W.Frag} {G : Hp} : ∀ {us : List Value} {ds : List D}, flats? us = some ds → ∃ vs, Vals vs us ∧ RpA K G vs ds
  | [], _, h => by cases h; exact ⟨[], .nil, .nil⟩
  | u :: us, ds, h => by
    unfold flats? at h
    cases e1 : flat? u with
    | none => rw [e1] at h; cases h
    | some d =>
      cases e2 : flats? us with
      | none => rw [e1, e2] at h; cases h
      | some es =>
        rw [e1, e2] at h
        cases h
        obtain ⟨v, h1, h2⟩ := flat_rp (K := K) (G := G) e1
        obtain ⟨vs, h3, h4⟩ := flats_rp (K := K) (G := G) e2
        exact ⟨v :: vs, .cons h1 h3, .cons h2 h4⟩
theorem GlC.tup {K : PySem.W.Frag} {mg : MG} {x : Str} {r : Addr} {o : Obj} {ds : List D} (h : mg x = some (.ref r)) (l : K.lookup r = some o) (t : tupOf o = some ds) : GlC K mg x (.tuple ds) := by
  refine ⟨_, .ref r, h, rfl, fun G => ?_⟩
  unfold tupOf at t
  split at t
  · rename_i dd its n sl
    split at t
    · rename_i hz
      obtain ⟨vs, h1, h2⟩ := flats_rp (K := K) (G := G) t
      exact .tup (.inr ⟨_, its, n, l, rfl, rfl, by rw [← lim_eq]; exact hz, h1⟩) h2
    · cases t
  · cases t
/-! ### recursion's ground, the law's end -/
theorem Here.none {P : Program} {w : World} {K : PySem.W.Frag} {mg : MG} {base : Heap} {k : Nat} {x qual : Str} {st : Stmt} {ps : List Str} {n : Nat} (h : Here K mg x qual st ps) : DF P w K mg base k x n (fun _ => .bad) := by
  obtain ⟨f, fd, h1, F, b⟩ := h
  refine ⟨f, fd, ps, h1, F.kp, b, fun vs H Q E h => ?_, fun A outer s H args us vs Q E _ _ _ _ h => ?_⟩
  · obtain ⟨_, _, _, _, _, z⟩ := h
    exact z.elim
  · obtain ⟨_, _, _, _, _, z⟩ := h
    exact z.elim
def spLaw (K : PySem.W.Frag) : Sp := fun vs H Q _ => ∃ (a : Addr) (ns : List Int), vs = [.ref a] ∧ SqL K H a (ns.map V.int) ∧ ns.length ≤ 63 ∧ ∀ H', Q (.bl true) H'
theorem law_sp {K : PySem.W.Frag} {mg : MG} {fn : List D → R D} (hl : ∀ ns : List Int, ns.length ≤ 63 → fn [.list (ns.map .int)] = .ok (.bool true)) (vs : List V) (H : Hp) (Q : VK) (E : XK) (h : spLaw K vs H Q E) : spD K mg 1 fn vs H Q E := by
  obtain ⟨a, ns, rfl, h1, h2, q⟩ := h
  refine ⟨rfl, [.list (ns.map .int)], H, .refl _, .cons (.lst h1 (ints_rpA ns)) .nil, ?_⟩
  rw [hl ns h2]
  intro v G' H' x r
  cases r
  exact q H'
theorem Here.law {P : Program} {w : World} {K : PySem.W.Frag} {mg : MG} {st : Stmt} {N : List Str} {k : Nat} {g : En → SO} {fa : Addr} (h : Here K mg "law" "law" st ["_law_script"]) (hmg : mg "law" = some (.ref fa)) (S : FnScope N ["_law_script"] (defScope st))
    (hb : ∀ (kV doc pm : Value) (an : Option Addr) (cdv ct v : Value), bindArgs (PySem.W.fnOf "law" "law" (defArgs st) (defBody st) (defScope st) .none kV doc pm an cdv ct) ⟨[v], []⟩ = pure [(("_law_script" : Str), v)])
    (hbody : ∀ (base : Heap) (f : Addr) (cdv : Value) (A : Around) (outer : List Env) (s : Shared) (H : Hp) (E : XK), Room k (A.deeper (envOfC "law" (defScope st) s.heap.objs.size f cdv)) →
      BD (cxOf (L2N.CX P w) P w K mg base N "law" (defScope st) f cdv A outer s H E) (WB E) (defBody st) g)
    (hl : ∀ ns : List Int, ns.length ≤ 63 → runD N.length g [.list (ns.map .int)] = .ok (.bool true)) :
    ∃ fd : FuncData, (∀ (s : Shared) (v : Value), BindsTo s fd ⟨[v], []⟩ [("_law_script", v)]) ∧ ∀ base : Heap, K.In base → base.Ns mainGlobals mg → FnOk P w K mg base (L2N.CX P w) (k + 1) fa fd ["_law_script"] (spLaw K) := by
  obtain ⟨f, fd, h1, F, b⟩ := h
  rw [hmg] at h1
  cases h1
  refine ⟨fd, fun s v => ?_, fun base _ _ => (def_ok F S (hbody base fa)).imp fun vs H Q E q => law_sp hl vs H Q E q⟩
  obtain ⟨oc, od, kV, doc, pm, an, cdv, ct, osl, rfl, _, _⟩ := F.ex
  exact .of_eq (hb kV doc pm an cdv ct v)
theorem law_noexc {P : Program} {w : World} {H : Hp} {s : Shared} {e : Value} {s' : Shared} (h : L2N.CX P w [] H s (fun _ _ _ => False) e s') : False := by
  obtain ⟨_, _, _, _, _, _, _, _, _, _, _, _, z⟩ := h
  exact z
end DL

namespace My
open PySem DL
def m_worth : Nat → List D → R D
  | 0 => fun _ => .bad
  | n + 1 => runD 5 (sSeq (sSet (.one 2) (op2 dIx (rdB 0) (cst (.int 0)))) (sSeq (sIf (tst (op2 dEq (rdB 2) (cst (.str "num")))) (sRet (op2 dIx (rdB 0) (cst (.int 1)))) sNil) (sSeq (sIf (tst (op2 dEq (rdB 2) (cst (.str "name")))) (sRet (get3 (rdB 1) (op2 dIx (rdB 0) (cst (.int 1))) (cst (.int 0)))) sNil) (sSeq (sSet (.one 3) (callM 2 (m_worth n) (aCons (op2 dIx (rdB 0) (cst (.int 1))) (aCons (rdS 1) aNil)))) (sSeq (sSet (.one 4) (callM 2 (m_worth n) (aCons (op2 dIx (rdB 0) (cst (.int 2))) (aCons (rdS 1) aNil)))) (sSeq (sIf (tst (op2 dEq (rdB 2) (cst (.str "sum")))) (sRet (op2 modI (op2 dAdd (rdB 3) (rdB 4)) (cst (.int 1000)))) sNil) (sSeq (sIf (tst (op2 dEq (rdB 2) (cst (.str "less")))) (sRet (op2 modI (op2 subI (rdB 3) (rdB 4)) (cst (.int 1000)))) sNil) (sSeq (sIf (tst (op2 dEq (rdB 2) (cst (.str "times")))) (sRet (op2 modI (op2 mulI (rdB 3) (rdB 4)) (cst (.int 1000)))) sNil) (sSeq (sIf (tst (op2 dEq (rdB 2) (cst (.str "same")))) (sRet (cal dInt (aCons (op2 dEq (rdB 3) (rdB 4)) aNil))) sNil) (sRet (cal dInt (aCons (op2 ltD (rdB 3) (rdB 4)) aNil))))))))))))
def m_law_cell : List D → R D := runD 2 (sSeq (sIf (tst (op2 dEq (rdB 0) (mkL aNil))) (sRet (op2 mulI (rdB 1) (cst (.int 7919)))) sNil) (sRet (op2 dAdd (op2 dIx (rdB 0) (op2 modI (rdB 1) (cal dLen (aCons (rdB 0) aNil)))) (op2 mulI (op2 divI (rdB 1) (cal dLen (aCons (rdB 0) aNil))) (cst (.int 104729))))))
def m_law_drawn : List D → R D := runD 3 (sSeq (sSet (.one 2) (op2 modI (op2 dAdd (op2 mulI (rdB 0) (cst (.int 6364136223846793005))) (op2 mulI (op2 dAdd (rdB 1) (cst (.int 1))) (cst (.int 1442695040888963407)))) (cst (.int 340282366920938463463374607431768211507)))) (sSeq (sSet (.one 2) (op2 modI (op2 mulI (rdB 2) (rdB 2)) (cst (.int 340282366920938463463374607431768211297)))) (sSeq (sSet (.one 2) (op2 mulI (op2 mulI (op2 dAdd (op2 modI (rdB 2) (cst (.int 18446744073709551557))) (cst (.int 1))) (op2 dAdd (op2 divI (rdB 2) (cst (.int 18446744073709551557))) (cst (.int 1)))) (rdB 2))) (sRet (op2 modI (rdB 2) (cst (.int 340282366920938463463374607431768211507)))))))
def m_law_term : Nat → List D → R D
  | 0 => fun _ => .bad
  | n + 1 => runD 6 (sSeq (sSet (.one 4) (callM 2 m_law_drawn (aCons (callM 2 m_law_cell (aCons (rdS 0) (aCons (rdS 1) aNil))) (aCons (op2 dAdd (rdB 1) (cst (.int 5))) aNil)))) (sSeq (sIf (orT (tst (op2 dEq (rdB 3) (cst (.int 0)))) (tst (op2 ltD (op2 modI (rdB 4) (cst (.int 8))) (cst (.int 4))))) (sSeq (sIf (tst (op2 gtD (op2 modI (rdB 4) (cst (.int 3))) (cst (.int 0)))) (sRet (mkT (aCons (cst (.str "name")) (aCons (op2 dIx (rdB 2) (op2 modI (op2 divI (rdB 4) (cst (.int 8))) (cal dLen (aCons (rdB 2) aNil)))) aNil)))) sNil) (sRet (mkT (aCons (cst (.str "num")) (aCons (op2 dIx (mkL (aCons (cst (.int 0)) (aCons (cst (.int 1)) (aCons (cst (.int 2)) (aCons (cst (.int 3)) (aCons (cst (.int 999)) (aCons (op2 modI (op2 divI (rdB 4) (cst (.int 8))) (cst (.int 1000))) aNil))))))) (op2 modI (op2 divI (rdB 4) (cst (.int 64))) (cst (.int 6)))) aNil))))) sNil) (sSeq (sSet (.one 5) (op2 dIx (mkL (aCons (cst (.str "sum")) (aCons (cst (.str "less")) (aCons (cst (.str "times")) (aCons (cst (.str "same")) (aCons (cst (.str "under")) aNil)))))) (op2 modI (op2 divI (rdB 4) (cst (.int 8))) (cst (.int 5))))) (sRet (mkT (aCons (rdS 5) (aCons (callM 4 (m_law_term n) (aCons (rdS 0) (aCons (op2 dAdd (op2 mulI (cst (.int 3)) (rdB 1)) (cst (.int 1))) (aCons (rdS 2) (aCons (op2 subI (rdB 3) (cst (.int 1))) aNil))))) (aCons (callM 4 (m_law_term n) (aCons (rdS 0) (aCons (op2 dAdd (op2 mulI (cst (.int 3)) (rdB 1)) (cst (.int 2))) (aCons (rdS 2) (aCons (op2 subI (rdB 3) (cst (.int 1))) aNil))))) aNil))))))))
def m_law_value : Nat → List D → R D
  | 0 => fun _ => .bad
  | n + 1 => runD 5 (sSeq (sIf (tst (op2 dEq (op2 dIx (rdB 0) (cst (.int 0))) (cst (.str "num")))) (sRet (op2 dIx (rdB 0) (cst (.int 1)))) sNil) (sSeq (sIf (tst (op2 dEq (op2 dIx (rdB 0) (cst (.int 0))) (cst (.str "name")))) (sRet (get3 (rdB 1) (op2 dIx (rdB 0) (cst (.int 1))) (cst (.int 0)))) sNil) (sSeq (sSet (.tup [2, 3]) (lcD [4] (.one 4) (iSeq (sl3 (rdB 0) (oSome (cst (.int 1))) oNone)) tYesD (callM 2 (m_law_value n) (aCons (rdS 4) (aCons (rdS 1) aNil))))) (sSeq (sIf (tst (op2 dEq (op2 dIx (rdB 0) (cst (.int 0))) (cst (.str "same")))) (sRet (cal dInt (aCons (op2 dEq (rdB 2) (rdB 3)) aNil))) sNil) (sSeq (sIf (tst (op2 dEq (op2 dIx (rdB 0) (cst (.int 0))) (cst (.str "under")))) (sRet (cal dInt (aCons (op2 ltD (rdB 2) (rdB 3)) aNil))) sNil) (sRet (op2 modI (op2 dIx (mkD (pCons (cst (.str "sum")) (op2 dAdd (rdB 2) (rdB 3)) (pCons (cst (.str "less")) (op2 subI (rdB 2) (rdB 3)) (pCons (cst (.str "times")) (op2 mulI (rdB 2) (rdB 3)) pNil)))) (op2 dIx (rdB 0) (cst (.int 0)))) (cst (.int 1000)))))))))
def m_law : List D → R D := runD 7 (sSeq (sFor (.one 1) (iRg1 (aCons (cal dMax2 (aCons (cst (.int 1)) (aCons (cal dMin2 (aCons (cst (.int 6)) (aCons (cal dLen (aCons (rdB 0) aNil)) aNil))) aNil))) aNil)) (sSeq (sSet (.one 2) (callM 2 m_law_drawn (aCons (callM 2 m_law_cell (aCons (rdS 0) (aCons (rdS 1) aNil))) (aCons (rdS 1) aNil)))) (sSeq (sSet (.one 3) (mkD (pCons (cst (.str "a")) (op2 modI (rdB 2) (cst (.int 1000))) (pCons (cst (.str "ab")) (op2 modI (op2 divI (rdB 2) (cst (.int 1024))) (cst (.int 5))) (pCons (cst (.str "b")) (op2 dIx (mkL (aCons (cst (.int 0)) (aCons (cst (.int 999)) (aCons (cst (.int 1)) aNil)))) (op2 modI (op2 divI (rdB 2) (cst (.int 8))) (cst (.int 3)))) pNil))))) (sSeq (sSet (.one 4) (cal dDict (aCons (rdB 3) aNil))) (sSeq (sSet (.one 5) (callM 4 (m_law_term 12) (aCons (rdS 0) (aCons (rdS 1) (aCons (mkL (aCons (cst (.str "a")) (aCons (cst (.str "ab")) (aCons (cst (.str "b")) (aCons (cst (.str "abc")) aNil))))) (aCons (cst (.int 4)) aNil)))))) (sSeq (sSet (.one 6) (callM 2 (m_worth 12) (aCons (rdS 5) (aCons (rdS 4) aNil)))) (sIf (orT (tst (isiD "bool" (rdB 6))) (orT (tst (op2 dNe (rdB 6) (callM 2 (m_law_value 12) (aCons (rdS 5) (aCons (rdS 3) aNil))))) (tst (op2 dNeK (rdB 4) (rdB 3))))) (sRet (cst (.bool false))) sNil))))))) (sRet (cst (.bool true))))
end My

namespace My
open PySem PySem.Spec PyProof.Rows L2 DL
def topS (i : Nat) : Stmt := PySem.Challenge.pw_tellweight_k20_worths.main.body.getD i (.Pass ⟨0, 0, 0, 0⟩)
structure Tx (K : PySem.W.Frag) (mg : MG) : Prop where
  b_bool : mg "bool" = none
  b_dict : mg "dict" = none
  b_int : mg "int" = none
  b_isinstance : mg "isinstance" = none
  b_len : mg "len" = none
  b_max : mg "max" = none
  b_min : mg "min" = none
  b_range : mg "range" = none
  c_REST : GlC K mg "REST" (.int 1000)
  h_worth : Here K mg "worth" "worth" (topS 2) ["term", "names"]
  h_law_cell : Here K mg "_law_cell" "_law_cell" (topS 4) ["_law_script", "_law_k"]
  h_law_drawn : Here K mg "_law_drawn" "_law_drawn" (topS 5) ["_law_cell_here", "_law_k"]
  h_law_term : Here K mg "_law_term" "_law_term" (topS 6) ["_law_script", "_law_k", "_law_names", "_law_deep"]
  h_law_value : Here K mg "_law_value" "_law_value" (topS 7) ["_law_term_here", "_law_names"]
  h_law : Here K mg "law" "law" (topS 8) ["_law_script"]
section
variable {P : Program} {w : World} {K : PySem.W.Frag} {mg : MG} {base : Heap}
abbrev s_worth : Stmt := topS 2
theorem sc_worth : FnScope ["term", "names", "word", "one", "other"] ["term", "names"] (defScope s_worth) := ⟨rfl, rfl, rfl, by decide +kernel, rfl, by decide +kernel, by decide +kernel⟩
theorem dfs_worth (T : Tx K mg) : ∀ n : Nat, DF P w K mg base (0 + n) "worth" 2 (m_worth n)
  | 0 => T.h_worth.none
  | n + 1 => by
    have IH := dfs_worth T n
    have H_worth := IH
    exact T.h_worth.df (k := 0 + n) sc_worth fun f cdv A outer s H E hr => (bd_cons (sd_set (i := 2) sc_worth.nd rfl (Or.inl rfl) (ed_ixG hr (ed_bor 0) (ED.sb ed_int))) (bd_cons (sd_if (td_eq hr (ed_bor 2) (ED.sb ed_str)) (bd_one (sd_ret (ed_ixG hr (ed_bor 0) (ED.sb ed_int)))) bd_nil) (bd_cons (sd_if (td_eq hr (ed_bor 2) (ED.sb ed_str)) (bd_one (sd_ret (ed_get hr (ed_bor 1) (ED.sb (ed_ixG hr (ed_bor 0) (ED.sb ed_int))) ed_int ⟨rfl, rfl, rfl, rfl⟩))) bd_nil) (bd_cons (sd_set (i := 3) sc_worth.nd rfl (Or.inl rfl) (ed_call H_worth (hr.mono (by omega)) tk_of (ad_cons (ed_ixG hr (ed_bor 0) (ED.sb ed_int)) (ad_cons (ed_var 1) ad_nil)))) (bd_cons (sd_set (i := 4) sc_worth.nd rfl (Or.inl rfl) (ed_call H_worth (hr.mono (by omega)) tk_of (ad_cons (ed_ixG hr (ed_bor 0) (ED.sb ed_int)) (ad_cons (ed_var 1) ad_nil)))) (bd_cons (sd_if (td_eq hr (ed_bor 2) (ED.sb ed_str)) (bd_one (sd_ret (ed_mod (ED.sb (ed_add (ed_bor 3) (ed_bor 4))) (ED.sb (ed_gl (by rfl) T.c_REST))))) bd_nil) (bd_cons (sd_if (td_eq hr (ed_bor 2) (ED.sb ed_str)) (bd_one (sd_ret (ed_mod (ED.sb (ed_sub (ed_bor 3) (ed_bor 4))) (ED.sb (ed_gl (by rfl) T.c_REST))))) bd_nil) (bd_cons (sd_if (td_eq hr (ed_bor 2) (ED.sb ed_str)) (bd_one (sd_ret (ed_mod (ED.sb (ed_mul (ed_bor 3) (ed_bor 4))) (ED.sb (ed_gl (by rfl) T.c_REST))))) bd_nil) (bd_cons (sd_if (td_eq hr (ed_bor 2) (ED.sb ed_str)) (bd_one (sd_ret (ed_callTy call_int1 cal_int T.b_int boot_int (ab_cons (ED.sb (ed_eq hr (ed_bor 3) (ed_bor 4))) ab_nil)))) bd_nil) (bd_one (sd_ret (ed_callTy call_int1 cal_int T.b_int boot_int (ab_cons (ED.sb (ed_lt (ed_bor 3) (ed_bor 4))) ab_nil)))))))))))))
theorem df_worth (T : Tx K mg) (n : Nat) : DF P w K mg base (0 + n) "worth" 2 (m_worth n) := (dfs_worth T n)
abbrev s_law_cell : Stmt := topS 4
theorem sc_law_cell : FnScope ["_law_script", "_law_k"] ["_law_script", "_law_k"] (defScope s_law_cell) := ⟨rfl, rfl, rfl, by decide +kernel, rfl, by decide +kernel, by decide +kernel⟩
theorem df_law_cell (T : Tx K mg) : DF P w K mg base 1 "_law_cell" 2 m_law_cell := T.h_law_cell.df (k := 0) sc_law_cell fun f cdv A outer s H E hr => (bd_cons (sd_if (td_eq hr (ed_bor 0) (ED.fb (ed_lst ad_nil))) (bd_one (sd_ret (ed_mul (ed_bor 1) (ED.sb ed_int)))) bd_nil) (bd_one (sd_ret (ed_add (ED.sb (ed_ixG hr (ed_bor 0) (ED.sb (ed_mod (ed_bor 1) (ED.sb (ed_callB call_lenG cal_len T.b_len boot_len (ab_cons (ed_bor 0) ab_nil))))))) (ED.sb (ed_mul (ED.sb (ed_div (ed_bor 1) (ED.sb (ed_callB call_lenG cal_len T.b_len boot_len (ab_cons (ed_bor 0) ab_nil))))) (ED.sb ed_int)))))))
abbrev s_law_drawn : Stmt := topS 5
theorem sc_law_drawn : FnScope ["_law_cell_here", "_law_k", "_law_more"] ["_law_cell_here", "_law_k"] (defScope s_law_drawn) := ⟨rfl, rfl, rfl, by decide +kernel, rfl, by decide +kernel, by decide +kernel⟩
theorem df_law_drawn (T : Tx K mg) : DF P w K mg base 1 "_law_drawn" 2 m_law_drawn := T.h_law_drawn.df (k := 0) sc_law_drawn fun f cdv A outer s H E hr => (bd_cons (sd_set (i := 2) sc_law_drawn.nd rfl (Or.inl rfl) (ed_mod (ED.sb (ed_add (ED.sb (ed_mul (ed_bor 0) (ED.sb ed_int))) (ED.sb (ed_mul (ED.sb (ed_add (ed_bor 1) (ED.sb ed_int))) (ED.sb ed_int))))) (ED.sb ed_int))) (bd_cons (sd_set (i := 2) sc_law_drawn.nd rfl (Or.inl rfl) (ed_mod (ED.sb (ed_mul (ed_bor 2) (ed_bor 2))) (ED.sb ed_int))) (bd_cons (sd_set (i := 2) sc_law_drawn.nd rfl (Or.inl rfl) (ed_mul (ED.sb (ed_mul (ED.sb (ed_add (ED.sb (ed_mod (ed_bor 2) (ED.sb ed_int))) (ED.sb ed_int))) (ED.sb (ed_add (ED.sb (ed_div (ed_bor 2) (ED.sb ed_int))) (ED.sb ed_int))))) (ed_bor 2))) (bd_one (sd_ret (ed_mod (ed_bor 2) (ED.sb ed_int)))))))
abbrev s_law_term : Stmt := topS 6
theorem sc_law_term : FnScope ["_law_script", "_law_k", "_law_names", "_law_deep", "_law_more", "_law_word"] ["_law_script", "_law_k", "_law_names", "_law_deep"] (defScope s_law_term) := ⟨rfl, rfl, rfl, by decide +kernel, rfl, by decide +kernel, by decide +kernel⟩
theorem dfs_law_term (T : Tx K mg) : ∀ n : Nat, DF P w K mg base (1 + n) "_law_term" 4 (m_law_term n)
  | 0 => T.h_law_term.none
  | n + 1 => by
    have IH := dfs_law_term T n
    have H_law_term := IH
    exact T.h_law_term.df (k := 1 + n) sc_law_term fun f cdv A outer s H E hr => (bd_cons (sd_set (i := 4) sc_law_term.nd rfl (Or.inl rfl) (ed_call (df_law_drawn T) (hr.mono (by omega)) tk_of (ad_cons (ed_call (df_law_cell T) (hr.mono (by omega)) tk_of (ad_cons (ed_var 0) (ad_cons (ed_var 1) ad_nil))) (ad_cons (ed_add (ed_bor 1) (ED.sb ed_int)) ad_nil)))) (bd_cons (sd_if (WD.td (wd_or (td_eq hr (ed_bor 3) (ED.sb ed_int)) (wd_or1 (td_lt (ED.sb (ed_mod (ed_bor 4) (ED.sb ed_int))) (ED.sb ed_int))))) (bd_cons (sd_if (td_gt (ED.sb (ed_mod (ed_bor 4) (ED.sb ed_int))) (ED.sb ed_int)) (bd_one (sd_ret (ed_tup (ad_cons ed_str (ad_cons (ed_ixG hr (ed_bor 2) (ED.sb (ed_mod (ED.sb (ed_div (ed_bor 4) (ED.sb ed_int))) (ED.sb (ed_callB call_lenG cal_len T.b_len boot_len (ab_cons (ed_bor 2) ab_nil)))))) ad_nil))))) bd_nil) (bd_one (sd_ret (ed_tup (ad_cons ed_str (ad_cons (ed_ixG hr (ED.fb (ed_lst (ad_cons ed_int (ad_cons ed_int (ad_cons ed_int (ad_cons ed_int (ad_cons ed_int (ad_cons (ed_mod (ED.sb (ed_div (ed_bor 4) (ED.sb ed_int))) (ED.sb ed_int)) ad_nil)))))))) (ED.sb (ed_mod (ED.sb (ed_div (ed_bor 4) (ED.sb ed_int))) (ED.sb ed_int)))) ad_nil)))))) bd_nil) (bd_cons (sd_set (i := 5) sc_law_term.nd rfl (Or.inl rfl) (ed_ixG hr (ED.fb (ed_lst (ad_cons ed_str (ad_cons ed_str (ad_cons ed_str (ad_cons ed_str (ad_cons ed_str ad_nil))))))) (ED.sb (ed_mod (ED.sb (ed_div (ed_bor 4) (ED.sb ed_int))) (ED.sb ed_int))))) (bd_one (sd_ret (ed_tup (ad_cons (ed_var 5) (ad_cons (ed_call H_law_term (hr.mono (by omega)) tk_of (ad_cons (ed_var 0) (ad_cons (ed_add (ED.sb (ed_mul (ED.sb ed_int) (ed_bor 1))) (ED.sb ed_int)) (ad_cons (ed_var 2) (ad_cons (ed_sub (ed_bor 3) (ED.sb ed_int)) ad_nil))))) (ad_cons (ed_call H_law_term (hr.mono (by omega)) tk_of (ad_cons (ed_var 0) (ad_cons (ed_add (ED.sb (ed_mul (ED.sb ed_int) (ed_bor 1))) (ED.sb ed_int)) (ad_cons (ed_var 2) (ad_cons (ed_sub (ed_bor 3) (ED.sb ed_int)) ad_nil))))) ad_nil)))))))))
theorem df_law_term (T : Tx K mg) (n : Nat) : DF P w K mg base (1 + n) "_law_term" 4 (m_law_term n) := (dfs_law_term T n)
abbrev s_law_value : Stmt := topS 7
theorem sc_law_value : FnScope ["_law_term_here", "_law_names", "_law_one", "_law_other", "_law_part"] ["_law_term_here", "_law_names"] (defScope s_law_value) := ⟨rfl, rfl, rfl, by decide +kernel, rfl, by decide +kernel, by decide +kernel⟩
theorem dfs_law_value (T : Tx K mg) : ∀ n : Nat, DF P w K mg base (0 + n) "_law_value" 2 (m_law_value n)
  | 0 => T.h_law_value.none
  | n + 1 => by
    have IH := dfs_law_value T n
    have H_law_value := IH
    exact T.h_law_value.df (k := 0 + n) sc_law_value fun f cdv A outer s H E hr => (bd_cons (sd_if (td_eq hr (ED.sb (ed_ixG hr (ed_bor 0) (ED.sb ed_int))) (ED.sb ed_str)) (bd_one (sd_ret (ed_ixG hr (ed_bor 0) (ED.sb ed_int)))) bd_nil) (bd_cons (sd_if (td_eq hr (ED.sb (ed_ixG hr (ed_bor 0) (ED.sb ed_int))) (ED.sb ed_str)) (bd_one (sd_ret (ed_get hr (ed_bor 1) (ED.sb (ed_ixG hr (ed_bor 0) (ED.sb ed_int))) ed_int ⟨rfl, rfl, rfl, rfl⟩))) bd_nil) (bd_cons (sd_asg (ED.frz (ed_lc rfl sc_law_value.nd (id_seq (fz := false) (ED.sb (ed_slice (ed_bor 0) (od_some (ED.sb ed_int)) od_none))) (blkOk_by (N := ["_law_term_here", "_law_names", "_law_one", "_law_other", "_law_part"]) (sc := defScope s_law_value) (own := [("_law_part", 4)]) (by decide +kernel)) (fun _ _ _ _ _ => (pg_name (i := 4) sc_law_value.nd rfl (Or.inl rfl))) (tg_name 4) rfl (by decide) (fun _ _ _ _ _ => tds_nil) (fun _ _ _ _ _ => (ed_call H_law_value (hr.mono (by omega)) tk_never (ad_cons (ed_var 4) (ad_cons (ed_var 1) ad_nil)))))) (pg_seq rfl (pgs_cons (pg_name (i := 2) sc_law_value.nd rfl (Or.inl rfl)) (pgs_cons (pg_name (i := 3) sc_law_value.nd rfl (Or.inl rfl)) pgs_nil))) (tg_seq (tgs_cons 2 (tgs_cons 3 tgs_nil)))) (bd_cons (sd_if (td_eq hr (ED.sb (ed_ixG hr (ed_bor 0) (ED.sb ed_int))) (ED.sb ed_str)) (bd_one (sd_ret (ed_callTy call_int1 cal_int T.b_int boot_int (ab_cons (ED.sb (ed_eq hr (ed_bor 2) (ed_bor 3))) ab_nil)))) bd_nil) (bd_cons (sd_if (td_eq hr (ED.sb (ed_ixG hr (ed_bor 0) (ED.sb ed_int))) (ED.sb ed_str)) (bd_one (sd_ret (ed_callTy call_int1 cal_int T.b_int boot_int (ab_cons (ED.sb (ed_lt (ed_bor 2) (ed_bor 3))) ab_nil)))) bd_nil) (bd_one (sd_ret (ed_mod (ED.sb (ed_ixG hr (ED.fb (ed_dict (PPD.cons ed_str (ed_add (ed_bor 2) (ed_bor 3)) (PPD.cons ed_str (ed_sub (ed_bor 2) (ed_bor 3)) (PPD.cons ed_str (ed_mul (ed_bor 2) (ed_bor 3)) PPD.nil))))) (ED.sb (ed_ixG hr (ed_bor 0) (ED.sb ed_int))))) (ED.sb ed_int)))))))))
theorem df_law_value (T : Tx K mg) (n : Nat) : DF P w K mg base (0 + n) "_law_value" 2 (m_law_value n) := (dfs_law_value T n)
abbrev s_law : Stmt := topS 8
theorem sc_law : FnScope ["_law_script", "_law_k", "_law_more", "_law_names", "_law_handed", "_law_term_here", "_law_found"] ["_law_script"] (defScope s_law) := ⟨rfl, rfl, rfl, by decide +kernel, rfl, by decide +kernel, by decide +kernel⟩
theorem law_at (T : Tx K mg) {fa : Addr} (hmg : mg "law" = some (.ref fa)) (hl : ∀ ns : List Int, ns.length ≤ 63 → m_law [.list (ns.map .int)] = .ok (.bool true)) : ∃ fd : FuncData, (∀ (s : Shared) (v : Value), BindsTo s fd ⟨[v], []⟩ [("_law_script", v)]) ∧ ∀ base : Heap, K.In base → base.Ns mainGlobals mg → FnOk P w K mg base (L2N.CX P w) 14 fa fd ["_law_script"] (spLaw K) :=
  T.h_law.law (k := 13) hmg sc_law (fun _ _ _ _ _ _ _ => rfl) (fun base f cdv A outer s H E hr => (bd_cons (sd_for hp_of rfl (id_range1 (by rfl) T.b_range (ad_cons (ed_callB (call_max2 rfl) cal_max2 T.b_max boot_max (ab_cons (ED.sb ed_int) (ab_cons (ED.sb (ed_callB (call_min2 rfl) cal_min2 T.b_min boot_min (ab_cons (ED.sb ed_int) (ab_cons (ED.sb (ed_callB call_lenG cal_len T.b_len boot_len (ab_cons (ed_bor 0) ab_nil))) ab_nil)))) ab_nil))) ad_nil)) (pg_name (i := 1) sc_law.nd rfl (Or.inl rfl)) (tg_name 1) (bd_cons (sd_set (i := 2) sc_law.nd rfl (Or.inl rfl) (ed_call (df_law_drawn T) (hr.mono (by decide)) tk_of (ad_cons (ed_call (df_law_cell T) (hr.mono (by decide)) tk_of (ad_cons (ed_var 0) (ad_cons (ed_var 1) ad_nil))) (ad_cons (ed_var 1) ad_nil)))) (bd_cons (sd_set (i := 3) sc_law.nd rfl (Or.inl rfl) (ED.frz (ed_dict (PPD.cons ed_str (ed_mod (ed_bor 2) (ED.sb ed_int)) (PPD.cons ed_str (ed_mod (ED.sb (ed_div (ed_bor 2) (ED.sb ed_int))) (ED.sb ed_int)) (PPD.cons ed_str (ed_ixG hr (ED.fb (ed_lst (ad_cons ed_int (ad_cons ed_int (ad_cons ed_int ad_nil))))) (ED.sb (ed_mod (ED.sb (ed_div (ed_bor 2) (ED.sb ed_int))) (ED.sb ed_int)))) PPD.nil)))))) (bd_cons (sd_set (i := 4) sc_law.nd rfl (Or.inl rfl) (ED.frz (ed_callTy (call_dictG rfl) cal_dict T.b_dict boot_dict (ab_cons (ed_bor 3) ab_nil)))) (bd_cons (sd_set (i := 5) sc_law.nd rfl (Or.inl rfl) (ed_call (df_law_term T 12) (hr.mono (by decide)) tk_of (ad_cons (ed_var 0) (ad_cons (ed_var 1) (ad_cons (ED.frz (ed_lst (ad_cons ed_str (ad_cons ed_str (ad_cons ed_str (ad_cons ed_str ad_nil)))))) (ad_cons ed_int ad_nil)))))) (bd_cons (sd_set (i := 6) sc_law.nd rfl (Or.inl rfl) (ed_call (df_worth T 12) (hr.mono (by decide)) tk_of (ad_cons (ed_var 5) (ad_cons (ed_var 4) ad_nil)))) (bd_one (sd_if (WD.td (wd_or (td_val (ED.sb (ed_isi isi_bool T.b_isinstance T.b_bool boot_bool (ed_bor 6)))) (wd_or (td_ne hr (ed_bor 6) (ED.sb (ed_call (df_law_value T 12) (hr.mono (by decide)) tk_of (ad_cons (ed_var 5) (ad_cons (ed_var 3) ad_nil))))) (wd_or1 (td_neDk hr (ed_bor 4) (ed_bor 3)))))) (bd_one (sd_ret ed_bl)) bd_nil)))))))) (bd_one (sd_ret ed_bl)))) hl
end
theorem tx_mk {K : PySem.W.Frag} {h : Heap} {mg : MG} (X : K.In h) (G : h.Ns mainGlobals mg)
    (z_bool : PySem.W.nsIn K mainGlobals "bool" = some none)
    (z_dict : PySem.W.nsIn K mainGlobals "dict" = some none)
    (z_int : PySem.W.nsIn K mainGlobals "int" = some none)
    (z_isinstance : PySem.W.nsIn K mainGlobals "isinstance" = some none)
    (z_len : PySem.W.nsIn K mainGlobals "len" = some none)
    (z_max : PySem.W.nsIn K mainGlobals "max" = some none)
    (z_min : PySem.W.nsIn K mainGlobals "min" = some none)
    (z_range : PySem.W.nsIn K mainGlobals "range" = some none)
    {t_REST : Tok} (q_REST : PySem.W.nsIn K mainGlobals "REST" = some (some (.int 1000 t_REST)))
    {f_worth : Addr} {od_worth an_worth : Option Addr} {sl_worth : Array (Option Value)} {oc_worth kV_worth dc_worth pm_worth cd_worth ct_worth : Value}
    (a_worth : PySem.W.nsIn K mainGlobals "worth" = some (some (.ref f_worth))) (l_worth : K.lookup f_worth = some ⟨oc_worth, od_worth, .func (PySem.W.fnOf "worth" "worth" (defArgs (topS 2)) (defBody (topS 2)) (defScope (topS 2)) .none kV_worth dc_worth pm_worth an_worth cd_worth ct_worth), sl_worth⟩) (c_worth : PySem.W.codeIn K cd_worth "worth" = true) (k_worth : PySem.W.keepIn K (.ref f_worth) = true)
    {f_law_cell : Addr} {od_law_cell an_law_cell : Option Addr} {sl_law_cell : Array (Option Value)} {oc_law_cell kV_law_cell dc_law_cell pm_law_cell cd_law_cell ct_law_cell : Value}
    (a_law_cell : PySem.W.nsIn K mainGlobals "_law_cell" = some (some (.ref f_law_cell))) (l_law_cell : K.lookup f_law_cell = some ⟨oc_law_cell, od_law_cell, .func (PySem.W.fnOf "_law_cell" "_law_cell" (defArgs (topS 4)) (defBody (topS 4)) (defScope (topS 4)) .none kV_law_cell dc_law_cell pm_law_cell an_law_cell cd_law_cell ct_law_cell), sl_law_cell⟩) (c_law_cell : PySem.W.codeIn K cd_law_cell "_law_cell" = true) (k_law_cell : PySem.W.keepIn K (.ref f_law_cell) = true)
    {f_law_drawn : Addr} {od_law_drawn an_law_drawn : Option Addr} {sl_law_drawn : Array (Option Value)} {oc_law_drawn kV_law_drawn dc_law_drawn pm_law_drawn cd_law_drawn ct_law_drawn : Value}
    (a_law_drawn : PySem.W.nsIn K mainGlobals "_law_drawn" = some (some (.ref f_law_drawn))) (l_law_drawn : K.lookup f_law_drawn = some ⟨oc_law_drawn, od_law_drawn, .func (PySem.W.fnOf "_law_drawn" "_law_drawn" (defArgs (topS 5)) (defBody (topS 5)) (defScope (topS 5)) .none kV_law_drawn dc_law_drawn pm_law_drawn an_law_drawn cd_law_drawn ct_law_drawn), sl_law_drawn⟩) (c_law_drawn : PySem.W.codeIn K cd_law_drawn "_law_drawn" = true) (k_law_drawn : PySem.W.keepIn K (.ref f_law_drawn) = true)
    {f_law_term : Addr} {od_law_term an_law_term : Option Addr} {sl_law_term : Array (Option Value)} {oc_law_term kV_law_term dc_law_term pm_law_term cd_law_term ct_law_term : Value}
    (a_law_term : PySem.W.nsIn K mainGlobals "_law_term" = some (some (.ref f_law_term))) (l_law_term : K.lookup f_law_term = some ⟨oc_law_term, od_law_term, .func (PySem.W.fnOf "_law_term" "_law_term" (defArgs (topS 6)) (defBody (topS 6)) (defScope (topS 6)) .none kV_law_term dc_law_term pm_law_term an_law_term cd_law_term ct_law_term), sl_law_term⟩) (c_law_term : PySem.W.codeIn K cd_law_term "_law_term" = true) (k_law_term : PySem.W.keepIn K (.ref f_law_term) = true)
    {f_law_value : Addr} {od_law_value an_law_value : Option Addr} {sl_law_value : Array (Option Value)} {oc_law_value kV_law_value dc_law_value pm_law_value cd_law_value ct_law_value : Value}
    (a_law_value : PySem.W.nsIn K mainGlobals "_law_value" = some (some (.ref f_law_value))) (l_law_value : K.lookup f_law_value = some ⟨oc_law_value, od_law_value, .func (PySem.W.fnOf "_law_value" "_law_value" (defArgs (topS 7)) (defBody (topS 7)) (defScope (topS 7)) .none kV_law_value dc_law_value pm_law_value an_law_value cd_law_value ct_law_value), sl_law_value⟩) (c_law_value : PySem.W.codeIn K cd_law_value "_law_value" = true) (k_law_value : PySem.W.keepIn K (.ref f_law_value) = true)
    {f_law : Addr} {od_law an_law : Option Addr} {sl_law : Array (Option Value)} {oc_law kV_law dc_law pm_law cd_law ct_law : Value}
    (a_law : PySem.W.nsIn K mainGlobals "law" = some (some (.ref f_law))) (l_law : K.lookup f_law = some ⟨oc_law, od_law, .func (PySem.W.fnOf "law" "law" (defArgs (topS 8)) (defBody (topS 8)) (defScope (topS 8)) .none kV_law dc_law pm_law an_law cd_law ct_law), sl_law⟩) (c_law : PySem.W.codeIn K cd_law "law" = true) (k_law : PySem.W.keepIn K (.ref f_law) = true) : Tx K mg := ⟨PySem.W.mg_none_of X G z_bool,
  PySem.W.mg_none_of X G z_dict,
  PySem.W.mg_none_of X G z_int,
  PySem.W.mg_none_of X G z_isinstance,
  PySem.W.mg_none_of X G z_len,
  PySem.W.mg_none_of X G z_max,
  PySem.W.mg_none_of X G z_min,
  PySem.W.mg_none_of X G z_range,
  GlC.int (PySem.W.mg_of X G q_REST),
  ⟨_, _, PySem.W.mg_of X G a_worth, fun_mk (st := (topS 2)) l_worth c_worth k_worth, (fun_mk (st := (topS 2)) l_worth c_worth k_worth).binds fun _ _ _ _ _ _ us hl => match us, hl with | [_, _], _ => rfl⟩,
  ⟨_, _, PySem.W.mg_of X G a_law_cell, fun_mk (st := (topS 4)) l_law_cell c_law_cell k_law_cell, (fun_mk (st := (topS 4)) l_law_cell c_law_cell k_law_cell).binds fun _ _ _ _ _ _ us hl => match us, hl with | [_, _], _ => rfl⟩,
  ⟨_, _, PySem.W.mg_of X G a_law_drawn, fun_mk (st := (topS 5)) l_law_drawn c_law_drawn k_law_drawn, (fun_mk (st := (topS 5)) l_law_drawn c_law_drawn k_law_drawn).binds fun _ _ _ _ _ _ us hl => match us, hl with | [_, _], _ => rfl⟩,
  ⟨_, _, PySem.W.mg_of X G a_law_term, fun_mk (st := (topS 6)) l_law_term c_law_term k_law_term, (fun_mk (st := (topS 6)) l_law_term c_law_term k_law_term).binds fun _ _ _ _ _ _ us hl => match us, hl with | [_, _, _, _], _ => rfl⟩,
  ⟨_, _, PySem.W.mg_of X G a_law_value, fun_mk (st := (topS 7)) l_law_value c_law_value k_law_value, (fun_mk (st := (topS 7)) l_law_value c_law_value k_law_value).binds fun _ _ _ _ _ _ us hl => match us, hl with | [_, _], _ => rfl⟩,
  ⟨_, _, PySem.W.mg_of X G a_law, fun_mk (st := (topS 8)) l_law c_law k_law, (fun_mk (st := (topS 8)) l_law c_law k_law).binds fun _ _ _ _ _ _ us hl => match us, hl with | [_], _ => rfl⟩⟩
end My

/-! words for reckoning with mirrors -/
namespace DL
open PySem
section
variable {ρ : En} {i : Nat} {d x y : D} {a b : Int} {s t : Option SV}
@[simp] theorem runD1 {g : En → SO} {n : Nat} {a : D} : runD n g [a] = soR (g (some (.sh a) :: List.replicate (n - 1) none)) := rfl
@[simp] theorem runD2 {g : En → SO} {n : Nat} {a b : D} : runD n g [a, b] = soR (g (some (.sh a) :: some (.sh b) :: List.replicate (n - 2) none)) := rfl
@[simp] theorem runD3 {g : En → SO} {n : Nat} {a b c : D} : runD n g [a, b, c] = soR (g (some (.sh a) :: some (.sh b) :: some (.sh c) :: List.replicate (n - 3) none)) := rfl
@[simp] theorem runD4 {g : En → SO} {n : Nat} {a b c e : D} : runD n g [a, b, c, e] = soR (g (some (.sh a) :: some (.sh b) :: some (.sh c) :: some (.sh e) :: List.replicate (n - 4) none)) := rfl
@[simp] theorem runD5 {g : En → SO} {n : Nat} {a b c e f : D} : runD n g [a, b, c, e, f] = soR (g (some (.sh a) :: some (.sh b) :: some (.sh c) :: some (.sh e) :: some (.sh f) :: List.replicate (n - 5) none)) := rfl
@[simp] theorem soR_rt : soR (.rt d) = .ok d := rfl
@[simp] theorem soR_nx : soR (.nx ρ) = .ok .none := rfl
@[simp] theorem soR_exc {c : String} : soR (.exc c) = .exc c := rfl
@[simp] theorem sSeq_eq {f g : En → SO} : sSeq f g ρ = match f ρ with | .nx ρ' => g ρ' | o => o := rfl
@[simp] theorem sSet_eq {t : Tg} {g : En → R D} : sSet t g ρ = ((g ρ).bind fun d => (R.opt (t.put d ρ)).bind fun ρ' => .ok (.nx ρ')).so := rfl
@[simp] theorem sSetO_eq {g : En → R D} : sSetO i g ρ = ((g ρ).bind fun d => .ok (.nx (ρ.set i (some (.ow d))))).so := rfl
@[simp] theorem put_one : Tg.put (.one i) d ρ = some (ρ.set i (some (.sh d))) := rfl
@[simp] theorem put_tupT {is : List Nat} {ds : List D} : Tg.put (.tup is) (.tuple ds) ρ = setAll is ds ρ := rfl
@[simp] theorem put_tupL {is : List Nat} {ds : List D} : Tg.put (.tup is) (.list ds) ρ = setAll is ds ρ := rfl
@[simp] theorem setAll_nil : setAll [] [] ρ = some ρ := rfl
@[simp] theorem setAll_cons {is : List Nat} {ds : List D} : setAll (i :: is) (d :: ds) ρ = setAll is ds (ρ.set i (some (.sh d))) := rfl
@[simp] theorem sRet_eq {g : En → R D} : sRet g ρ = ((g ρ).bind fun d => .ok (.rt d)).so := rfl
@[simp] theorem sIf_eq {t : En → R Bool} {f g : En → SO} : sIf t f g ρ = ((t ρ).bind fun c => .ok (if c = true then f ρ else g ρ)).so := rfl
@[simp] theorem sNil_eq : sNil ρ = .nx ρ := rfl
@[simp] theorem sPar_eq {j : Nat} {f g : En → R D} : sPar i j f g ρ = ((f ρ).bind fun a => (g ρ).bind fun b => .ok (.nx ((ρ.set i (some (.sh a))).set j (some (.sh b))))).so := rfl
@[simp] theorem sFor_eq {t : Tg} {gi : En → R (List D)} {g : En → SO} : sFor t gi g ρ = ((gi ρ).bind fun ds => .ok (forG t g ds ρ)).so := rfl
@[simp] theorem sFrz_eq {g : En → SO} : sFrz i g ρ = g (frz i ρ) := rfl
@[simp] theorem sDrop_eq {g : En → R D} : sDrop g ρ = ((g ρ).bind fun _ => .ok (.nx ρ)).so := rfl
@[simp] theorem rdS0 : rdS 0 (some (.sh d) :: ρ) = .ok d := rfl
@[simp] theorem rdSs : rdS (i + 1) (s :: ρ) = rdS i ρ := rfl
@[simp] theorem rdB0 : rdB 0 (some (.sh d) :: ρ) = .ok d := rfl
@[simp] theorem rdB0o : rdB 0 (some (.ow d) :: ρ) = .ok d := rfl
@[simp] theorem rdBs : rdB (i + 1) (s :: ρ) = rdB i ρ := rfl
@[simp] theorem cst_eq : cst d ρ = .ok d := rfl
@[simp] theorem op2_eq {f : D → D → Option D} {ga gb : En → R D} : op2 f ga gb ρ = (ga ρ).bind fun x => (gb ρ).bind fun y => R.opt (f x y) := rfl
@[simp] theorem tst_eq {g : En → R D} : tst g ρ = (g ρ).bind asB := rfl
@[simp] theorem asB_eq {b : Bool} : asB (.bool b) = .ok b := rfl
@[simp] theorem andT_eq {f g : En → R Bool} : andT f g ρ = (f ρ).bind fun c => if c = true then g ρ else .ok false := rfl
@[simp] theorem orT_eq {f g : En → R Bool} : orT f g ρ = (f ρ).bind fun c => if c = true then .ok true else g ρ := rfl
@[simp] theorem notT_eq {f : En → R Bool} : notT f ρ = (f ρ).bind fun c => .ok (!c) := rfl
@[simp] theorem andV_eq {f g : En → R D} : andV f g ρ = (f ρ).bind fun d => (asB d).bind fun c => if c = true then g ρ else .ok (.bool false) := rfl
@[simp] theorem orV_eq {f g : En → R D} : orV f g ρ = (f ρ).bind fun d => (asB d).bind fun c => if c = true then .ok (.bool true) else g ρ := rfl
@[simp] theorem notV_eq {f : En → R D} : notV f ρ = (f ρ).bind fun d => (asB d).bind fun c => .ok (.bool (!c)) := rfl
@[simp] theorem iteV_eq {t : En → R Bool} {f g : En → R D} : iteV t f g ρ = (t ρ).bind fun c => if c = true then f ρ else g ρ := rfl
@[simp] theorem aNil_eq : aNil ρ = .ok [] := rfl
@[simp] theorem aCons_eq {g : En → R D} {r : En → R (List D)} : aCons g r ρ = (g ρ).bind fun d => (r ρ).bind fun ds => .ok (d :: ds) := rfl
@[simp] theorem mkT_eq {r : En → R (List D)} : mkT r ρ = (r ρ).bind fun ds => if ds.length ≤ LIM then .ok (.tuple ds) else .bad := rfl
@[simp] theorem mkL_eq {r : En → R (List D)} : mkL r ρ = (r ρ).bind fun ds => if ds.length ≤ LIM then .ok (.list ds) else .bad := rfl
@[simp] theorem cal_eq {f : List D → Option D} {r : En → R (List D)} : cal f r ρ = (r ρ).bind fun ds => R.opt (f ds) := rfl
@[simp] theorem callM_eq {n : Nat} {fn : List D → R D} {r : En → R (List D)} : callM n fn r ρ = (r ρ).bind (callD n fn) := rfl
@[simp] theorem callD_eq {n : Nat} {fn : List D → R D} {ds : List D} : callD n fn ds = if ds.length = n then fn ds else .bad := rfl
@[simp] theorem sl3_eq {g : En → R D} {gl gh : En → R (Option Int)} : sl3 g gl gh ρ = (g ρ).bind fun x => (gl ρ).bind fun l => (gh ρ).bind fun h => R.opt (dSl x l h) := rfl
@[simp] theorem oNone_eq : oNone ρ = .ok none := rfl
@[simp] theorem asI_eq : asI (.int a) = .ok (some a) := rfl
@[simp] theorem get3_eq {ga gk gf : En → R D} : get3 ga gk gf ρ = (ga ρ).bind fun d => match d with | .dict kvs => (gk ρ).bind fun k => (gf ρ).bind fun z => R.opt (dGet (.dict kvs) k z) | _ => .bad := rfl
@[simp] theorem idx2_eq {ga gk : En → R D} : idx2 ga gk ρ = (ga ρ).bind fun d => match d with | .list ds => (gk ρ).bind fun k => R.opt (dIndex (.list ds) k) | _ => .bad := rfl
@[simp] theorem mkD_eq {r : En → R (List (D × D))} : mkD r ρ = (r ρ).bind fun ps => if ps.length ≤ 15 then .ok (.dict (mergeD [] ps)) else .bad := rfl
@[simp] theorem pNil_eq : pNil ρ = .ok [] := rfl
@[simp] theorem pCons_eq {gk gv : En → R D} {r : En → R (List (D × D))} : pCons gk gv r ρ = (gk ρ).bind fun k => match toK k with | some _ => (gv ρ).bind fun v => (r ρ).bind fun ps => .ok ((k, v) :: ps) | none => .bad := rfl
@[simp] theorem iSeq_eq {g : En → R D} : iSeq g ρ = (g ρ).bind itL := rfl
@[simp] theorem itL_l {ds : List D} : itL (.list ds) = .ok ds := rfl
@[simp] theorem itL_t {ds : List D} : itL (.tuple ds) = .ok ds := rfl
@[simp] theorem onlyL_l {ds : List D} : onlyL (.list ds) = .ok ds := rfl
@[simp] theorem forG_nil {t : Tg} {g : En → SO} : forG t g [] ρ = .nx ρ := rfl
@[simp] theorem tYes_eq : tYesD ρ = .ok true := rfl
@[simp] theorem iop_eq {C : Int → Int → Bool} {f : Int → Int → Int} : iop C f (.int a) (.int b) = if C a b = true then some (.int (f a b)) else none := rfl
@[simp] theorem bop_eq {f : Int → Int → Bool} : bop f (.int a) (.int b) = some (.bool (f a b)) := rfl
@[simp] theorem dAdd_i : dAdd (.int a) (.int b) = some (.int (a + b)) := rfl
@[simp] theorem dAdd_l {xs ys : List D} : dAdd (.list xs) (.list ys) = if xs.length + ys.length ≤ LIM then some (.list (xs ++ ys)) else none := rfl
@[simp] theorem dAdd_t {xs ys : List D} : dAdd (.tuple xs) (.tuple ys) = if xs.length + ys.length ≤ LIM then some (.tuple (xs ++ ys)) else none := rfl
@[simp] theorem always_eq : always a b = true := rfl
@[simp] theorem dInt_i : dInt [.int a] = some (.int a) := rfl
@[simp] theorem dInt_b {b : Bool} : dInt [.bool b] = some (.int (if b = true then 1 else 0)) := rfl
@[simp] theorem dLen_l {ds : List D} : dLen [.list ds] = some (.int ds.length) := rfl
@[simp] theorem dLen_t {ds : List D} : dLen [.tuple ds] = some (.int ds.length) := rfl
@[simp] theorem dMax2_i : dMax2 [.int a, .int b] = some (.int (if b > a then b else a)) := rfl
@[simp] theorem dMin2_i : dMin2 [.int a, .int b] = some (.int (if b < a then b else a)) := rfl
@[simp] theorem dIx_l {ds : List D} : dIx (.list ds) (.int a) = L2.atI ds a := rfl
@[simp] theorem dIx_t {ds : List D} : dIx (.tuple ds) (.int a) = L2.atI ds a := rfl
theorem lim_le {n : Nat} (h : n ≤ 1000) : n ≤ LIM := Nat.le_trans h (by decide)
end
/-! ### sizes of ints -/
@[simp] theorem cMul_r {i j : Int} (h : j.natAbs < 18446744073709551616) : cMul i j = true := by simp [cMul, h]
@[simp] theorem cMul_l {i j : Int} (h : i.natAbs < 18446744073709551616) : cMul i j = true := by simp [cMul, h]
theorem cMul_b {i j : Int} {a b : Nat} (ha : i.natAbs < 2 ^ a) (hb : j.natAbs < 2 ^ b) (h0 : 0 < a) (h1 : 0 < b) (h : a + b ≤ 1000000) : cMul i j = true := by
  have := L2.wide_mul ha hb h0 h1 h
  unfold L2.CMulW at this
  simp [cMul, this]
@[simp] theorem cPos_of {i j : Int} (h : 0 < j) : cPos i j = true := by simp [cPos, h]
theorem cDiv_of {i j : Int} {b : Nat} (h : 0 < j) (hb : j.natAbs < 2 ^ b) (h0 : 0 < b) (h9 : b ≤ 9000) : cDiv i j = true := by
  have := (L2.wide_div (i := i) h hb h0 h9).2
  simp [cDiv, h, this]
@[simp] theorem cDiv_s {i j : Int} (h : 0 < j) (h2 : j.natAbs < 1606938044258990275541962092341162602522202993782792835301376) : cDiv i j = true := cDiv_of (b := 200) h h2 (by decide) (by decide)
/-! ### equality of data -/
theorem canLay_ints : ∀ ns : List Int, PyData.canLayAll0 (ns.map PyData.int) = true
  | [] => rfl
  | n :: ns => by simp [PyData.canLayAll0, PyData.canLay0, canLay_ints ns]
theorem depth_ints : ∀ ns : List Int, PyData.depthAll (ns.map PyData.int) = 0
  | [] => rfl
  | n :: ns => by simp [PyData.depthAll, PyData.depth, depth_ints ns]
@[simp] theorem shaped_int (a : Int) : SeqAt.shaped (.int a) = true := rfl
@[simp] theorem shaped_bool (a : Bool) : SeqAt.shaped (.bool a) = true := rfl
@[simp] theorem shaped_none : SeqAt.shaped .none = true := rfl
@[simp] theorem shaped_ints (ns : List Int) : SeqAt.shaped (.list (ns.map .int)) = true := by
  simp [SeqAt.shaped, PyData.canLay0, canLay_ints, PyData.depth, depth_ints]
@[simp] theorem shaped_tints (ns : List Int) : SeqAt.shaped (.tuple (ns.map .int)) = true := by
  simp [SeqAt.shaped, PyData.canLay0, canLay_ints, PyData.depth, depth_ints]
@[simp] theorem shaped_nil : SeqAt.shaped (.list []) = true := rfl
@[simp] theorem shaped_nilT : SeqAt.shaped (.tuple []) = true := rfl
@[simp] theorem eqv_int (a b : Int) : PyData.eqv (.int a) (.int b) = (a == b) := rfl
@[simp] theorem eqv_str (a b : Str) : PyData.eqv (.str a) (.str b) = (a == b) := rfl
@[simp] theorem eqv_bool (a b : Bool) : PyData.eqv (.bool a) (.bool b) = (a == b) := rfl
@[simp] theorem eqv_list (a b : List D) : PyData.eqv (.list a) (.list b) = PyData.eqvAll a b := rfl
@[simp] theorem eqv_tuple (a b : List D) : PyData.eqv (.tuple a) (.tuple b) = PyData.eqvAll a b := rfl
@[simp] theorem eqvAll_nil : PyData.eqvAll [] [] = true := rfl
@[simp] theorem eqvAll_cons (a b : D) (r t : List D) : PyData.eqvAll (a :: r) (b :: t) = (PyData.eqv a b && PyData.eqvAll r t) := rfl
@[simp] theorem eqvAll_nc (a : D) (r : List D) : PyData.eqvAll [] (a :: r) = false := rfl
@[simp] theorem eqvAll_cn (a : D) (r : List D) : PyData.eqvAll (a :: r) [] = false := rfl
@[simp] theorem eqvAll_ints_nil : ∀ ns : List Int, PyData.eqvAll (ns.map PyData.int) [] = decide (ns = [])
  | [] => rfl
  | _ :: _ => rfl
theorem eqvAll_ints : ∀ ns ms : List Int, PyData.eqvAll (ns.map PyData.int) (ms.map PyData.int) = decide (ns = ms)
  | [], [] => rfl
  | [], _ :: _ => rfl
  | _ :: _, [] => rfl
  | n :: ns, m :: ms => by
    rw [List.map_cons, List.map_cons, eqvAll_cons, eqvAll_ints ns ms, eqv_int]
    by_cases h : n = m <;> simp [h]
theorem ofString_inj {a b : String} : Str.ofString a = Str.ofString b ↔ a = b := by
  refine ⟨fun h => ?_, fun h => by rw [h]⟩
  rw [Str.ofString_eq_toList, Str.ofString_eq_toList] at h
  injection h with h
  have h2 : a.toList.map Char.toNat = b.toList.map Char.toNat := by simpa using congrArg Array.toList h
  have h3 : ∀ l m : List Char, l.map Char.toNat = m.map Char.toNat → l = m := by
    intro l
    induction l with
    | nil => intro m h; cases m with | nil => rfl | cons _ _ => cases h
    | cons c l ih =>
      intro m h
      cases m with
      | nil => cases h
      | cons e m =>
        rw [List.map_cons, List.map_cons] at h
        injection h with q1 q2
        have q3 : c = e := Char.ext (UInt32.toNat_inj.mp q1)
        rw [q3, ih m q2]
  exact String.toList_inj.mp (h3 _ _ h2)
@[simp] theorem beq_ofString (a b : String) : (Str.ofString a == Str.ofString b) = decide (a = b) := by
  by_cases h : a = b
  · subst h; simp
  · have : Str.ofString a ≠ Str.ofString b := fun z => h (ofString_inj.mp z)
    simp [h, this]
@[simp] theorem eq_ofString (a b : String) : (Str.ofString a = Str.ofString b) = (a = b) := propext ofString_inj
theorem strOk_ofString (l : String) : PyData.strOk (Str.ofString l) = true := by
  rw [Str.ofString_eq_toList]
  simp only [PyData.strOk, List.all_toArray, List.all_map, List.all_eq_true, Function.comp, decide_eq_true_eq]
  intro c _
  have := c.valid
  have h : c.toNat = c.val.toNat := rfl
  rcases this with h1 | h1
  · omega
  · omega
@[simp] theorem shaped_str (l : String) : SeqAt.shaped (.str (Str.ofString l)) = true := by
  simp [SeqAt.shaped, PyData.canLay0, PyData.depth, strOk_ofString]
@[simp] theorem atI_0 {α : Type} (x : α) (r : List α) : L2.atI (x :: r) 0 = some x := L2.atI_nat (j := 0) rfl
@[simp] theorem atI_1 {α : Type} (x y : α) (r : List α) : L2.atI (x :: y :: r) 1 = some y := L2.atI_nat (j := 1) rfl
@[simp] theorem atI_2 {α : Type} (x y z : α) (r : List α) : L2.atI (x :: y :: z :: r) 2 = some z := L2.atI_nat (j := 2) rfl
@[simp] theorem atI_3 {α : Type} (x y z u : α) (r : List α) : L2.atI (x :: y :: z :: u :: r) 3 = some u := L2.atI_nat (j := 3) rfl
theorem dEq_of {x y : D} (hx : SeqAt.shaped x = true) (hy : SeqAt.shaped y = true) : dEq x y = some (.bool (PyData.eqv x y)) := if_pos ⟨hx, hy⟩
theorem dNe_of {x y : D} (hx : SeqAt.shaped x = true) (hy : SeqAt.shaped y = true) : dNe x y = some (.bool (!PyData.eqv x y)) := if_pos ⟨hx, hy⟩
@[simp] theorem dEq_eq {x y : D} : dEq x y = if SeqAt.shaped x = true ∧ SeqAt.shaped y = true then some (.bool (PyData.eqv x y)) else none := rfl
@[simp] theorem dNe_eq {x y : D} : dNe x y = if SeqAt.shaped x = true ∧ SeqAt.shaped y = true then some (.bool (!PyData.eqv x y)) else none := rfl
theorem atI_n {α : Type} {l : List α} {k : Int} (h0 : 0 ≤ k) (h1 : k < l.length) : L2.atI l k = l[k.toNat]? := by
  unfold L2.atI L2.ixN
  rw [if_pos h0, if_pos h1]; rfl
/-! ### the law's cells -/
def cellF (ns : List Int) (k : Int) : Int := if ns = [] then k * 7919 else (ns[(k % (ns.length : Int)).toNat]?).getD 0 + k / (ns.length : Int) * 104729
def drawn (c k : Int) : Int :=
  let m1 := (c * 6364136223846793005 + (k + 1) * 1442695040888963407) % 340282366920938463463374607431768211507
  let m2 := m1 * m1 % 340282366920938463463374607431768211297
  let m3 := (m2 % 18446744073709551557 + 1) * (m2 / 18446744073709551557 + 1) * m2
  m3 % 340282366920938463463374607431768211507
theorem drawn_nn (c k : Int) : 0 ≤ drawn c k := by
  unfold drawn
  exact Int.emod_nonneg _ (by decide)
theorem drawn_lt (c k : Int) : drawn c k < 340282366920938463463374607431768211507 := by
  unfold drawn
  exact Int.emod_lt_of_pos _ (by decide)
end DL

namespace DL
open PySem
section
variable {ρ : En} {i : Nat} {d x y : D} {a b : Int} {s t : Option SV}
@[simp] theorem lcD_eq {vs : List Nat} {t : Tg} {gi : En → R (List D)} {gt : En → R Bool} {ge : En → R D} : lcD vs t gi gt ge ρ = (gi ρ).bind fun ds => if ds.length ≤ LIM then (lcG vs t gt ge ρ ds).bind fun xs => .ok (.list xs) else .bad := rfl
@[simp] theorem lcG_nil {vs : List Nat} {t : Tg} {gt : En → R Bool} {ge : En → R D} : lcG vs t gt ge ρ [] = .ok [] := rfl
@[simp] theorem lcG_cons {vs : List Nat} {t : Tg} {gt : En → R Bool} {ge : En → R D} {ds : List D} : lcG vs t gt ge ρ (d :: ds) = (R.opt (t.put d (wipeE ρ vs))).bind fun ρ1 => ((gt ρ1).noX).bind fun b =>
    if b = true then ((ge ρ1).noX).bind fun x => (lcG vs t gt ge ρ ds).bind fun xs => .ok (x :: xs) else lcG vs t gt ge ρ ds := rfl
@[simp] theorem wipeE_nil : wipeE ρ [] = ρ := rfl
@[simp] theorem wipeE_cons {vs : List Nat} : wipeE ρ (i :: vs) = (wipeE ρ vs).set i none := rfl
@[simp] theorem toK_str {x : Str} : toK (.str x) = some (.inr x) := rfl
@[simp] theorem toK_int {x : Int} : toK (.int x) = some (.inl x) := rfl
@[simp] theorem keyEq_str {x y : Str} : keyEq (.str x) (.str y) = (x == y) := rfl
@[simp] theorem keyEq_int {x y : Int} : keyEq (.int x) (.int y) = (x == y) := rfl
@[simp] theorem keyEq_is {x : Int} {y : Str} : keyEq (.int x) (.str y) = false := rfl
@[simp] theorem keyEq_si {x : Str} {y : Int} : keyEq (.str x) (.int y) = false := rfl
@[simp] theorem dIx_ds {kvs : List (D × D)} {x : Str} : dIx (.dict kvs) (.str x) = dLook kvs (.str x) := rfl
@[simp] theorem dIx_di {kvs : List (D × D)} {x : Int} : dIx (.dict kvs) (.int x) = dLook kvs (.int x) := rfl
@[simp] theorem dLook_nil {k : D} : dLook [] k = none := rfl
@[simp] theorem dLook_cons {k k2 v : D} {r : List (D × D)} : dLook ((k2, v) :: r) k = if keyEq k2 k = true then some v else dLook r k := by
  unfold dLook
  rw [List.find?_cons]
  cases h : keyEq k2 k <;> simp [h]
@[simp] theorem mergeD_nil {kvs : List (D × D)} : mergeD kvs [] = kvs := rfl
@[simp] theorem mergeD_cons {kvs r : List (D × D)} {k v : D} : mergeD kvs ((k, v) :: r) = mergeD (dPut kvs k v) r := rfl
@[simp] theorem dPut_nil {k v : D} : dPut [] k v = [(k, v)] := rfl
theorem dPut_cons {k v k2 v2 : D} {r : List (D × D)} (h : keyEq k2 k = false) : dPut ((k2, v2) :: r) k v = (k2, v2) :: dPut r k v := by
  unfold dPut
  rw [List.any_cons, h, Bool.false_or]
  split
  · simp [h]
  · rfl
@[simp] theorem dPut_cs {v v2 : D} {x y : Str} {r : List (D × D)} (h : ¬ y = x) : dPut ((.str y, v2) :: r) (.str x) v = (.str y, v2) :: dPut r (.str x) v := dPut_cons (by simp [h])
@[simp] theorem dSl_l {ds : List D} {lo hi : Option Int} : dSl (.list ds) lo hi = some (.list (cutA ds lo hi)) := rfl
@[simp] theorem dSl_t {ds : List D} {lo hi : Option Int} : dSl (.tuple ds) lo hi = some (.tuple (cutA ds lo hi)) := rfl
@[simp] theorem cut1 {α : Type} {x : α} {r : List α} : cutA (x :: r) (some 1) none = r := by
  unfold cutA
  rw [show HT.sIx (x :: r).length 0 (some 1) = 1 from (HT.sIx_nat _ _ 1).trans (by rw [List.length_cons]; omega)]
  simp [HT.sIx]
@[simp] theorem oSome_eq {g : En → R D} : oSome g ρ = (g ρ).bind asI := rfl
@[simp] theorem isiD_eq {T : String} {g : En → R D} : isiD T g ρ = (g ρ).bind fun d => .ok (.bool (isT T (tyN d))) := rfl
@[simp] theorem isT_bi : isT "bool" (tyN (.int a)) = false := by
  show isT "bool" "int" = false
  decide
end
end DL

namespace My
open PySem DL
theorem bd_mod {x p : Int} {b : Nat} (hp : 0 < p) (hb : p ≤ 2 ^ b) : (x % p).natAbs < 2 ^ b := by
  have h1 := Int.emod_nonneg x (show p ≠ 0 by omega)
  have h2 := Int.emod_lt_of_pos x hp
  have : (x % p) < ((2 ^ b : Nat) : Int) := by
    have : ((2 ^ b : Nat) : Int) = (2 : Int) ^ b := by simp
    omega
  omega
theorem law_drawn_ok (c k : Int) : m_law_drawn [.int c, .int k] = .ok (.int (drawn c k)) := by
  unfold m_law_drawn drawn
  generalize e1 : (c * 6364136223846793005 + (k + 1) * 1442695040888963407) % 340282366920938463463374607431768211507 = m1
  have b1 : m1.natAbs < 2 ^ 129 := by rw [← e1]; exact bd_mod (by decide) (by decide)
  generalize e2 : m1 * m1 % 340282366920938463463374607431768211297 = m2
  have b2 : m2.natAbs < 2 ^ 129 := by rw [← e2]; exact bd_mod (by decide) (by decide)
  have b2n : 0 ≤ m2 := by rw [← e2]; exact Int.emod_nonneg _ (by decide)
  have b3 : (m2 % 18446744073709551557 + 1).natAbs < 2 ^ 65 := by
    have h1 := Int.emod_nonneg m2 (show (18446744073709551557 : Int) ≠ 0 by decide)
    have h2 := Int.emod_lt_of_pos m2 (show (0 : Int) < 18446744073709551557 by decide)
    omega
  have b4 : (m2 / 18446744073709551557 + 1).natAbs < 2 ^ 130 := by omega
  have c1 : cMul m1 m1 = true := cMul_b b1 b1 (by decide) (by decide) (by decide)
  have c2 : cMul (m2 % 18446744073709551557 + 1) (m2 / 18446744073709551557 + 1) = true := cMul_b b3 b4 (by decide) (by decide) (by decide)
  have c3 : cMul ((m2 % 18446744073709551557 + 1) * (m2 / 18446744073709551557 + 1)) m2 = true := cMul_b (L2.wide_lt b3 b4) b2 (by decide) (by decide) (by decide)
  simp [e1, c1, e2, c2, c3]
theorem law_cell_ok (ns : List Int) (k : Int) (hl : ns.length ≤ 63) : m_law_cell [.list (ns.map .int), .int k] = .ok (.int (cellF ns k)) := by
  unfold m_law_cell cellF
  by_cases h : ns = []
  · subst h; simp
  · have hp : 0 < (ns.length : Int) := by
      have := List.length_pos_iff.mpr h
      omega
    have h1 := Int.emod_nonneg k (show (ns.length : Int) ≠ 0 by omega)
    have h2 := Int.emod_lt_of_pos k hp
    have h3 : L2.atI (ns.map PyData.int) (k % (ns.length : Int)) = some (.int ((ns[(k % (ns.length : Int)).toNat]?).getD 0)) := by
      rw [atI_n h1 (by simpa using h2), List.getElem?_map, List.getElem?_eq_getElem (by omega)]; rfl
    have h4 : cDiv k (ns.length : Int) = true := cDiv_of (b := 64) hp (by omega) (by decide) (by decide)
    have h5 : cPos k (ns.length : Int) = true := cPos_of hp
    simp [h, h3, h4, h5]
/-! ### terms -/
inductive Op5 | sum | less | times | same | under
def Op5.w : Op5 → Str
  | .sum => "sum"
  | .less => "less"
  | .times => "times"
  | .same => "same"
  | .under => "under"
def Op5.f : Op5 → Int → Int → Int
  | .sum, a, b => (a + b) % 1000
  | .less, a, b => (a - b) % 1000
  | .times, a, b => a * b % 1000
  | .same, a, b => if a = b then 1 else 0
  | .under, a, b => if a < b then 1 else 0
inductive Tm where
  | num (n : Int)
  | name (x : Str)
  | bin (o : Op5) (a b : Tm)
def Tm.d : Tm → D
  | .num n => .tuple [.str "num", .int n]
  | .name x => .tuple [.str "name", .str x]
  | .bin o a b => .tuple [.str o.w, a.d, b.d]
def Tm.dep : Tm → Nat
  | .bin _ a b => max a.dep b.dep + 1
  | _ => 0
def Tm.val (e : Str → Int) : Tm → Int
  | .num n => n
  | .name x => e x
  | .bin o a b => o.f (a.val e) (b.val e)
def Tm.wf : Tm → Prop
  | .num n => 0 ≤ n ∧ n < 1000
  | .name _ => True
  | .bin _ a b => a.wf ∧ b.wf
theorem op5_rng (o : Op5) (a b : Int) : 0 ≤ o.f a b ∧ o.f a b < 1000 := by
  cases o <;> simp only [Op5.f]
  · exact ⟨Int.emod_nonneg _ (by decide), Int.emod_lt_of_pos _ (by decide)⟩
  · exact ⟨Int.emod_nonneg _ (by decide), Int.emod_lt_of_pos _ (by decide)⟩
  · exact ⟨Int.emod_nonneg _ (by decide), Int.emod_lt_of_pos _ (by decide)⟩
  · split <;> omega
  · split <;> omega
theorem val_rng {e : Str → Int} (he : ∀ x, 0 ≤ e x ∧ e x < 1000) : ∀ {t : Tm}, t.wf → 0 ≤ t.val e ∧ t.val e < 1000
  | .num _, h => h
  | .name x, _ => he x
  | .bin o _ _, _ => op5_rng o _ _
/-- a dict of ints, by names -/
def intEnv (kvs : List (D × D)) (e : Str → Int) : Prop := ∀ x : Str, (dLook kvs (.str x)).getD (.int 0) = .int (e x)
theorem dGet_env {kvs : List (D × D)} {e : Str → Int} (h : intEnv kvs e) (x : Str) : dGet (.dict kvs) (.str x) (.int 0) = some (.int (e x)) := by
  show some ((dLook kvs (.str x)).getD (.int 0)) = _
  rw [h x]
theorem worth_ok {kvs : List (D × D)} {e : Str → Int} (h : intEnv kvs e) (he : ∀ x, 0 ≤ e x ∧ e x < 1000) : ∀ (t : Tm) (n : Nat), t.wf → t.dep < n → m_worth n [t.d, .dict kvs] = .ok (.int (t.val e))
  | .num k, n + 1, _, _ => by
    unfold m_worth
    simp [Tm.d, Tm.val]
  | .name x, n + 1, _, _ => by
    unfold m_worth
    simp [Tm.d, Tm.val, dGet_env h x]
  | .bin o a b, n + 1, hw, hd => by
    have ha := worth_ok h he a n hw.1 (by simp only [Tm.dep] at hd; omega)
    have hb := worth_ok h he b n hw.2 (by simp only [Tm.dep] at hd; omega)
    have ra := val_rng he hw.1
    have rb := val_rng he hw.2
    unfold m_worth
    cases o
    · simp [Tm.d, Tm.val, ha, hb, Op5.w, Op5.f]
    · simp [Tm.d, Tm.val, ha, hb, Op5.w, Op5.f]
    · have c : cMul (a.val e) (b.val e) = true := cMul_r (by omega)
      simp [Tm.d, Tm.val, ha, hb, Op5.w, Op5.f, c]
    · simp [Tm.d, Tm.val, ha, hb, Op5.w, Op5.f]
    · simp [Tm.d, Tm.val, ha, hb, Op5.w, Op5.f]
  | _, 0, _, hd => absurd hd (by omega)
theorem value_ok {kvs : List (D × D)} {e : Str → Int} (h : intEnv kvs e) (he : ∀ x, 0 ≤ e x ∧ e x < 1000) : ∀ (t : Tm) (n : Nat), t.wf → t.dep < n → m_law_value n [t.d, .dict kvs] = .ok (.int (t.val e))
  | .num k, n + 1, _, _ => by
    unfold m_law_value
    simp [Tm.d, Tm.val]
  | .name x, n + 1, _, _ => by
    unfold m_law_value
    simp [Tm.d, Tm.val, dGet_env h x]
  | .bin o a b, n + 1, hw, hd => by
    have ha := value_ok h he a n hw.1 (by simp only [Tm.dep] at hd; omega)
    have hb := value_ok h he b n hw.2 (by simp only [Tm.dep] at hd; omega)
    have ra := val_rng he hw.1
    have rb := val_rng he hw.2
    unfold m_law_value
    have c : cMul (a.val e) (b.val e) = true := cMul_r (by omega)
    cases o <;> simp [Tm.d, Tm.val, ha, hb, Op5.w, Op5.f, c, lim_le]
  | _, 0, _, hd => absurd hd (by omega)
theorem term_ok (ns : List Int) (hl : ns.length ≤ 63) : ∀ (d n : Nat) (k : Int), d < n → ∃ t : Tm, t.wf ∧ t.dep ≤ d ∧
    m_law_term n [.list (ns.map .int), .int k, .list [.str "a", .str "ab", .str "b", .str "abc"], .int d] = .ok t.d
  | d, 0, k, h => absurd h (by omega)
  | d, n + 1, k, h => by
    unfold m_law_term
    generalize hv : drawn (cellF ns k) (k + 5) = v
    have hv0 : 0 ≤ v := by rw [← hv]; exact drawn_nn _ _
    have hc := law_cell_ok ns k hl
    have hd := law_drawn_ok (cellF ns k) (k + 5)
    rw [hv] at hd
    have stop : ∃ t : Tm, t.wf ∧ t.dep ≤ d ∧ (if 0 < v % 3 then R.ok (PyData.tuple [.str "name", .str (([(Str.ofString "a"), "ab", "b", "abc"][(v / 8 % 4).toNat]?).getD "a")]) else R.ok (PyData.tuple [.str "num", .int (([0, 1, 2, 3, 999, v / 8 % 1000][(v / 64 % 6).toNat]?).getD 0)])) = .ok t.d := by
      by_cases h3 : 0 < v % 3
      · exact ⟨.name _, trivial, Nat.zero_le _, by rw [if_pos h3]; rfl⟩
      · refine ⟨.num (([0, 1, 2, 3, 999, v / 8 % 1000][(v / 64 % 6).toNat]?).getD 0), ?_, Nat.zero_le _, by rw [if_neg h3]; rfl⟩
        have : (v / 64 % 6).toNat < 6 := by omega
        show 0 ≤ _ ∧ _ < _
        match (v / 64 % 6).toNat, this with
        | 0, _ | 1, _ | 2, _ | 3, _ | 4, _ => simp
        | 5, _ => simp; omega
    have q4 : L2.atI [PyData.str "a", .str "ab", .str "b", .str "abc"] (v / 8 % 4) = some (.str (([(Str.ofString "a"), "ab", "b", "abc"][(v / 8 % 4).toNat]?).getD "a")) := by
      rw [atI_n (by omega) (by simp; omega)]
      have : (v / 8 % 4).toNat < 4 := by omega
      match (v / 8 % 4).toNat, this with
      | 0, _ | 1, _ | 2, _ | 3, _ => rfl
    have q6 : L2.atI [PyData.int 0, .int 1, .int 2, .int 3, .int 999, .int (v / 8 % 1000)] (v / 64 % 6) = some (.int (([0, 1, 2, 3, 999, v / 8 % 1000][(v / 64 % 6).toNat]?).getD 0)) := by
      rw [atI_n (by omega) (by simp; omega)]
      have : (v / 64 % 6).toNat < 6 := by omega
      match (v / 64 % 6).toNat, this with
      | 0, _ | 1, _ | 2, _ | 3, _ | 4, _ | 5, _ => rfl
    have q5 : ∃ o : Op5, L2.atI [PyData.str "sum", .str "less", .str "times", .str "same", .str "under"] (v / 8 % 5) = some (.str o.w) := by
      rw [atI_n (by omega) (by simp; omega)]
      have : (v / 8 % 5).toNat < 5 := by omega
      match (v / 8 % 5).toNat, this with
      | 0, _ => exact ⟨.sum, rfl⟩
      | 1, _ => exact ⟨.less, rfl⟩
      | 2, _ => exact ⟨.times, rfl⟩
      | 3, _ => exact ⟨.same, rfl⟩
      | 4, _ => exact ⟨.under, rfl⟩
    obtain ⟨o, q5⟩ := q5
    have l6 : (6 : Nat) ≤ LIM := by decide
    have l5 : (5 : Nat) ≤ LIM := by decide
    have l3 : (3 : Nat) ≤ LIM := by decide
    have l2 : (2 : Nat) ≤ LIM := by decide
    obtain ⟨t, t1, t2, t3⟩ := stop
    by_cases hz : d = 0
    · subst hz
      refine ⟨t, t1, t2, ?_⟩
      rw [← t3]
      by_cases h3 : 0 < v % 3 <;> simp [hc, hd, q4, q6, h3, l6, l2]
    · by_cases h4 : v % 8 < 4
      · refine ⟨t, t1, t2, ?_⟩
        rw [← t3]
        by_cases h3 : 0 < v % 3 <;> simp [hc, hd, q4, q6, h3, l6, l2, h4]
      · obtain ⟨a, a1, a2, a3⟩ := term_ok ns hl (d - 1) n (3 * k + 1) (by omega)
        obtain ⟨b, b1, b2, b3⟩ := term_ok ns hl (d - 1) n (3 * k + 2) (by omega)
        rw [show ((d - 1 : Nat) : Int) = (d : Int) - 1 by omega] at a3 b3
        refine ⟨.bin o a b, ⟨a1, b1⟩, by simp only [Tm.dep]; omega, ?_⟩
        have hz' : ¬ ((d : Int) = 0) := by omega
        simp [hc, hd, q5, hz, hz', h4, a3, b3, l5, l3, Tm.d]
def e3 (v : Int) : Int := (([0, 999, 1] : List Int)[(v / 8 % 3).toNat]?).getD 0
def envD (v : Int) : List (D × D) := [(.str "a", .int (v % 1000)), (.str "ab", .int (v / 1024 % 5)), (.str "b", .int (e3 v))]
def envF (v : Int) (x : Str) : Int := if Str.ofString "a" == x then v % 1000 else if Str.ofString "ab" == x then v / 1024 % 5 else if Str.ofString "b" == x then e3 v else 0
theorem e3_rng (v : Int) : 0 ≤ e3 v ∧ e3 v < 1000 := by
  unfold e3
  have : (v / 8 % 3).toNat < 3 := by omega
  match (v / 8 % 3).toNat, this with
  | 0, _ | 1, _ | 2, _ => simp
theorem envF_rng (v : Int) (x : Str) : 0 ≤ envF v x ∧ envF v x < 1000 := by
  have := e3_rng v
  unfold envF
  split
  · omega
  · split
    · omega
    · split <;> omega
theorem env_int (v : Int) : intEnv (envD v) (envF v) := fun x => by
  unfold envD envF
  simp only [dLook_cons, keyEq_str, dLook_nil]
  split
  · rfl
  · split
    · rfl
    · rename_i h1 h2
      by_cases h3 : (Str.ofString "b" == x) = true <;> simp [h1, h2, h3]
def St7 (ns : List Int) (ρ : En) : Prop := ∃ s1 s2 s3 s4 s5 s6, ρ = [some (.sh (.list (ns.map .int))), s1, s2, s3, s4, s5, s6]
theorem forG_all {t : Tg} {body : En → SO} {P : En → Prop} : ∀ {ds : List D} {ρ : En}, (∀ d ∈ ds, ∀ ρ, P ρ → ∃ ρ1 ρ2, t.put d ρ = some ρ1 ∧ body ρ1 = .nx ρ2 ∧ P ρ2) → P ρ → ∃ ρ', forG t body ds ρ = .nx ρ' ∧ P ρ'
  | [], ρ, _, h => ⟨ρ, rfl, h⟩
  | d :: ds, ρ, h, hp => by
    obtain ⟨ρ1, ρ2, h1, h2, h3⟩ := h d (List.mem_cons_self ..) ρ hp
    obtain ⟨ρ', h4, h5⟩ := forG_all (ds := ds) (ρ := ρ2) (fun x hx => h x (List.mem_cons_of_mem _ hx)) h3
    refine ⟨ρ', ?_, h5⟩
    unfold forG
    rw [h1]
    show (match body ρ1 with | .nx ρ2 => forG t body ds ρ2 | .ct ρ2 => forG t body ds ρ2 | .br ρ2 => .nx ρ2 | o => o) = _
    rw [h2]
    exact h4
theorem rng_ints : ∀ (n : Nat) (i : Int) (d : D), d ∈ rngD i n → ∃ k : Int, d = .int k := by
  intro n i d h
  simp only [rngD, List.mem_map] at h
  obtain ⟨k, _, h⟩ := h
  exact ⟨_, h.symm⟩
theorem law_true (ns : List Int) (hl : ns.length ≤ 63) : m_law [.list (ns.map .int)] = .ok (.bool true) := by
  unfold m_law
  simp only [runD1, sSeq_eq, sFor_eq]
  have hr : ∃ ds : List D, (∀ d ∈ ds, ∃ k : Int, d = .int k) ∧ iRg1 (aCons (cal dMax2 (aCons (cst (.int 1)) (aCons (cal dMin2 (aCons (cst (.int 6)) (aCons (cal dLen (aCons (rdB 0) aNil)) aNil))) aNil))) aNil) (some (.sh (.list (ns.map .int))) :: List.replicate (7 - 1) none) = .ok ds := by
    have hz : ∃ j : Int, 0 ≤ j ∧ j ≤ 63 ∧ (if (if (ns.length : Int) < 6 then (ns.length : Int) else 6) > 1 then (if (ns.length : Int) < 6 then (ns.length : Int) else 6) else 1) = j := ⟨_, by split <;> split <;> omega, by split <;> split <;> omega, rfl⟩
    obtain ⟨j, j0, j1, j2⟩ := hz
    have hb : -BIG ≤ j ∧ j < BIG := by unfold BIG; omega
    exact ⟨rngD 0 j.toNat, rng_ints _ _, by simp [iRg1, rg1, j2, hb]⟩
  obtain ⟨ds, hd1, hd2⟩ := hr
  rw [hd2]
  simp only [R.bind_ok, R.so]
  have H := forG_all (t := .one 1) (P := St7 ns) (body := (sSeq (sSet (.one 2) (callM 2 m_law_drawn (aCons (callM 2 m_law_cell (aCons (rdS 0) (aCons (rdS 1) aNil))) (aCons (rdS 1) aNil)))) (sSeq (sSet (.one 3) (mkD (pCons (cst (.str "a")) (op2 modI (rdB 2) (cst (.int 1000))) (pCons (cst (.str "ab")) (op2 modI (op2 divI (rdB 2) (cst (.int 1024))) (cst (.int 5))) (pCons (cst (.str "b")) (op2 dIx (mkL (aCons (cst (.int 0)) (aCons (cst (.int 999)) (aCons (cst (.int 1)) aNil)))) (op2 modI (op2 divI (rdB 2) (cst (.int 8))) (cst (.int 3)))) pNil))))) (sSeq (sSet (.one 4) (cal dDict (aCons (rdB 3) aNil))) (sSeq (sSet (.one 5) (callM 4 (m_law_term 12) (aCons (rdS 0) (aCons (rdS 1) (aCons (mkL (aCons (cst (.str "a")) (aCons (cst (.str "ab")) (aCons (cst (.str "b")) (aCons (cst (.str "abc")) aNil))))) (aCons (cst (.int 4)) aNil)))))) (sSeq (sSet (.one 6) (callM 2 (m_worth 12) (aCons (rdS 5) (aCons (rdS 4) aNil)))) (sIf (orT (tst (isiD "bool" (rdB 6))) (orT (tst (op2 dNe (rdB 6) (callM 2 (m_law_value 12) (aCons (rdS 5) (aCons (rdS 3) aNil))))) (tst (op2 dNeK (rdB 4) (rdB 3))))) (sRet (cst (.bool false))) sNil)))))))
    (ds := ds) (ρ := some (.sh (.list (ns.map .int))) :: List.replicate (7 - 1) none)
  have H2 := H (by
    intro d hd ρ hp
    obtain ⟨k, e⟩ := hd1 d hd
    subst e
    obtain ⟨s1, s2, s3, s4, s5, s6, e⟩ := hp
    subst e
    generalize hv : drawn (cellF ns k) k = v
    have hv0 : 0 ≤ v := by rw [← hv]; exact drawn_nn _ _
    have hc := law_cell_ok ns k hl
    have hd := law_drawn_ok (cellF ns k) k
    rw [hv] at hd
    obtain ⟨t, t1, t2, t3⟩ := term_ok ns hl 4 12 k (by omega)
    rw [show ((4 : Nat) : Int) = 4 from rfl] at t3
    have w := worth_ok (env_int v) (envF_rng v) t 12 t1 (by omega)
    have u := value_ok (env_int v) (envF_rng v) t 12 t1 (by omega)
    have q3 : L2.atI [PyData.int 0, .int 999, .int 1] (v / 8 % 3) = some (.int (e3 v)) := by
      unfold e3
      rw [atI_n (by omega) (by simp; omega)]
      have : (v / 8 % 3).toNat < 3 := by omega
      match (v / 8 % 3).toNat, this with
      | 0, _ | 1, _ | 2, _ => rfl
    have l3 : (3 : Nat) ≤ LIM := by decide
    have l4 : (4 : Nat) ≤ LIM := by decide
    have al : dAlike (envD v) (envD v) = true := by
      simp [dAlike, envD, scaEq]
    refine ⟨_, [some (.sh (.list (ns.map .int))), some (.sh (.int k)), some (.sh (.int v)), some (.sh (.dict (envD v))), some (.sh (.dict (envD v))), some (.sh t.d), some (.sh (.int (t.val (envF v))))], rfl, ?_, ⟨_, _, _, _, _, _, rfl⟩⟩
    have c1 : mkD (pCons (cst (.str "a")) (op2 modI (rdB 2) (cst (.int 1000))) (pCons (cst (.str "ab")) (op2 modI (op2 divI (rdB 2) (cst (.int 1024))) (cst (.int 5))) (pCons (cst (.str "b")) (op2 dIx (mkL (aCons (cst (.int 0)) (aCons (cst (.int 999)) (aCons (cst (.int 1)) aNil)))) (op2 modI (op2 divI (rdB 2) (cst (.int 8))) (cst (.int 3)))) pNil))) [some (.sh (.list (ns.map .int))), some (.sh (.int k)), some (.sh (.int v)), s3, s4, s5, s6] = .ok (.dict (envD v)) := by
      simp [q3, l3, envD]
    have c2 : dDict [.dict (envD v)] = some (.dict (envD v)) := rfl
    have c3 : dNeK (.dict (envD v)) (.dict (envD v)) = some (.bool false) := if_pos al
    simp only [sSeq_eq, sSet_eq, callM_eq, aCons_eq, rdSs, rdS0, rdBs, rdB0, R.bind_ok, aNil_eq, callD_eq, hc, hd, List.length_cons, List.length_nil, Nat.zero_add, Nat.reduceAdd, if_true, R.opt, put_one, List.set_cons_zero, List.set_cons_succ, R.so, c1, cal_eq, c2]
    simp [t3, w, u, c3, l4]) ⟨_, _, _, _, _, _, rfl⟩
  obtain ⟨ρ', h1, h2⟩ := H2
  rw [h1]
  rfl
end My

open PySem PySem.W PyProof.Rows
set_option maxHeartbeats 0 in
theorem PySem.Challenge.cw_tellweight_k20_worths_holds : PySem.Challenge.rw_tellweight_k20_worths.Holds := by
  w_on; o_law; k_head; (case hw => w_witness2)
  k_fill
  refine L2.walk_of (l := PySem.Challenge.rw_tellweight_k20_worths) (n := 63) (k := 14) (x := "_law_script") (CX := fun w => L2N.CX PySem.Challenge.pw_tellweight_k20_worths w) (sp := fun w => DL.spLaw _) rfl (by decide) rfl ⟨rfl, by decide, by decide⟩ (fun w h Y => PySem.W.kIn_of Y) ?F (fun _ _ a ns hl _ hS => ⟨a, ns, rfl, hS, hl, fun _ => rfl⟩) (fun w H s e s' h => DL.law_noexc h)
  case F =>
    intro w mg fa h KX G hmg
    refine' My.law_at (My.tx_mk KX G ?z_bool ?z_dict ?z_int ?z_isinstance ?z_len ?z_max ?z_min ?z_range ?q_REST ?a_worth ?l_worth ?c_worth ?k_worth ?a_law_cell ?l_law_cell ?c_law_cell ?k_law_cell ?a_law_drawn ?l_law_drawn ?c_law_drawn ?k_law_drawn ?a_law_term ?l_law_term ?c_law_term ?k_law_term ?a_law_value ?l_law_value ?c_law_value ?k_law_value ?a_law ?l_law ?c_law ?k_law) hmg My.law_true
    (case z_bool => k_is); (case z_dict => k_is); (case z_int => k_is); (case z_isinstance => k_is); (case z_len => k_is); (case z_max => k_is); (case z_min => k_is); (case z_range => k_is); (case q_REST => k_is); (case a_worth => k_is); (case l_worth => k_is); (case c_worth => k_is); (case k_worth => k_is); (case a_law_cell => k_is); (case l_law_cell => k_is); (case c_law_cell => k_is); (case k_law_cell => k_is); (case a_law_drawn => k_is); (case l_law_drawn => k_is); (case c_law_drawn => k_is); (case k_law_drawn => k_is); (case a_law_term => k_is); (case l_law_term => k_is); (case c_law_term => k_is); (case k_law_term => k_is); (case a_law_value => k_is); (case l_law_value => k_is); (case c_law_value => k_is); (case k_law_value => k_is); (case a_law => k_is); (case l_law => k_is); (case c_law => k_is); (case k_law => k_is)
