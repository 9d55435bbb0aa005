import PyProof.Rows.All
import Wide.All
import OpenK.AllK
import Wide.FinOn
import HandS.ForMost
import HandS.AnyAll
import HandS.IsInst
import HandS.ForExc
import HandS.CallSlots
import HandS.More
import HandS.DeepEq
import KE.KEqNest
import PyProof.NeKinds
import HandS.NoneIn
import HandS.SortKw
import KE.DataMinMax
import PyProof.GenQ
import HandS.GenOver
import HandS.EndTab
import KE.KNestM
import PySem.Challenge.RW_formatfit_k10_parts_of_definitions
set_option Elab.async false
set_option linter.all false
set_option maxRecDepth 100000
set_option maxHeartbeats 2000000
namespace MP
open PySem L2

/-! ### trees -/
inductive Kd where
  | lst | tup | scr | dct (ks : List Key) | dtt (kss : List (List Key)) | obj (cn : Str) (fs : List Str)
  deriving DecidableEq
inductive T where
  | non | bl (b : Bool) | int (i : Int) | str (x : Str) | fn (f : Str)
  | nd (m : Bool) (k : Kd) (ts : List T)
abbrev T.lst (ts : List T) : T := .nd false .lst ts
abbrev T.tup (ts : List T) : T := .nd false .tup ts
abbrev T.dct (ks : List Key) (ts : List T) : T := .nd false (.dct ks) ts

mutual
def strip : T → T
  | .nd _ k ts => .nd false k (strips ts)
  | .non => .non
  | .bl b => .bl b
  | .int i => .int i
  | .str x => .str x
  | .fn f => .fn f
def strips : List T → List T
  | [] => []
  | t :: ts => strip t :: strips ts
end
theorem strips_map : ∀ ts, strips ts = ts.map strip
  | [] => rfl
  | t :: ts => by rw [strips, strips_map ts]; rfl

structure Ctx where
  K : PySem.W.Frag
  cls : Str → Option Addr
  fn : Str → Option Addr
  /-- the tables of code objects -/
  tb : Addr → Prop := fun _ => False

/-- a node that is read -/
def NodeR (C : Ctx) (F : Hp) (a : Addr) (xs : List V) : Kd → Prop
  | .lst => F a = some (.lst xs)
  | .scr => SqL C.K F a xs
  | .tup => SqT C.K F a xs
  | .dct ks => ks.length = xs.length ∧ Rd F a (.dK (ks.zip xs))
  | .dtt kss => kss.length = xs.length ∧ Rd F a (.dT (kss.zip xs))
  | .obj cn fs => ∃ c dx, C.cls cn = some c ∧ fs.length = xs.length ∧ F a = some (.ins c dx (fs.zip xs))
/-- a node that may be written -/
def NodeW (C : Ctx) (o : HO) (xs : List V) : Kd → Prop
  | .lst => o = .lst xs
  | .tup => False
  | .scr => False
  | .dct ks => ks.length = xs.length ∧ o = .dK (ks.zip xs)
  | .dtt kss => kss.length = xs.length ∧ o = .dT (kss.zip xs)
  | .obj cn fs => ∃ c dx, C.cls cn = some c ∧ fs.length = xs.length ∧ o = .ins c dx (fs.zip xs)
theorem NodeW.read {C : Ctx} {F : Hp} {a : Addr} {o : HO} {xs : List V} {k : Kd} (h : NodeW C o xs k) (e : F a = some o) : NodeR C F a xs k := by
  cases k with
  | lst => cases (show o = _ from h); exact e
  | tup => exact (show False from h).elim
  | scr => exact (show False from h).elim
  | dct ks => obtain ⟨l, rfl⟩ := h; exact ⟨l, .inl e⟩
  | dtt ks => obtain ⟨l, rfl⟩ := h; exact ⟨l, .inl e⟩
  | obj cn fs => obtain ⟨c, dx, h1, h2, rfl⟩ := h; exact ⟨c, dx, h1, h2, e⟩
theorem same_rd {F F' : Hp} {a : Addr} {o : HO} (e : Same F F') (h : Rd F a o) : Rd F' a o := by
  rcases h with h | ⟨u, h⟩
  · exact .inl (e _ _ h)
  · exact .inr ⟨u, e _ _ h⟩
theorem NodeR.mono {C : Ctx} {F F' : Hp} {a : Addr} {xs : List V} {k : Kd} (e : Same F F') (h : NodeR C F a xs k) : NodeR C F' a xs k := by
  cases k with
  | lst => exact e _ _ h
  | scr => exact e.seq h
  | tup =>
    rcases h with h | h
    · exact .inl (same_rd e h)
    · exact .inr h
  | dct ks => exact ⟨h.1, same_rd e h.2⟩
  | dtt ks => exact ⟨h.1, same_rd e h.2⟩
  | obj cn fs => obtain ⟨c, dx, h1, h2, h3⟩ := h; exact ⟨c, dx, h1, h2, e _ _ h3⟩

mutual
def Rep (C : Ctx) (F : Hp) : T → V → Prop
  | .non, v => v = .non
  | .bl b, v => v = .bl b
  | .int i, v => v = .int i
  | .str x, v => v = .str x
  | .fn f, v => ∃ a, C.fn f = some a ∧ v = .ref a
  | .nd m k ts, v => m = false ∧ ∃ a xs, v = .ref a ∧ NodeR C F a xs k ∧ Reps C F ts xs
def Reps (C : Ctx) (F : Hp) : List T → List V → Prop
  | [], xs => xs = []
  | t :: ts, xs => ∃ x r, xs = x :: r ∧ Rep C F t x ∧ Reps C F ts r
end
mutual
theorem Rep.mono {C : Ctx} {F F' : Hp} (e : Same F F') : ∀ {t : T} {v : V}, Rep C F t v → Rep C F' t v
  | .non, _, h => h
  | .bl _, _, h => h
  | .int _, _, h => h
  | .str _, _, h => h
  | .fn _, _, h => h
  | .nd m k ts, v, h => by
    rw [Rep] at h ⊢
    obtain ⟨hm, a, xs, hv, hn, hr⟩ := h
    exact ⟨hm, a, xs, hv, hn.mono e, Reps.mono e hr⟩
theorem Reps.mono {C : Ctx} {F F' : Hp} (e : Same F F') : ∀ {ts : List T} {xs : List V}, Reps C F ts xs → Reps C F' ts xs
  | [], _, h => h
  | t :: ts, xs, h => by
    rw [Reps] at h ⊢
    obtain ⟨x, r, hx, h1, h2⟩ := h
    exact ⟨x, r, hx, Rep.mono e h1, Reps.mono e h2⟩
end
theorem Reps.length {C : Ctx} {F : Hp} : ∀ {ts : List T} {xs : List V}, Reps C F ts xs → ts.length = xs.length
  | [], xs, h => by rw [Reps] at h; subst h; rfl
  | t :: ts, xs, h => by
    rw [Reps] at h
    obtain ⟨x, r, rfl, _, h2⟩ := h
    simp [Reps.length h2]
theorem Reps.get {C : Ctx} {F : Hp} : ∀ {ts : List T} {xs : List V} {i : Nat} {t : T}, Reps C F ts xs → ts[i]? = some t → ∃ x, xs[i]? = some x ∧ Rep C F t x
  | [], xs, i, t, h, e => by simp at e
  | u :: ts, xs, i, t, h, e => by
    rw [Reps] at h
    obtain ⟨x, r, rfl, h1, h2⟩ := h
    cases i with
    | zero => simp at e; subst e; exact ⟨x, by simp, h1⟩
    | succ i => simp at e; obtain ⟨y, hy, q⟩ := Reps.get h2 e; exact ⟨y, by simpa using hy, q⟩
theorem Reps.getV {C : Ctx} {F : Hp} : ∀ {ts : List T} {xs : List V} {i : Nat} {x : V}, Reps C F ts xs → xs[i]? = some x → ∃ t, ts[i]? = some t ∧ Rep C F t x
  | [], xs, i, t, h, e => by rw [Reps] at h; subst h; simp at e
  | u :: ts, xs, i, y, h, e => by
    rw [Reps] at h
    obtain ⟨x, r, rfl, h1, h2⟩ := h
    cases i with
    | zero => simp at e; subst e; exact ⟨u, by simp, h1⟩
    | succ i => simp at e; obtain ⟨t, ht, q⟩ := Reps.getV h2 e; exact ⟨t, by simpa using ht, q⟩
theorem Reps.append {C : Ctx} {F : Hp} : ∀ {ts us : List T} {xs ys : List V}, Reps C F ts xs → Reps C F us ys → Reps C F (ts ++ us) (xs ++ ys)
  | [], us, xs, ys, h, h' => by rw [Reps] at h; subst h; simpa using h'
  | u :: ts, us, xs, ys, h, h' => by
    rw [Reps] at h
    obtain ⟨x, r, rfl, h1, h2⟩ := h
    rw [List.cons_append, Reps]
    exact ⟨x, r ++ ys, rfl, h1, Reps.append h2 h'⟩
theorem Reps.set {C : Ctx} {F : Hp} {t : T} {v : V} (hr : Rep C F t v) : ∀ {ts : List T} {xs : List V} (i : Nat), Reps C F ts xs → Reps C F (ts.set i t) (xs.set i v)
  | [], xs, i, h => by rw [Reps] at h; subst h; simp [Reps]
  | u :: ts, xs, i, h => by
    rw [Reps] at h
    obtain ⟨x, r, rfl, h1, h2⟩ := h
    cases i with
    | zero => rw [List.set_cons_zero, List.set_cons_zero, Reps]; exact ⟨_, _, rfl, hr, h2⟩
    | succ i => rw [List.set_cons_succ, List.set_cons_succ, Reps]; exact ⟨_, _, rfl, h1, Reps.set hr i h2⟩
theorem Reps.take {C : Ctx} {F : Hp} : ∀ {ts : List T} {xs : List V} (n : Nat), Reps C F ts xs → Reps C F (ts.take n) (xs.take n)
  | [], xs, n, h => by rw [Reps] at h; subst h; simp [Reps]
  | u :: ts, xs, 0, h => by simp [Reps]
  | u :: ts, xs, n + 1, h => by
    rw [Reps] at h
    obtain ⟨x, r, rfl, h1, h2⟩ := h
    rw [List.take_succ_cons, List.take_succ_cons, Reps]; exact ⟨_, _, rfl, h1, Reps.take n h2⟩
theorem Reps.drop {C : Ctx} {F : Hp} : ∀ {ts : List T} {xs : List V} (n : Nat), Reps C F ts xs → Reps C F (ts.drop n) (xs.drop n)
  | [], xs, n, h => by rw [Reps] at h; subst h; simp [Reps]
  | u :: ts, xs, 0, h => by simpa using h
  | u :: ts, xs, n + 1, h => by
    rw [Reps] at h
    obtain ⟨x, r, rfl, h1, h2⟩ := h
    rw [List.drop_succ_cons, List.drop_succ_cons]; exact Reps.drop n h2

/-! ### owned trees -/
mutual
def Own (C : Ctx) (F H : Hp) : T → V → List Addr → Prop
  | .nd true k ts, v, A => ∃ a A' xs o, v = .ref a ∧ A = a :: A' ∧ F a = none ∧ H a = some o ∧ NodeW C o xs k ∧ Owns C F H ts xs A'
  | .nd false k ts, v, A => A = [] ∧ Rep C F (.nd false k ts) v
  | .non, v, A => A = [] ∧ Rep C F .non v
  | .bl b, v, A => A = [] ∧ Rep C F (.bl b) v
  | .int i, v, A => A = [] ∧ Rep C F (.int i) v
  | .str x, v, A => A = [] ∧ Rep C F (.str x) v
  | .fn f, v, A => A = [] ∧ Rep C F (.fn f) v
def Owns (C : Ctx) (F H : Hp) : List T → List V → List Addr → Prop
  | [], xs, A => xs = [] ∧ A = []
  | t :: ts, xs, A => ∃ x r A1 A2, xs = x :: r ∧ A = A1 ++ A2 ∧ Own C F H t x A1 ∧ Owns C F H ts r A2
end
def T.mk : T → Bool
  | .nd m _ _ => m
  | _ => false
theorem Own.of_rep {C : Ctx} {F H : Hp} {t : T} {v : V} (h : Rep C F t v) : Own C F H t v [] := by
  cases t with
  | nd m k ts =>
    cases m with
    | false => rw [Own]; exact ⟨rfl, h⟩
    | true => rw [Rep] at h; exact absurd h.1 (by decide)
  | _ => rw [Own]; exact ⟨rfl, h⟩
theorem Own.rep {C : Ctx} {F H : Hp} {t : T} {v : V} {A : List Addr} (h : Own C F H t v A) (hm : t.mk = false) : A = [] ∧ Rep C F t v := by
  cases t with
  | nd m k ts =>
    cases m with
    | false => rw [Own] at h; exact h
    | true => cases hm
  | _ => rw [Own] at h; exact h
theorem Owns.of_reps {C : Ctx} {F H : Hp} : ∀ {ts : List T} {xs : List V}, Reps C F ts xs → Owns C F H ts xs []
  | [], xs, h => by rw [Reps] at h; rw [Owns]; exact ⟨h, rfl⟩
  | t :: ts, xs, h => by
    rw [Reps] at h
    obtain ⟨x, r, rfl, h1, h2⟩ := h
    rw [Owns]
    exact ⟨x, r, [], [], rfl, rfl, Own.of_rep h1, Owns.of_reps h2⟩
mutual
theorem Own.frame {C : Ctx} {F H F' H' : Hp} (e : Same F F') : ∀ {t : T} {v : V} {A : List Addr}, (∀ a ∈ A, H' a = H a ∧ F' a = none) → Own C F H t v A → Own C F' H' t v A
  | .nd true k ts, v, A, k', h => by
    rw [Own] at h ⊢
    obtain ⟨a, A', xs, o, rfl, rfl, h1, h2, h3, h4⟩ := h
    have q := k' a (by simp)
    exact ⟨a, A', xs, o, rfl, rfl, q.2, by rw [q.1]; exact h2, h3, Owns.frame e (fun b hb => k' b (by simp [hb])) h4⟩
  | .nd false k ts, v, A, _, h => by rw [Own] at h ⊢; exact ⟨h.1, h.2.mono e⟩
  | .non, v, A, _, h => by rw [Own] at h ⊢; exact ⟨h.1, h.2.mono e⟩
  | .bl _, v, A, _, h => by rw [Own] at h ⊢; exact ⟨h.1, h.2.mono e⟩
  | .int _, v, A, _, h => by rw [Own] at h ⊢; exact ⟨h.1, h.2.mono e⟩
  | .str _, v, A, _, h => by rw [Own] at h ⊢; exact ⟨h.1, h.2.mono e⟩
  | .fn _, v, A, _, h => by rw [Own] at h ⊢; exact ⟨h.1, h.2.mono e⟩
theorem Owns.frame {C : Ctx} {F H F' H' : Hp} (e : Same F F') : ∀ {ts : List T} {xs : List V} {A : List Addr}, (∀ a ∈ A, H' a = H a ∧ F' a = none) → Owns C F H ts xs A → Owns C F' H' ts xs A
  | [], xs, A, _, h => by rw [Owns] at h ⊢; exact h
  | t :: ts, xs, A, k', h => by
    rw [Owns] at h ⊢
    obtain ⟨x, r, A1, A2, rfl, rfl, h1, h2⟩ := h
    exact ⟨x, r, A1, A2, rfl, rfl, Own.frame e (fun b hb => k' b (by simp [hb])) h1, Owns.frame e (fun b hb => k' b (by simp [hb])) h2⟩
end
mutual
theorem strip_rep {C : Ctx} {F : Hp} : ∀ {t : T} {v : V}, Rep C F t v → strip t = t
  | .nd m k ts, v, h => by
    rw [Rep] at h
    obtain ⟨rfl, a, xs, _, _, hr⟩ := h
    rw [strip, strips_rep hr]
  | .non, _, _ => rfl
  | .bl _, _, _ => rfl
  | .int _, _, _ => rfl
  | .str _, _, _ => rfl
  | .fn _, _, _ => rfl
theorem strips_rep {C : Ctx} {F : Hp} : ∀ {ts : List T} {xs : List V}, Reps C F ts xs → strips ts = ts
  | [], _, _ => rfl
  | t :: ts, xs, h => by
    rw [Reps] at h
    obtain ⟨x, r, rfl, h1, h2⟩ := h
    rw [strips, strip_rep h1, strips_rep h2]
end
mutual
theorem Own.read {C : Ctx} {F H G : Hp} (e : Same F G) : ∀ {t : T} {v : V} {A : List Addr}, (∀ a ∈ A, G a = H a) → Own C F H t v A → Rep C G (strip t) v
  | .nd true k ts, v, A, k', h => by
    rw [Own] at h; rw [strip, Rep]
    obtain ⟨a, A', xs, o, rfl, rfl, h1, h2, h3, h4⟩ := h
    exact ⟨rfl, a, xs, rfl, h3.read (by rw [k' a (by simp)]; exact h2), Owns.read e (fun b hb => k' b (by simp [hb])) h4⟩
  | .nd false k ts, v, A, _, h => by rw [Own] at h; rw [strip_rep h.2]; exact h.2.mono e
  | .non, v, A, _, h => by rw [Own] at h; exact h.2
  | .bl _, v, A, _, h => by rw [Own] at h; exact h.2
  | .int _, v, A, _, h => by rw [Own] at h; exact h.2
  | .str _, v, A, _, h => by rw [Own] at h; exact h.2
  | .fn _, v, A, _, h => by rw [Own] at h; exact h.2
theorem Owns.read {C : Ctx} {F H G : Hp} (e : Same F G) : ∀ {ts : List T} {xs : List V} {A : List Addr}, (∀ a ∈ A, G a = H a) → Owns C F H ts xs A → Reps C G (strips ts) xs
  | [], xs, A, _, h => by rw [Owns] at h; rw [strips, Reps]; exact h.1
  | t :: ts, xs, A, k', h => by
    rw [Owns] at h; rw [strips, Reps]
    obtain ⟨x, r, A1, A2, rfl, rfl, h1, h2⟩ := h
    exact ⟨x, r, rfl, Own.read e (fun b hb => k' b (by simp [hb])) h1, Owns.read e (fun b hb => k' b (by simp [hb])) h2⟩
end
mutual
theorem Own.has {C : Ctx} {F H : Hp} : ∀ {t : T} {v : V} {A : List Addr}, Own C F H t v A → ∀ a ∈ A, F a = none ∧ ∃ o, H a = some o
  | .nd true k ts, v, A, h, b, hb => by
    rw [Own] at h
    obtain ⟨a, A', xs, o, rfl, rfl, h1, h2, h3, h4⟩ := h
    rcases List.mem_cons.mp hb with rfl | hb
    · exact ⟨h1, o, h2⟩
    · exact Owns.has h4 b hb
  | .nd false k ts, v, A, h, b, hb => by rw [Own] at h; rw [h.1] at hb; cases hb
  | .non, v, A, h, b, hb => by rw [Own] at h; rw [h.1] at hb; cases hb
  | .bl _, v, A, h, b, hb => by rw [Own] at h; rw [h.1] at hb; cases hb
  | .int _, v, A, h, b, hb => by rw [Own] at h; rw [h.1] at hb; cases hb
  | .str _, v, A, h, b, hb => by rw [Own] at h; rw [h.1] at hb; cases hb
  | .fn _, v, A, h, b, hb => by rw [Own] at h; rw [h.1] at hb; cases hb
theorem Owns.has {C : Ctx} {F H : Hp} : ∀ {ts : List T} {xs : List V} {A : List Addr}, Owns C F H ts xs A → ∀ a ∈ A, F a = none ∧ ∃ o, H a = some o
  | [], xs, A, h, b, hb => by rw [Owns] at h; rw [h.2] at hb; cases hb
  | t :: ts, xs, A, h, b, hb => by
    rw [Owns] at h
    obtain ⟨x, r, A1, A2, rfl, rfl, h1, h2⟩ := h
    rcases List.mem_append.mp hb with hb | hb
    · exact Own.has h1 b hb
    · exact Owns.has h2 b hb
end
theorem Owns.length {C : Ctx} {F H : Hp} : ∀ {ts : List T} {xs : List V} {A : List Addr}, Owns C F H ts xs A → ts.length = xs.length
  | [], xs, A, h => by rw [Owns] at h; rw [h.1]; rfl
  | t :: ts, xs, A, h => by
    rw [Owns] at h
    obtain ⟨x, r, A1, A2, rfl, rfl, h1, h2⟩ := h
    simp [Owns.length h2]
end MP

namespace MP
open PySem L2

/-! ### places within a tree -/
def T.at : T → List Nat → Option T
  | t, [] => some t
  | t, i :: p => match t with
    | .nd _ _ ts => (ts[i]?).bind fun u => T.at u p
    | _ => none
def T.put : T → List Nat → T → T
  | _, [], u => u
  | t, i :: p, u => match t with
    | .nd m k ts => .nd m k (ts.set i (T.put (ts[i]?.getD .non) p u))
    | t => t
def AtP (C : Ctx) (H : Hp) : T → V → List Nat → V → Prop
  | _, v, [], x => x = v
  | t, v, i :: p, x => ∃ k ts a xs o ti xi, t = .nd true k ts ∧ v = .ref a ∧ H a = some o ∧ NodeW C o xs k ∧ ts[i]? = some ti ∧ xs[i]? = some xi ∧ AtP C H ti xi p x
theorem zip_inj {κ α : Type} : ∀ {ks : List κ} {xs ys : List α}, ks.length = xs.length → ks.length = ys.length → ks.zip xs = ks.zip ys → xs = ys
  | [], [], [], _, _, _ => rfl
  | [], _ :: _, _, h, _, _ => by simp at h
  | [], [], _ :: _, _, h, _ => by simp at h
  | _ :: _, [], _, h, _, _ => by simp at h
  | _ :: _, _ :: _, [], _, h, _ => by simp at h
  | k :: ks, x :: xs, y :: ys, h, h', e => by
    simp only [List.zip_cons_cons, List.cons.injEq, Prod.mk.injEq, true_and] at e
    rw [e.1, zip_inj (by simpa using h) (by simpa using h') e.2]
theorem NodeW.inj {C : Ctx} {o : HO} {xs ys : List V} {k : Kd} (h : NodeW C o xs k) (h' : NodeW C o ys k) : xs = ys := by
  cases k with
  | lst => cases (show o = _ from h); cases (show HO.lst xs = _ from h'); rfl
  | tup => exact (show False from h).elim
  | scr => exact (show False from h).elim
  | dct ks => obtain ⟨l, rfl⟩ := h; obtain ⟨l', e⟩ := h'; injection e with e; exact zip_inj l l' e
  | dtt ks => obtain ⟨l, rfl⟩ := h; obtain ⟨l', e⟩ := h'; injection e with e; exact zip_inj l l' e
  | obj cn fs => obtain ⟨c, dx, h1, h2, rfl⟩ := h; obtain ⟨c', dx', h1', h2', e⟩ := h'; injection e with _ _ e; exact zip_inj h2 h2' e
theorem AtP.inj {C : Ctx} {H : Hp} : ∀ {p : List Nat} {t : T} {v x y : V}, AtP C H t v p x → AtP C H t v p y → x = y
  | [], _, _, _, _, h, h' => by rw [AtP] at h h'; rw [h, h']
  | i :: p, t, v, x, y, h, h' => by
    rw [AtP] at h h'
    obtain ⟨k, ts, a, xs, o, ti, xi, rfl, rfl, h1, h2, h3, h4, h5⟩ := h
    obtain ⟨k', ts', a', xs', o', ti', xi', e, e2, h1', h2', h3', h4', h5'⟩ := h'
    cases e; cases e2
    rw [h1] at h1'; cases h1'
    cases h2.inj h2'
    rw [h3] at h3'; cases h3'
    rw [h4] at h4'; cases h4'
    exact h5.inj h5'
theorem AtP.keep {C : Ctx} {H H' : Hp} (e : Same H H') : ∀ {p : List Nat} {t : T} {v x : V}, AtP C H t v p x → AtP C H' t v p x
  | [], _, _, _, h => by rw [AtP] at h ⊢; exact h
  | i :: p, t, v, x, h => by
    rw [AtP] at h ⊢
    obtain ⟨k, ts, a, xs, o, ti, xi, h0, hv, h1, h2, h3, h4, h5⟩ := h
    exact ⟨k, ts, a, xs, o, ti, xi, h0, hv, e _ _ h1, h2, h3, h4, h5.keep e⟩
theorem Rep.unmarked {C : Ctx} {F : Hp} {t : T} {v : V} (h : Rep C F t v) : t.mk = false := by
  cases t with
  | nd m k ts => rw [Rep] at h; exact h.1
  | _ => rfl
theorem Rep.at {C : Ctx} {F : Hp} : ∀ {p : List Nat} {t u : T} {v : V}, Rep C F t v → t.at p = some u → ∃ x, Rep C F u x
  | [], t, u, v, h, e => by rw [T.at] at e; cases e; exact ⟨v, h⟩
  | i :: p, t, u, v, h, e => by
    cases t with
    | nd m k ts =>
      rw [T.at] at e
      cases q : ts[i]? with
      | none => rw [q] at e; cases e
      | some w =>
        rw [q] at e
        rw [Rep] at h
        obtain ⟨_, a, xs, _, _, hr⟩ := h
        obtain ⟨x, _, hx⟩ := hr.get q
        exact Rep.at hx e
    | _ => simp [T.at] at e
/-- one of several, to be exchanged -/
theorem owns_at {C : Ctx} {F H : Hp} : ∀ {ts : List T} {xs : List V} {A : List Addr} {i : Nat} {ti : T}, Owns C F H ts xs A → ts[i]? = some ti →
    ∃ xi A1 B A2, xs[i]? = some xi ∧ A = A1 ++ B ++ A2 ∧ Own C F H ti xi B ∧
      ∀ F' H' u' y B', Same F F' → (∀ a ∈ A1 ++ A2, H' a = H a ∧ F' a = none) → Own C F' H' u' y B' → Owns C F' H' (ts.set i u') (xs.set i y) (A1 ++ B' ++ A2)
  | [], _, _, _, _, _, e => by simp at e
  | t :: ts, xs, A, 0, ti, h, e => by
    simp at e; subst e
    rw [Owns] at h
    obtain ⟨x, r, A1, A2, rfl, rfl, h1, h2⟩ := h
    refine ⟨x, [], A1, A2, by simp, by simp, h1, fun F' H' u' y B' e k q => ?_⟩
    rw [List.set_cons_zero, List.set_cons_zero, Owns]
    exact ⟨y, r, B', A2, rfl, by simp, q, h2.frame e fun a ha => k a (by simp [ha])⟩
  | t :: ts, xs, A, i + 1, ti, h, e => by
    simp at e
    rw [Owns] at h
    obtain ⟨x, r, A0, A', rfl, rfl, h1, h2⟩ := h
    obtain ⟨xi, A1, B, A2, hx, rfl, ho, f⟩ := owns_at h2 e
    refine ⟨xi, A0 ++ A1, B, A2, by simpa using hx, by simp, ho, fun F' H' u' y B' e k q => ?_⟩
    rw [List.set_cons_succ, List.set_cons_succ, Owns]
    exact ⟨x, _, A0, A1 ++ B' ++ A2, rfl, by simp, h1.frame e fun a ha => k a (by simp [ha]), f F' H' u' y B' e (fun a ha => k a (by simp at ha ⊢; rcases ha with z | z <;> simp [z])) q⟩
theorem set_self {α : Type} : ∀ {xs : List α} {i : Nat} {x : α}, xs[i]? = some x → xs.set i x = xs
  | [], _, _, h => by simp at h
  | _ :: _, 0, _, h => by simp at h; simp [h]
  | y :: ys, i + 1, x, h => by simp at h; simp [set_self h]
theorem own_at {C : Ctx} {F H : Hp} : ∀ {p : List Nat} {t : T} {v : V} {A : List Addr} {u : T}, Own C F H t v A → t.at p = some u → u.mk = true →
    ∃ x A1 B A2, A = A1 ++ B ++ A2 ∧ AtP C H t v p x ∧ Own C F H u x B ∧
      ∀ F' H' u' B', Same F F' → (∀ a ∈ A1 ++ A2, H' a = H a ∧ F' a = none) → Own C F' H' u' x B' → Own C F' H' (t.put p u') v (A1 ++ B' ++ A2)
  | [], t, v, A, u, h, e, _ => by
    rw [T.at] at e; cases e
    refine ⟨v, [], A, [], by simp, by rw [AtP], h, fun F' H' u' B' _ _ q => ?_⟩
    rw [T.put]
    simpa using q
  | i :: p, t, v, A, u, h, e, hm => by
    cases t with
    | nd m k ts =>
      cases m with
      | false =>
        rw [Own] at h
        obtain ⟨x, hx⟩ := h.2.at e
        rw [hx.unmarked] at hm; cases hm
      | true =>
        rw [T.at] at e
        cases q : ts[i]? with
        | none => rw [q] at e; cases e
        | some w =>
          rw [q] at e
          have e : T.at w p = some u := e
          rw [Own] at h
          obtain ⟨a, A', xs, o, rfl, rfl, h1, h2, h3, h4⟩ := h
          obtain ⟨xi, A1, B, A2, hx, rfl, ho, f⟩ := owns_at h4 q
          obtain ⟨x, B1, D, B2, rfl, hp, hu, g⟩ := own_at ho e hm
          refine ⟨x, a :: (A1 ++ B1), D, B2 ++ A2, by simp, ?_, hu, fun F' H' u' B' e' k' q' => ?_⟩
          · rw [AtP]; exact ⟨k, ts, a, xs, o, w, xi, rfl, rfl, h2, h3, q, hx, hp⟩
          · have ka := k' a (by simp)
            have z := f F' H' (w.put p u') xi (B1 ++ B' ++ B2) e' (fun b hb => k' b (by simp at hb ⊢; rcases hb with z | z <;> simp [z]))
              (g F' H' u' B' e' (fun b hb => k' b (by simp at hb ⊢; rcases hb with z | z <;> simp [z])) q')
            rw [set_self hx] at z
            rw [T.put]
            simp only [q, Option.getD_some]
            rw [Own]
            exact ⟨a, A1 ++ (B1 ++ B' ++ B2) ++ A2, xs, o, rfl, by simp, ka.2, by rw [ka.1]; exact h2, h3, z⟩
    | _ => simp [T.at] at e

/-! ### freezing -/
def frz (F H : Hp) (A : List Addr) : Hp := fun b => if b ∈ A then H b else F b
theorem frz_in {F H : Hp} {A : List Addr} {b : Addr} (h : b ∈ A) : frz F H A b = H b := by unfold frz; rw [if_pos h]
theorem frz_out {F H : Hp} {A : List Addr} {b : Addr} (h : b ∉ A) : frz F H A b = F b := by unfold frz; rw [if_neg h]
theorem frz_same {F H : Hp} {A : List Addr} (h : ∀ a ∈ A, F a = none) : Same F (frz F H A) := fun b o e => by
  by_cases hb : b ∈ A
  · rw [h b hb] at e; cases e
  · rw [frz_out hb]; exact e
theorem frz_sub {F H : Hp} {A : List Addr} (s : Same F H) : Same (frz F H A) H := fun b o e => by
  by_cases hb : b ∈ A
  · rw [frz_in hb] at e; exact e
  · rw [frz_out hb] at e; exact s _ _ e
theorem Own.frz {C : Ctx} {F H : Hp} {t : T} {v : V} {A : List Addr} (h : Own C F H t v A) : Rep C (frz F H A) (strip t) v :=
  h.read (frz_same fun a ha => (h.has a ha).1) fun a ha => frz_in ha

/-! ### the slots -/
abbrev Rho := List (Option T)
abbrev Ads := Nat → List Addr
def updA (As : Ads) (i : Nat) (A : List Addr) : Ads := fun j => if j = i then A else As j
theorem updA_same {As : Ads} {i : Nat} {A : List Addr} : updA As i A i = A := by unfold updA; rw [if_pos rfl]
theorem updA_ne {As : Ads} {i j : Nat} {A : List Addr} (h : j ≠ i) : updA As i A j = As j := by unfold updA; rw [if_neg h]
def Ow (As : Ads) (b : Addr) : Prop := ∃ i, b ∈ As i

/-- the tables of code objects stand, and nothing that is read is one -/
def HT (C : Ctx) (F H : Hp) : Prop := (∀ b ps, F b ≠ some (.tbl ps)) ∧ ∀ P, C.tb P → GxR.TabG H P
theorem HT.frz {C : Ctx} {F H : Hp} {A : List Addr} (h : HT C F H) (k : ∀ a ∈ A, ∀ ps, H a ≠ some (.tbl ps)) : HT C (frz F H A) H := ⟨fun b ps => by
  by_cases hb : b ∈ A
  · rw [frz_in hb]; exact k b hb ps
  · rw [frz_out hb]; exact h.1 b ps, h.2⟩
theorem tabG_ne {H : Hp} {P a : Addr} (h : GxR.TabG H P) (k : ∀ ps, H a ≠ some (.tbl ps)) : P ≠ a := fun e => by
  obtain ⟨ps, q, _⟩ := h
  exact k ps (by rw [← e]; exact q)
theorem HT.upd {C : Ctx} {F H : Hp} {a : Addr} {o : HO} (h : HT C F H) (k : ∀ ps, H a ≠ some (.tbl ps)) : HT C F (upd H a o) := ⟨h.1, fun P hP => by
  have q := h.2 P hP
  have ne := tabG_ne q k
  obtain ⟨ps, q1, q2⟩ := q
  exact ⟨ps, by rw [upd_ne ne]; exact q1, q2⟩⟩
mutual
theorem Own.ntb {C : Ctx} {F H : Hp} : ∀ {t : T} {v : V} {A : List Addr}, Own C F H t v A → ∀ a ∈ A, ∀ ps, H a ≠ some (.tbl ps)
  | .nd true k ts, v, A, h, b, hb, ps => by
    rw [Own] at h
    obtain ⟨a, A', xs, o, rfl, rfl, h1, h2, h3, h4⟩ := h
    rcases List.mem_cons.mp hb with rfl | hb
    · rw [h2]
      intro e
      cases e
      cases k with
      | lst => cases (show HO.tbl ps = _ from h3)
      | tup => exact (show False from h3).elim
      | scr => exact (show False from h3).elim
      | dct ks => cases (show HO.tbl ps = _ from h3.2)
      | dtt ks => cases (show HO.tbl ps = _ from h3.2)
      | obj cn fs => obtain ⟨_, _, _, _, h3⟩ := h3; cases h3
    · exact Owns.ntb h4 b hb ps
  | .nd false k ts, v, A, h, b, hb, _ => by rw [Own] at h; rw [h.1] at hb; cases hb
  | .non, v, A, h, b, hb, _ => by rw [Own] at h; rw [h.1] at hb; cases hb
  | .bl _, v, A, h, b, hb, _ => by rw [Own] at h; rw [h.1] at hb; cases hb
  | .int _, v, A, h, b, hb, _ => by rw [Own] at h; rw [h.1] at hb; cases hb
  | .str _, v, A, h, b, hb, _ => by rw [Own] at h; rw [h.1] at hb; cases hb
  | .fn _, v, A, h, b, hb, _ => by rw [Own] at h; rw [h.1] at hb; cases hb
theorem Owns.ntb {C : Ctx} {F H : Hp} : ∀ {ts : List T} {xs : List V} {A : List Addr}, Owns C F H ts xs A → ∀ a ∈ A, ∀ ps, H a ≠ some (.tbl ps)
  | [], xs, A, h, b, hb, _ => by rw [Owns] at h; rw [h.2] at hb; cases hb
  | t :: ts, xs, A, h, b, hb, ps => by
    rw [Owns] at h
    obtain ⟨x, r, A1, A2, rfl, rfl, h1, h2⟩ := h
    rcases List.mem_append.mp hb with hb | hb
    · exact Own.ntb h1 b hb ps
    · exact Owns.ntb h2 b hb ps
end
structure Env (C : Ctx) (F H : Hp) (σ : L2.St) (ρ : Rho) (As : Ads) : Prop where
  sub : Same F H
  len : σ.length = ρ.length
  own : ∀ i t, ρ[i]? = some (some t) → ∃ v, σ[i]? = some (some v) ∧ Own C F H t v (As i)
  emp : ∀ i, (∀ t, ρ[i]? ≠ some (some t)) → As i = []
  nod : ∀ i, (As i).Nodup
  dis : ∀ i j a, a ∈ As i → a ∈ As j → i = j
  ht : HT C F H
section
variable {C : Ctx} {F H F' H' F2 H2 : Hp} {σ : L2.St} {ρ ρ' : Rho} {As As' As2 : Ads} {O O' O2 : Addr → Prop}
theorem Env.has (e : Env C F H σ ρ As) {i : Nat} {a : Addr} (ha : a ∈ As i) : F a = none ∧ ∃ o, H a = some o := by
  cases q : ρ[i]? with
  | none => rw [e.emp i (fun t z => by rw [q] at z; cases z)] at ha; cases ha
  | some x =>
    cases x with
    | none => rw [e.emp i (fun t z => by rw [q] at z; cases z)] at ha; cases ha
    | some t =>
      obtain ⟨v, _, ho⟩ := e.own i t q
      exact ho.has a ha
theorem Env.grow (e : Env C F H σ ρ As) (ff : Same F F') (hs : Same F' H') (k : ∀ i, ∀ a ∈ As i, H' a = H a ∧ F' a = none) (ht : HT C F' H') : Env C F' H' σ ρ As where
  ht := ht
  sub := hs
  len := e.len
  own := fun i t h => let ⟨v, h1, h2⟩ := e.own i t h; ⟨v, h1, h2.frame ff (k i)⟩
  emp := e.emp
  nod := e.nod
  dis := e.dis
/-- a slot's tree is exchanged, the value stays -/
theorem Env.put (e : Env C F H σ ρ As) {i : Nat} {t : T} {v : V} {A : List Addr} (hi : σ[i]? = some (some v)) (ff : Same F F') (hs : Same F' H') (k : ∀ j, j ≠ i → ∀ a ∈ As j, H' a = H a ∧ F' a = none)
    (ho : Own C F' H' t v A) (nd : A.Nodup) (ds : ∀ j, j ≠ i → ∀ a ∈ As j, a ∉ A) (ht : HT C F' H') : Env C F' H' σ (ρ.set i (some t)) (updA As i A) where
  ht := ht
  sub := hs
  len := by rw [List.length_set]; exact e.len
  own := fun j u h => by
    by_cases hj : j = i
    · subst hj
      rw [List.getElem?_set_self (by rw [← e.len]; exact (List.getElem?_eq_some_iff.mp hi).1)] at h
      cases h
      exact ⟨v, hi, by rw [updA_same]; exact ho⟩
    · rw [List.getElem?_set_ne (Ne.symm hj)] at h
      obtain ⟨x, h1, h2⟩ := e.own j u h
      exact ⟨x, h1, by rw [updA_ne hj]; exact h2.frame ff (k j hj)⟩
  emp := fun j h => by
    by_cases hj : j = i
    · subst hj
      exact absurd (List.getElem?_set_self (by rw [← e.len]; exact (List.getElem?_eq_some_iff.mp hi).1)) (h t)
    · rw [updA_ne hj]
      refine e.emp j fun u z => h u ?_
      rw [List.getElem?_set_ne (Ne.symm hj)]; exact z
  nod := fun j => by
    by_cases hj : j = i
    · subst hj; rw [updA_same]; exact nd
    · rw [updA_ne hj]; exact e.nod j
  dis := fun j l a h1 h2 => by
    by_cases hj : j = i
    · by_cases hl : l = i
      · rw [hj, hl]
      · subst hj
        rw [updA_same] at h1; rw [updA_ne hl] at h2
        exact absurd h1 (ds l hl a h2)
    · by_cases hl : l = i
      · subst hl
        rw [updA_same] at h2; rw [updA_ne hj] at h1
        exact absurd h2 (ds j hj a h1)
      · rw [updA_ne hj] at h1; rw [updA_ne hl] at h2
        exact e.dis j l a h1 h2
/-- a slot is stored -/
theorem Env.store (e : Env C F H σ ρ As) {i : Nat} {t : T} {v : V} {A : List Addr} (hi : i < σ.length) (ho : Own C F H t v A) (nd : A.Nodup) (ds : ∀ j, j ≠ i → ∀ a ∈ As j, a ∉ A) : Env C F H (σ.set i (some v)) (ρ.set i (some t)) (updA As i A) where
  ht := e.ht
  sub := e.sub
  len := by rw [List.length_set, List.length_set]; exact e.len
  own := fun j u h => by
    by_cases hj : j = i
    · subst hj
      rw [List.getElem?_set_self (by rw [← e.len]; exact hi)] at h
      cases h
      exact ⟨v, List.getElem?_set_self hi, by rw [updA_same]; exact ho⟩
    · rw [List.getElem?_set_ne (Ne.symm hj)] at h
      obtain ⟨x, h1, h2⟩ := e.own j u h
      exact ⟨x, by rw [List.getElem?_set_ne (Ne.symm hj)]; exact h1, by rw [updA_ne hj]; exact h2⟩
  emp := fun j h => by
    by_cases hj : j = i
    · subst hj
      exact absurd (List.getElem?_set_self (by rw [← e.len]; exact hi)) (h t)
    · rw [updA_ne hj]
      refine e.emp j fun u z => h u ?_
      rw [List.getElem?_set_ne (Ne.symm hj)]; exact z
  nod := fun j => by
    by_cases hj : j = i
    · subst hj; rw [updA_same]; exact nd
    · rw [updA_ne hj]; exact e.nod j
  dis := fun j l a h1 h2 => by
    by_cases hj : j = i
    · by_cases hl : l = i
      · rw [hj, hl]
      · subst hj
        rw [updA_same] at h1; rw [updA_ne hl] at h2
        exact absurd h1 (ds l hl a h2)
    · by_cases hl : l = i
      · subst hl
        rw [updA_same] at h2; rw [updA_ne hj] at h1
        exact absurd h2 (ds j hj a h1)
      · rw [updA_ne hj] at h1; rw [updA_ne hl] at h2
        exact e.dis j l a h1 h2

theorem Env.ntb (e : Env C F H σ ρ As) {i : Nat} {a : Addr} (ha : a ∈ As i) : ∀ ps, H a ≠ some (.tbl ps) := by
  cases q : ρ[i]? with
  | none => rw [e.emp i (fun t z => by rw [q] at z; cases z)] at ha; cases ha
  | some x =>
    cases x with
    | none => rw [e.emp i (fun t z => by rw [q] at z; cases z)] at ha; cases ha
    | some t =>
      obtain ⟨v, _, h⟩ := e.own i t q
      exact h.ntb a ha
structure Step (F H : Hp) (O : Addr → Prop) (F' H' : Hp) (O' : Addr → Prop) : Prop where
  ff : Same F F'
  keep : ∀ b u, H b = some u → ¬ O b → (∀ ps, u ≠ .tbl ps) → H' b = some u ∧ F' b = F b
  own : ∀ b, O' b → O b ∨ H b = none
  tab : ∀ b ps, H b = some (.tbl ps) → ∃ ps', H' b = some (.tbl ps') ∧ (TriplesOk ps.toList → TriplesOk ps'.toList)
theorem tab_same {H H' : Hp} (h : ∀ b ps, H b = some (.tbl ps) → H' b = some (.tbl ps)) : ∀ b ps, H b = some (.tbl ps) → ∃ ps', H' b = some (.tbl ps') ∧ (TriplesOk ps.toList → TriplesOk ps'.toList) := fun b ps e => ⟨ps, h b ps e, id⟩
theorem Step.refl : Step F H O F H O := ⟨Same.refl F, fun _ _ h _ _ => ⟨h, rfl⟩, fun _ h => .inl h, tab_same fun _ _ h => h⟩
/-- what stands goes on standing, but what is owned -/
theorem Step.some (a : Step F H O F' H' O') {b : Addr} {u : HO} (h : H b = some u) (n : ¬ O b) : ∃ u', H' b = some u' := by
  by_cases ht : ∃ ps, u = .tbl ps
  · obtain ⟨ps, rfl⟩ := ht
    obtain ⟨ps', q, _⟩ := a.tab b ps h
    exact ⟨_, q⟩
  · exact ⟨u, (a.keep b u h n fun ps e => ht ⟨ps, e⟩).1⟩
theorem Step.tabG (a : Step F H O F' H' O') {P : Addr} (h : GxR.TabG H P) : GxR.TabG H' P := by
  obtain ⟨ps, q, k⟩ := h
  obtain ⟨ps', q', k'⟩ := a.tab P ps q
  exact ⟨ps', q', k' k⟩
theorem Step.trans (a : Step F H O F' H' O') (b : Step F' H' O' F2 H2 O2) : Step F H O F2 H2 O2 where
  ff := a.ff.trans b.ff
  keep := fun c u h n nt => by
    obtain ⟨h1, h2⟩ := a.keep c u h n nt
    have n' : ¬ O' c := fun z => by
      rcases a.own c z with z | z
      · exact n z
      · rw [h] at z; cases z
    obtain ⟨h3, h4⟩ := b.keep c u h1 n' nt
    exact ⟨h3, h4.trans h2⟩
  own := fun c h => by
    rcases b.own c h with z | z
    · exact a.own c z
    · by_cases hO : O c
      · exact .inl hO
      · refine .inr ?_
        cases q : H c with
        | none => rfl
        | some u =>
          obtain ⟨u', q'⟩ := a.some q hO
          rw [q'] at z; cases z
  tab := fun c ps h => by
    obtain ⟨ps1, h1, k1⟩ := a.tab c ps h
    obtain ⟨ps2, h2, k2⟩ := b.tab c ps1 h1
    exact ⟨ps2, h2, fun k => k2 (k1 k)⟩
end

/-! ### what an expression gives -/
inductive RV where
  | tv (t : T)
  | pl (i : Nat) (p : List Nat)
structure Exn where
  cls : Str
  fs : List Str
  ts : List T
inductive Out (α : Type) where
  | ok (a : α) (ρ : Rho)
  | exc (x : Exn) (ρ : Rho)
/-- owned by none of the slots, new since H₀ or taken from them -/
def RvOk (C : Ctx) (F H : Hp) (σ : L2.St) (ρ : Rho) (As : Ads) (H₀ : Hp) (O₀ : Addr → Prop) : RV → V → Prop
  | .tv t, v => ∃ A, Own C F H t v A ∧ A.Nodup ∧ ∀ a ∈ A, ¬ Ow As a ∧ (O₀ a ∨ H₀ a = none)
  | .pl i p, v => ∃ t u v₀, ρ[i]? = some (some t) ∧ t.at p = some u ∧ u.mk = true ∧ σ[i]? = some (some v₀) ∧ AtP C H t v₀ p v
/-- what is wanted of an exception -/
abbrev XW := Value → Option Addr → L2.St → Hp → Prop
def ExnOk (C : Ctx) (F : Hp) (x : Exn) (e : Value) (d : Option Addr) (H : Hp) : Prop :=
  ∃ c, C.cls x.cls = some c ∧ e = .ref c ∧
    ((x.fs = [] ∧ d = none) ∨ ∃ dx xs, d = some dx ∧ Reps C F x.ts xs ∧ x.fs.length = xs.length ∧ H dx = some (.xd (x.fs.zip xs)))
/-- all is kept but tables of code objects -/
def SameN (H H' : Hp) : Prop := ∀ b u, H b = some u → (∀ ps, u ≠ .tbl ps) → H' b = some u
theorem Same.n {H H' : Hp} (h : Same H H') : SameN H H' := fun b u e _ => h b u e
theorem SameN.trans {H H1 H2 : Hp} (a : SameN H H1) (b : SameN H1 H2) : SameN H H2 := fun c u e n => b c u (a c u e n) n
theorem NodeR.monoN {C : Ctx} {F F' : Hp} {a : Addr} {xs : List V} {k : Kd} (e : SameN F F') (h : NodeR C F a xs k) : NodeR C F' a xs k := by
  have rd : ∀ {o : HO}, (∀ ps, o ≠ .tbl ps) → Rd F a o → Rd F' a o := fun {o} n h => by
    rcases h with h | ⟨u, h⟩
    · exact .inl (e _ _ h n)
    · exact .inr ⟨u, e _ _ h fun ps z => by cases z⟩
  cases k with
  | lst => exact e _ _ h fun ps z => by cases z
  | scr =>
    rcases h with h | h
    · exact .inl (rd (fun ps z => by cases z) h)
    · exact .inr h
  | tup =>
    rcases h with h | h
    · exact .inl (rd (fun ps z => by cases z) h)
    · exact .inr h
  | dct ks => exact ⟨h.1, rd (fun ps z => by cases z) h.2⟩
  | dtt ks => exact ⟨h.1, rd (fun ps z => by cases z) h.2⟩
  | obj cn fs => obtain ⟨c, dx, h1, h2, h3⟩ := h; exact ⟨c, dx, h1, h2, e _ _ h3 fun ps z => by cases z⟩
mutual
theorem Rep.monoN {C : Ctx} {F F' : Hp} (e : SameN F F') : ∀ {t : T} {v : V}, Rep C F t v → Rep C F' t v
  | .non, _, h => h
  | .bl _, _, h => h
  | .int _, _, h => h
  | .str _, _, h => h
  | .fn _, _, h => h
  | .nd m k ts, v, h => by
    rw [Rep] at h ⊢
    obtain ⟨hm, a, xs, hv, hn, hr⟩ := h
    exact ⟨hm, a, xs, hv, hn.monoN e, Reps.monoN e hr⟩
theorem Reps.monoN {C : Ctx} {F F' : Hp} (e : SameN F F') : ∀ {ts : List T} {xs : List V}, Reps C F ts xs → Reps C F' ts xs
  | [], _, h => h
  | t :: ts, xs, h => by
    rw [Reps] at h ⊢
    obtain ⟨x, r, hx, h1, h2⟩ := h
    exact ⟨x, r, hx, Rep.monoN e h1, Reps.monoN e h2⟩
end
def Pur (p : Bool) (ρ ρ' : Rho) (As As' : Ads) (H H' : Hp) : Prop := p = true → ρ' = ρ ∧ SameN H H'
def PostX (C : Ctx) (E : XW) (σ : L2.St) (F H : Hp) (As : Ads) (x : Exn) (ρ' : Rho) : Prop :=
  ∀ e d F' H' As', Env C F' H' σ ρ' As' → Step F H (Ow As) F' H' (Ow As') → ExnOk C F' x e d H' → E e d σ H'
def PostR (C : Ctx) (E : XW) (p : Bool) (σ : L2.St) (F H : Hp) (ρ : Rho) (As : Ads) (Q : VK) : Out RV → Prop
  | .ok rv ρ' => ∀ v F' H' As', Env C F' H' σ ρ' As' → Step F H (Ow As) F' H' (Ow As') → Pur p ρ ρ' As As' H H' → RvOk C F' H' σ ρ' As' H (Ow As) rv v → Q v H'
  | .exc x ρ' => PostX C E σ F H As x ρ'
def PostV (C : Ctx) (E : XW) (p : Bool) (σ : L2.St) (F H : Hp) (ρ : Rho) (As : Ads) (Q : VK) : Out T → Prop
  | .ok t ρ' => ∀ v F' H' As', Env C F' H' σ ρ' As' → Step F H (Ow As) F' H' (Ow As') → Pur p ρ ρ' As As' H H' → Rep C F' t v → Q v H'
  | .exc x ρ' => PostX C E σ F H As x ρ'
def PostH (C : Ctx) (E : XW) (p : Bool) (σ : L2.St) (F H : Hp) (ρ : Rho) (As : Ads) (Q : VK) : Out T → Prop
  | .ok t ρ' => ∀ v F' H' As', Env C F' H' σ ρ' As' → Step F H (Ow As) F' H' (Ow As') → Pur p ρ ρ' As As' H H' → Rep C H' t v → Q v H'
  | .exc x ρ' => PostX C E σ F H As x ρ'
abbrev DR := Rho → Option (Out RV)
abbrev DV := Rho → Option (Out T)
/-- an expression by its denotation: any result; a value that is frozen; a value that is read now -/
def tR (C : Ctx) (E : XW) (p : Bool) (d : DR) : TE := fun σ H Q => ∃ F ρ As o, Env C F H σ ρ As ∧ d ρ = some o ∧ PostR C E p σ F H ρ As Q o
def tV (C : Ctx) (E : XW) (p : Bool) (d : DV) : TE := fun σ H Q => ∃ F ρ As o, Env C F H σ ρ As ∧ d ρ = some o ∧ PostV C E p σ F H ρ As Q o
def tH (C : Ctx) (E : XW) (p : Bool) (d : DV) : TE := fun σ H Q => ∃ F ρ As o, Env C F H σ ρ As ∧ d ρ = some o ∧ PostH C E p σ F H ρ As Q o

theorem PE_imp {X : Cx} {e : Expr} {t t' : TE} (h : PE X e t) (i : ∀ σ H Q, t' σ H Q → t σ H Q) : PE X e t' := ⟨fun pins s σ H Q I q => h.run pins s σ H Q I (i σ H Q q)⟩
theorem PT_imp {X : Cx} {e : Expr} {t t' : TT} (h : PT X e t) (i : ∀ σ H Q, t' σ H Q → t σ H Q) : PT X e t' := ⟨fun pins s σ H Q I q => h.run pins s σ H Q I (i σ H Q q)⟩
theorem PS_imp {X : Cx} {e : Stmt} {t t' : TS} (h : PS X e t) (i : ∀ D σ H, t' D σ H → t D σ H) : PS X e t' := ⟨fun pins s σ H D I q => h.run pins s σ H D I (i D σ H q)⟩
theorem PSs_imp {X : Cx} {e : List Stmt} {t t' : TS} (h : PSs X e t) (i : ∀ D σ H, t' D σ H → t D σ H) : PSs X e t' := ⟨fun pins s σ H D I q => h.run pins s σ H D I (i D σ H q)⟩

/-- a value out of any result: what is new or stands at a place is frozen (a place only outside of pure code) -/
def frc (p : Bool) : RV → Rho → Option (T × Rho)
  | .tv t, ρ => some (strip t, ρ)
  | .pl i q, ρ => if p then none else match ρ[i]? with
    | some (some t) => match t.at q with
      | some u => some (strip u, ρ.set i (some (t.put q (strip u))))
      | none => none
    | _ => none
/-- what is read now -/
def rdv : RV → Rho → Option T
  | .tv t, _ => some (strip t)
  | .pl i q, ρ => match ρ[i]? with
    | some (some t) => (t.at q).map strip
    | _ => none
def bnd {α β : Type} (d : Rho → Option (Out α)) (k : α → Rho → Option (Out β)) : Rho → Option (Out β) := fun ρ => match d ρ with
  | some (.ok a ρ') => k a ρ'
  | some (.exc x ρ') => some (.exc x ρ')
  | none => none
def dV (p : Bool) (d : DR) : DV := bnd d fun rv ρ => match frc p rv ρ with
  | some (t, ρ') => some (.ok t ρ')
  | none => none
def dH (d : DR) : DV := bnd d fun rv ρ => match rdv rv ρ with
  | some t => some (.ok t ρ)
  | none => none
def dR (d : DV) : DR := bnd d fun t ρ => some (.ok (.tv t) ρ)
theorem bnd_cases {α β : Type} {d : Rho → Option (Out α)} {k : α → Rho → Option (Out β)} {ρ : Rho} {o : Out β} (h : bnd d k ρ = some o) :
    (∃ a ρ', d ρ = some (.ok a ρ') ∧ k a ρ' = some o) ∨ ∃ x ρ', d ρ = some (.exc x ρ') ∧ o = .exc x ρ' := by
  unfold bnd at h
  split at h
  · exact .inl ⟨_, _, by assumption, h⟩
  · cases h; exact .inr ⟨_, _, by assumption, rfl⟩
  · cases h
section
variable {C : Ctx} {F H F' H' : Hp} {σ : L2.St} {ρ ρ' : Rho} {As As' : Ads}
theorem frc_ok {p : Bool} {rv : RV} {v : V} {t : T} {ρ2 : Rho} {H₀ F₀ : Hp} {As₀ : Ads} {ρ₀ : Rho} (e : Env C F H σ ρ As) (st : Step F₀ H₀ (Ow As₀) F H (Ow As)) (pu : Pur p ρ₀ ρ As₀ As H₀ H) (r : RvOk C F H σ ρ As H₀ (Ow As₀) rv v) (h : frc p rv ρ = some (t, ρ2)) :
    ∃ F2 As2, Env C F2 H σ ρ2 As2 ∧ Step F₀ H₀ (Ow As₀) F2 H (Ow As2) ∧ Pur p ρ₀ ρ2 As₀ As2 H₀ H ∧ Rep C F2 t v := by
  cases rv with
  | tv u =>
    simp only [frc, Option.some.injEq, Prod.mk.injEq] at h
    obtain ⟨rfl, rfl⟩ := h
    obtain ⟨A, ho, nd, hA⟩ := r
    have hf := fun a ha => (ho.has a ha).1
    refine ⟨MP.frz F H A, As, e.grow (frz_same hf) (frz_sub e.sub) (fun i a ha => ⟨rfl, ?_⟩) (e.ht.frz ho.ntb), ⟨st.ff.trans (frz_same hf), fun b u h n nt => ?_, st.own, st.tab⟩, pu, ho.frz⟩
    · rw [frz_out fun z => (hA a z).1 ⟨i, ha⟩]; exact (e.has ha).1
    · obtain ⟨h1, h2⟩ := st.keep b u h n nt
      refine ⟨h1, ?_⟩
      rw [frz_out]
      · exact h2
      · intro z
        rcases (hA b z).2 with y | y
        · exact n y
        · rw [h] at y; cases y
  | pl i q =>
    cases p with
    | true => simp [frc] at h
    | false =>
      obtain ⟨t0, u, v0, h1, h2, hm, h3, h4⟩ := r
      simp only [frc, h1, h2, Bool.false_eq_true, if_false, Option.some.injEq, Prod.mk.injEq] at h
      obtain ⟨rfl, rfl⟩ := h
      obtain ⟨v1, hv1, ho⟩ := e.own i t0 h1
      rw [h3] at hv1; cases hv1
      obtain ⟨x, A1, B, A2, hA, hat, hu, f⟩ := own_at ho h2 hm
      cases hat.inj h4
      have hf := fun a ha => (hu.has a ha).1
      have nodA := e.nod i
      rw [hA] at nodA
      have nB : ∀ a ∈ A1 ++ A2, a ∉ B := fun a ha hb => by
        simp only [List.append_assoc, List.nodup_append, List.mem_append] at nodA
        rcases List.mem_append.mp ha with z | z
        · exact nodA.2.2 a z a (.inl hb) rfl
        · exact nodA.2.1.2.2 a hb a z rfl
      have nB2 : ∀ j, j ≠ i → ∀ a ∈ As j, a ∉ B := fun j hj a ha hb => hj (e.dis j i a ha (by rw [hA]; simp [hb]))
      have inAi : ∀ a ∈ A1 ++ A2, a ∈ As i := fun a ha => by rw [hA]; simp at ha ⊢; rcases ha with z | z <;> simp [z]
      have fz : ∀ a, a ∉ B → F a = none → MP.frz F H B a = none := fun a hb hn => by rw [frz_out hb]; exact hn
      refine ⟨MP.frz F H B, updA As i (A1 ++ [] ++ A2), e.put h3 (frz_same hf) (frz_sub e.sub) (fun j hj a ha => ⟨rfl, fz a (nB2 j hj a ha) (e.has ha).1⟩)
        (f _ H (strip u) [] (frz_same hf) (fun a ha => ⟨rfl, fz a (nB a ha) (e.has (inAi a ha)).1⟩) (Own.of_rep hu.frz)) ?_ ?_ (e.ht.frz hu.ntb), ?_, by simp [Pur], hu.frz⟩
      · simp only [List.append_assoc, List.nodup_append, List.mem_append] at nodA ⊢
        refine ⟨nodA.1, by simpa using nodA.2.1.2.1, fun a ha b hb => nodA.2.2 a ha b ?_⟩
        simp at hb
        exact .inr hb
      · intro j hj a ha hb
        exact hj (e.dis j i a ha (by rw [hA]; simp at hb ⊢; rcases hb with z | z <;> simp [z]))
      · have sub : ∀ b, Ow (updA As i (A1 ++ [] ++ A2)) b → Ow As b := fun b ⟨j, hj⟩ => by
          by_cases hji : j = i
          · rw [hji, updA_same] at hj
            exact ⟨i, by rw [hA]; simp at hj ⊢; rcases hj with z | z <;> simp [z]⟩
          · rw [updA_ne hji] at hj; exact ⟨j, hj⟩
        refine ⟨st.ff.trans (frz_same hf), fun b w h n nt => ?_, fun b hb => st.own b (sub b hb), st.tab⟩
        obtain ⟨h1, h2⟩ := st.keep b w h n nt
        refine ⟨h1, ?_⟩
        rw [frz_out]
        · exact h2
        · intro z
          rcases st.own b ⟨i, by rw [hA]; simp [z]⟩ with y | y
          · exact n y
          · rw [h] at y; cases y
theorem rdv_ok {rv : RV} {v : V} {t : T} {H₀ : Hp} {O₀ : Addr → Prop} (e : Env C F H σ ρ As) (r : RvOk C F H σ ρ As H₀ O₀ rv v) (h : rdv rv ρ = some t) : Rep C H t v := by
  cases rv with
  | tv u =>
    simp only [rdv, Option.some.injEq] at h
    subst h
    obtain ⟨A, ho, _, _⟩ := r
    exact ho.read e.sub fun _ _ => rfl
  | pl i q =>
    obtain ⟨t0, u, v0, h1, h2, hm, h3, h4⟩ := r
    simp only [rdv, h1, h2, Option.map_some, Option.some.injEq] at h
    subst h
    obtain ⟨v1, hv1, ho⟩ := e.own i t0 h1
    rw [h3] at hv1; cases hv1
    obtain ⟨x, A1, B, A2, hA, hat, hu, f⟩ := own_at ho h2 hm
    cases hat.inj h4
    exact hu.read e.sub fun _ _ => rfl
end
section
variable {C : Ctx} {X : Cx} {E : XW} {p : Bool} {e : Expr}
theorem toV {d : DR} (h : PE X e (tR C E p d)) : PE X e (tV C E p (dV p d)) := PE_imp h fun σ H Q q => by
  obtain ⟨F, ρ, As, o, env, hd, post⟩ := q
  rcases bnd_cases hd with ⟨rv, ρ', q1, hd⟩ | ⟨x, ρ', q1, rfl⟩
  · refine ⟨F, ρ, As, _, env, q1, fun v F' H' As' env' st pu r => ?_⟩
    split at hd
    · rename_i t ρ2 q2
      cases hd
      obtain ⟨F2, As2, e2, st2, pu2, rp⟩ := frc_ok env' st pu r q2
      exact post v F2 H' As2 e2 st2 pu2 rp
    · cases hd
  · exact ⟨F, ρ, As, _, env, q1, post⟩
theorem toH {d : DR} (h : PE X e (tR C E p d)) : PE X e (tH C E p (dH d)) := PE_imp h fun σ H Q q => by
  obtain ⟨F, ρ, As, o, env, hd, post⟩ := q
  rcases bnd_cases hd with ⟨rv, ρ', q1, hd⟩ | ⟨x, ρ', q1, rfl⟩
  · refine ⟨F, ρ, As, _, env, q1, fun v F' H' As' env' st pu r => ?_⟩
    split at hd
    · rename_i t q2
      cases hd
      exact post v F' H' As' env' st pu (rdv_ok env' r q2)
    · cases hd
  · exact ⟨F, ρ, As, _, env, q1, post⟩
theorem toR {d : DV} (h : PE X e (tV C E p d)) : PE X e (tR C E p (dR d)) := PE_imp h fun σ H Q q => by
  obtain ⟨F, ρ, As, o, env, hd, post⟩ := q
  rcases bnd_cases hd with ⟨t, ρ', q1, hd⟩ | ⟨x, ρ', q1, rfl⟩
  · cases hd
    exact ⟨F, ρ, As, _, env, q1, fun v F' H' As' env' st pu r => post v F' H' As' env' st pu ⟨[], Own.of_rep r, List.nodup_nil, fun a ha => by cases ha⟩⟩
  · exact ⟨F, ρ, As, _, env, q1, post⟩
end

/-! ### one behind the other -/
section
variable {C : Ctx} {E : XW} {p : Bool} {σ : L2.St} {F H : Hp} {ρ ρ1 : Rho} {As As1 : Ads} {F1 H1 : Hp} {x : Exn}
theorem PostX.later (h : PostX C E σ F H As x ρ) (st : Step F H (Ow As) F1 H1 (Ow As1)) : PostX C E σ F1 H1 As1 x ρ :=
  fun e d F' H' As' env st' k => h e d F' H' As' env (st.trans st') k
theorem Pur.trans {ρ ρ1 ρ2 : Rho} {As As1 As2 : Ads} {H H1 H2 : Hp} (a : Pur p ρ ρ1 As As1 H H1) (b : Pur p ρ1 ρ2 As1 As2 H1 H2) : Pur p ρ ρ2 As As2 H H2 := fun h => by
  obtain ⟨a1, a3⟩ := a h
  obtain ⟨b1, b3⟩ := b h
  exact ⟨b1.trans a1, a3.trans b3⟩
theorem Pur.refl {ρ : Rho} {As : Ads} {H : Hp} : Pur p ρ ρ As As H H := fun _ => ⟨rfl, Same.n (Same.refl H)⟩
theorem seqR {β : Type} {d : DR} {k : RV → Rho → Option (Out β)} {o : Out β} {Q : VK} (env : Env C F H σ ρ As) (hd : bnd d k ρ = some o) (hx : ∀ x ρ', o = .exc x ρ' → PostX C E σ F H As x ρ')
    (hk : ∀ rv ρ1, k rv ρ1 = some o → ∀ v F1 H1 As1, Env C F1 H1 σ ρ1 As1 → Step F H (Ow As) F1 H1 (Ow As1) → Pur p ρ ρ1 As As1 H H1 → RvOk C F1 H1 σ ρ1 As1 H (Ow As) rv v → Q v H1) : tR C E p d σ H Q := by
  rcases bnd_cases hd with ⟨rv, ρ', q1, hd⟩ | ⟨x, ρ', q1, rfl⟩
  · exact ⟨F, ρ, As, _, env, q1, hk rv ρ' hd⟩
  · exact ⟨F, ρ, As, _, env, q1, hx x ρ' rfl⟩
theorem seqV {β : Type} {d : DV} {k : T → Rho → Option (Out β)} {o : Out β} {Q : VK} (env : Env C F H σ ρ As) (hd : bnd d k ρ = some o) (hx : ∀ x ρ', o = .exc x ρ' → PostX C E σ F H As x ρ')
    (hk : ∀ t ρ1, k t ρ1 = some o → ∀ v F1 H1 As1, Env C F1 H1 σ ρ1 As1 → Step F H (Ow As) F1 H1 (Ow As1) → Pur p ρ ρ1 As As1 H H1 → Rep C F1 t v → Q v H1) : tV C E p d σ H Q := by
  rcases bnd_cases hd with ⟨t, ρ', q1, hd⟩ | ⟨x, ρ', q1, rfl⟩
  · exact ⟨F, ρ, As, _, env, q1, hk t ρ' hd⟩
  · exact ⟨F, ρ, As, _, env, q1, hx x ρ' rfl⟩
theorem seqH {β : Type} {d : DV} {k : T → Rho → Option (Out β)} {o : Out β} {Q : VK} (env : Env C F H σ ρ As) (hd : bnd d k ρ = some o) (hx : ∀ x ρ', o = .exc x ρ' → PostX C E σ F H As x ρ')
    (hk : ∀ t ρ1, k t ρ1 = some o → ∀ v F1 H1 As1, Env C F1 H1 σ ρ1 As1 → Step F H (Ow As) F1 H1 (Ow As1) → Pur p ρ ρ1 As As1 H H1 → Rep C H1 t v → Q v H1) : tH C E p d σ H Q := by
  rcases bnd_cases hd with ⟨t, ρ', q1, hd⟩ | ⟨x, ρ', q1, rfl⟩
  · exact ⟨F, ρ, As, _, env, q1, hk t ρ' hd⟩
  · exact ⟨F, ρ, As, _, env, q1, hx x ρ' rfl⟩
theorem PostR.xx {Q : VK} {o : Out RV} (h : PostR C E p σ F H ρ As Q o) : ∀ x ρ', o = .exc x ρ' → PostX C E σ F H As x ρ' := fun x ρ' e => by subst e; exact h
theorem PostV.xx {Q : VK} {o : Out T} (h : PostV C E p σ F H ρ As Q o) : ∀ x ρ', o = .exc x ρ' → PostX C E σ F H As x ρ' := fun x ρ' e => by subst e; exact h
theorem PostH.xx {Q : VK} {o : Out T} (h : PostH C E p σ F H ρ As Q o) : ∀ x ρ', o = .exc x ρ' → PostX C E σ F H As x ρ' := fun x ρ' e => by subst e; exact h
/-- new objects, nothing else -/
structure Grow (F H F' H' : Hp) : Prop where
  ff : Same F F'
  hh : Same H H'
  sub : Same F' H'
  old : ∀ b u, H b = some u → F' b = F b
  nt : (∀ b ps, F b ≠ some (.tbl ps)) → ∀ b ps, F' b ≠ some (.tbl ps)
theorem Grow.refl (s : Same F H) : Grow F H F H := ⟨Same.refl F, Same.refl H, s, fun _ _ _ => rfl, fun h => h⟩
theorem Grow.env {F' H' : Hp} (g : Grow F H F' H') (e : Env C F H σ ρ As) : Env C F' H' σ ρ As := e.grow g.ff g.sub (fun i a ha => by
  obtain ⟨h1, o, h2⟩ := e.has ha
  exact ⟨by rw [h2, g.hh _ _ h2], by rw [g.old _ _ h2]; exact h1⟩) ⟨g.nt e.ht.1, fun P hP => by
  obtain ⟨ps, q1, q2⟩ := e.ht.2 P hP
  exact ⟨ps, g.hh _ _ q1, q2⟩⟩
theorem Grow.step {F' H' : Hp} {O : Addr → Prop} (g : Grow F H F' H') : Step F H O F' H' O := ⟨g.ff, fun b u h _ _ => ⟨g.hh _ _ h, g.old b u h⟩, fun _ h => .inl h, tab_same fun _ _ h => g.hh _ _ h⟩
theorem Grow.pur {F' H' : Hp} (g : Grow F H F' H') : Pur p ρ ρ As As H H' := fun _ => ⟨rfl, Same.n g.hh⟩
/-- one new object, frozen at once -/
theorem Grow.frozen {q : Addr} {o : HO} (s : Same F H) (n : H q = none) (ho : ∀ ps, o ≠ .tbl ps := by intro _ z; cases z) : Grow F H (upd F q o) (upd H q o) where
  nt := fun h b ps => by
    by_cases e : b = q
    · rw [e, upd_same]; exact fun z => ho ps (by cases z; rfl)
    · rw [upd_ne e]; exact h b ps
  ff := fun b u h => by rw [upd_ne (ne_of_none (s _ _ h) n)]; exact h
  hh := fun b u h => by rw [upd_ne (ne_of_none h n)]; exact h
  sub := fun b u h => by
    by_cases e : b = q
    · subst e; rw [upd_same] at h ⊢; exact h
    · rw [upd_ne e] at h ⊢; exact s _ _ h
  old := fun b u h => upd_ne (ne_of_none h n)
/-- one new object, owned -/
theorem Grow.fresh {q : Addr} {o : HO} (s : Same F H) (n : H q = none) : Grow F H F (upd H q o) where
  nt := fun h => h
  ff := Same.refl F
  hh := fun b u h => by rw [upd_ne (ne_of_none h n)]; exact h
  sub := fun b u h => by rw [upd_ne (ne_of_none (s _ _ h) n)]; exact s _ _ h
  old := fun _ _ _ => rfl
end
end MP

namespace MP
open PySem L2

/-- the result of an operation on values -/
def NewQ (C : Ctx) (F H : Hp) (t : T) (Q : VK) : Prop := ∀ v F' H' A, Grow F H F' H' → Own C F' H' t v A → A.Nodup → (∀ a ∈ A, H a = none) → Q v H'
theorem NewQ.atom {C : Ctx} {F H : Hp} {t : T} {Q : VK} {v : V} (s : Same F H) (h : NewQ C F H t Q) (r : Rep C F t v) : Q v H :=
  h v F H [] (Grow.refl s) (Own.of_rep r) List.nodup_nil (fun a ha => by cases ha)
/-- a new list, owned -/
theorem NewQ.lst {C : Ctx} {F H : Hp} {ts : List T} {xs : List V} {Q : VK} {q : Addr} (s : Same F H) (h : NewQ C F H (.nd true .lst ts) Q) (n : H q = none) (r : Reps C F ts xs) : Q (.ref q) (upd H q (.lst xs)) := by
  have n' : F q = none := Same.free s n
  refine h _ F _ [q] (Grow.fresh s n) ?_ (by simp) (fun a ha => by simp at ha; rw [ha]; exact n)
  rw [Own]
  exact ⟨q, [], xs, _, rfl, rfl, n', upd_same, rfl, Owns.of_reps r⟩
theorem NewQ.dct {C : Ctx} {F H : Hp} {ks : List Key} {ts : List T} {xs : List V} {Q : VK} {q : Addr} (s : Same F H) (h : NewQ C F H (.nd true (.dct ks) ts) Q) (n : H q = none) (hl : ks.length = ts.length) (r : Reps C F ts xs) : Q (.ref q) (upd H q (.dK (ks.zip xs))) := by
  have n' : F q = none := Same.free s n
  refine h _ F _ [q] (Grow.fresh s n) ?_ (by simp) (fun a ha => by simp at ha; rw [ha]; exact n)
  rw [Own]
  exact ⟨q, [], xs, _, rfl, rfl, n', upd_same, ⟨by rw [hl, r.length], rfl⟩, Owns.of_reps r⟩
/-- a new tuple, frozen -/
theorem NewQ.tup {C : Ctx} {F H : Hp} {ts : List T} {xs : List V} {Q : VK} {q : Addr} (s : Same F H) (h : NewQ C F H (.tup ts) Q) (n : H q = none) (r : Reps C F ts xs) : Q (.ref q) (upd H q (.tup xs)) := by
  have g := Grow.frozen (o := .tup xs) s n
  refine h _ _ _ [] g (Own.of_rep ?_) List.nodup_nil (fun a ha => by cases ha)
  rw [Rep]
  exact ⟨rfl, q, xs, rfl, SqT.of upd_same, r.mono g.ff⟩

/-! ### shapes of values -/
section
variable {C : Ctx} {F : Hp} {v : V}
theorem Rep.int {i : Int} : Rep C F (.int i) v ↔ v = .int i := by rw [Rep]
theorem Rep.str {i : Str} : Rep C F (.str i) v ↔ v = .str i := by rw [Rep]
theorem Rep.bl {i : Bool} : Rep C F (.bl i) v ↔ v = .bl i := by rw [Rep]
theorem Rep.non : Rep C F .non v ↔ v = .non := by rw [Rep]
theorem Rep.nd {m : Bool} {k : Kd} {ts : List T} : Rep C F (.nd m k ts) v ↔ m = false ∧ ∃ a xs, v = .ref a ∧ NodeR C F a xs k ∧ Reps C F ts xs := by rw [Rep]
end

/-! ### operators -/
/-- an operator by trees -/
def rB (C : Ctx) (g : T → T → Option T) : R2 := fun x y H Q => ∃ F tx ty t, Same F H ∧ Rep C F tx x ∧ Rep C F ty y ∧ g tx ty = some t ∧ NewQ C F H t Q
def dB (g : T → T → Option T) (da db : DV) : DR := bnd da fun x => bnd db fun y ρ => match g x y with
  | some t => some (.ok (.tv t) ρ)
  | none => none
section
variable {C : Ctx} {X : Cx} {E : XW} {p : Bool} {a b : Expr} {da db : DV} {pos : Pos}
theorem rv_of_new {F H F' H' : Hp} {σ : L2.St} {ρ : Rho} {As As₀ : Ads} {H₀ F₀ : Hp} {t : T} {v : V} {A : List Addr} (env : Env C F H σ ρ As) (st : Step F₀ H₀ (Ow As₀) F H (Ow As)) (o : Own C F' H' t v A) (n : A.Nodup) (k : ∀ a ∈ A, H a = none) :
    RvOk C F' H' σ ρ As H₀ (Ow As₀) (.tv t) v := ⟨A, o, n, fun a ha => by
  refine ⟨fun ⟨i, hi⟩ => ?_, ?_⟩
  · obtain ⟨_, o, h⟩ := env.has hi
    rw [k a ha] at h; cases h
  · by_cases hO : Ow As₀ a
    · exact .inl hO
    · refine .inr ?_
      cases q : H₀ a with
      | none => rfl
      | some u => obtain ⟨_, this⟩ := st.some q hO; rw [k a ha] at this; cases this⟩
/-- at the end of an expression that gives something new -/
theorem end_new {F H : Hp} {σ : L2.St} {ρ ρ₀ : Rho} {As As₀ : Ads} {H₀ F₀ : Hp} {t : T} {Q : VK} (env : Env C F H σ ρ As) (st : Step F₀ H₀ (Ow As₀) F H (Ow As)) (pu : Pur p ρ₀ ρ As₀ As H₀ H)
    (post : PostR C E p σ F₀ H₀ ρ₀ As₀ Q (.ok (.tv t) ρ)) : NewQ C F H t Q := fun v F' H' A g o n k =>
  post v F' H' As (g.env env) (st.trans g.step) (pu.trans g.pur) (rv_of_new env st o n k)
theorem R_bin {op : Operator} {g : T → T → Option T} (ho : OpR X (binaryOp op) (rB C g)) (ha : PE X a (tV C E p da)) (hb : PE X b (tV C E p db)) : PE X (.BinOp a op b pos) (tR C E p (dB g da db)) :=
  PE_imp (pe_op ho ha hb) fun σ H Q ⟨F, ρ, As, o, env, hd, post⟩ => by
    refine seqV env hd post.xx fun x ρ1 hd v F1 H1 As1 env1 st1 pu1 r1 => seqV env1 hd (fun e ρ' h => (post.xx e ρ' h).later st1) fun y ρ2 hd w F2 H2 As2 env2 st2 pu2 r2 => ?_
    split at hd
    · rename_i t ht
      cases hd
      exact ⟨F2, x, y, t, env2.sub, r1.mono st2.ff, r2, ht, end_new env2 (st1.trans st2) (pu1.trans pu2) post⟩
    · cases hd
end

def addT : T → T → Option T
  | .int i, .int j => some (.int (i + j))
  | .str x, .str y => if x.length + y.length ≤ sizeLine then some (.str (x ++ y)) else none
  | .nd false .lst ts, .nd false .lst us => if ts.length + us.length ≤ sizeLine then some (.nd true .lst (ts ++ us)) else none
  | .nd false .tup ts, .nd false .tup us => if ts.length + us.length ≤ sizeLine ∧ ts ≠ [] then some (.nd false .tup (ts ++ us)) else none
  | _, _ => none
def subT : T → T → Option T
  | .int i, .int j => some (.int (i - j))
  | _, _ => none
def mulT : T → T → Option T
  | .int i, .int j => if i.natAbs < 18446744073709551616 ∨ j.natAbs < 18446744073709551616 then some (.int (i * j)) else none
  | .nd false .lst ts, .int k => if -(2 ^ 63) ≤ k ∧ k < 2 ^ 63 ∧ ts.length * k.toNat ≤ sizeLine then some (.nd true .lst (List.replicate k.toNat ts).flatten) else none
  | _, _ => none
def fdivT : T → T → Option T
  | .int i, .int j => if 0 < j ∧ j.natAbs < 1073741824 then some (.int (i / j)) else none
  | _, _ => none
def modT : T → T → Option T
  | .int i, .int j => if 0 < j then some (.int (i % j)) else none
  | _, _ => none
def powT : T → T → Option T
  | .int i, .int j => if 0 ≤ j ∧ j ≤ 1000000 ∧ i.natAbs < 2 ^ 64 then some (.int (i ^ j.toNat)) else none
  | _, _ => none
section
variable {C : Ctx} {X : Cx}
theorem Reps.rep {F : Hp} {ts : List T} {xs : List V} (r : Reps C F ts xs) : ∀ n : Nat, Reps C F (List.replicate n ts).flatten (List.replicate n xs).flatten
  | 0 => by simp [Reps]
  | n + 1 => by
    rw [List.replicate_succ, List.replicate_succ, List.flatten_cons, List.flatten_cons]
    exact r.append (Reps.rep r n)
theorem op_addT (hK : C.K = X.K) : OpR X (binaryOp .Add) (rB C addT) := by
  intro pins s σ H x y v u Q I rx ry ⟨F, tx, ty, t, sb, hx, hy, hg, q⟩
  unfold addT at hg
  split at hg
  · cases hg
    rw [Rep.int] at hx hy; subst hx hy
    exact op_add pins s σ H _ _ v u Q I rx ry ⟨_, _, rfl, rfl, q.atom sb (Rep.int.mpr rfl)⟩
  · rename_i x1 y1
    split at hg
    · cases hg
      rw [Rep.str] at hx hy; subst hx hy
      exact op_add_str pins s σ H _ _ v u Q I rx ry ⟨_, _, rfl, rfl, by assumption, q.atom sb (Rep.str.mpr rfl)⟩
    · cases hg
  · rename_i ts us
    split at hg
    · cases hg
      rw [Rep.nd] at hx hy
      obtain ⟨_, a, xs, rfl, ha, r1⟩ := hx
      obtain ⟨_, b, ys, rfl, hb, r2⟩ := hy
      exact op_cat pins s σ H _ _ v u Q I rx ry ⟨a, b, xs, ys, rfl, rfl, sb _ _ ha, sb _ _ hb, by rw [← r1.length, ← r2.length]; assumption, fun p np => q.lst sb np (r1.append r2)⟩
    · cases hg
  · rename_i ts us
    split at hg
    · rename_i hc
      cases hg
      rw [Rep.nd] at hx hy
      obtain ⟨_, a, xs, rfl, ha, r1⟩ := hx
      obtain ⟨_, b, ys, rfl, hb, r2⟩ := hy
      have ha' : SqT X.K H a xs := hK ▸ NodeR.mono (k := .tup) sb ha
      have hb' : SqT X.K H b ys := hK ▸ NodeR.mono (k := .tup) sb hb
      refine op_catT pins s σ H _ _ v u Q I rx ry ⟨a, b, xs, ys, rfl, rfl, ha', hb', ?_, by rw [← r1.length, ← r2.length]; exact hc.1, fun e => ?_, fun _ p np => q.tup sb np (r1.append r2)⟩
      · intro e; subst e
        have := r1.length
        exact hc.2 (List.eq_nil_of_length_eq_zero this)
      · subst e
        have e2 : us = [] := List.eq_nil_of_length_eq_zero r2.length
        subst e2
        refine q.atom sb ?_
        rw [List.append_nil]
        exact Rep.nd.mpr ⟨rfl, a, xs, rfl, ha, r1⟩
    · cases hg
  · cases hg
theorem op_subT : OpR X (binaryOp .Sub) (rB C subT) := by
  intro pins s σ H x y v u Q I rx ry ⟨F, tx, ty, t, sb, hx, hy, hg, q⟩
  unfold subT at hg
  split at hg
  · cases hg
    rw [Rep.int] at hx hy; subst hx hy
    exact op_sub pins s σ H _ _ v u Q I rx ry ⟨_, _, rfl, rfl, q.atom sb (Rep.int.mpr rfl)⟩
  · cases hg
theorem op_mulT : OpR X (binaryOp .Mult) (rB C mulT) := by
  intro pins s σ H x y v u Q I rx ry ⟨F, tx, ty, t, sb, hx, hy, hg, q⟩
  unfold mulT at hg
  split at hg
  · split at hg
    · rename_i hc
      cases hg
      rw [Rep.int] at hx hy; subst hx hy
      exact op_mul pins s σ H _ _ v u Q I rx ry ⟨_, _, rfl, rfl, hc.imp (fun h => ⟨by omega, by omega⟩) (fun h => ⟨by omega, by omega⟩), q.atom sb (Rep.int.mpr rfl)⟩
    · cases hg
  · rename_i ts k
    split at hg
    · rename_i hc
      cases hg
      rw [Rep.nd] at hx
      rw [Rep.int] at hy; subst hy
      obtain ⟨_, a, xs, rfl, ha, r1⟩ := hx
      exact op_rep pins s σ H _ _ v u Q I rx ry ⟨a, k, xs, rfl, rfl, sb _ _ ha, hc.1, hc.2.1, by rw [← r1.length]; exact hc.2.2, fun p np => q.lst sb np (r1.rep _)⟩
    · cases hg
  · cases hg
theorem op_fdivT : OpR X (binaryOp .FloorDiv) (rB C fdivT) := by
  intro pins s σ H x y v u Q I rx ry ⟨F, tx, ty, t, sb, hx, hy, hg, q⟩
  unfold fdivT at hg
  split at hg
  · split at hg
    · rename_i hc
      cases hg
      rw [Rep.int] at hx hy; subst hx hy
      exact op_fdiv pins s σ H _ _ v u Q I rx ry ⟨_, _, rfl, rfl, ⟨hc.1, by have := hc.2; omega⟩, q.atom sb (Rep.int.mpr rfl)⟩
    · cases hg
  · cases hg
theorem op_modT : OpR X (binaryOp .Mod) (rB C modT) := by
  intro pins s σ H x y v u Q I rx ry ⟨F, tx, ty, t, sb, hx, hy, hg, q⟩
  unfold modT at hg
  split at hg
  · split at hg
    · rename_i hc
      cases hg
      rw [Rep.int] at hx hy; subst hx hy
      exact op_mod pins s σ H _ _ v u Q I rx ry ⟨_, _, rfl, rfl, hc, q.atom sb (Rep.int.mpr rfl)⟩
    · cases hg
  · cases hg
theorem op_powT : OpR X (binaryOp .Pow) (rB C powT) := by
  intro pins s σ H x y v u Q I rx ry ⟨F, tx, ty, t, sb, hx, hy, hg, q⟩
  unfold powT at hg
  split at hg
  · split at hg
    · rename_i hc
      cases hg
      rw [Rep.int] at hx hy; subst hx hy
      exact op_pow pins s σ H _ _ v u Q I rx ry ⟨_, _, rfl, rfl, hc, q.atom sb (Rep.int.mpr rfl)⟩
    · cases hg
  · cases hg
end

/-! ### names and constants -/
def dVar (i : Nat) : DR := fun ρ => match ρ[i]? with
  | some (some t) => if t.mk then some (.ok (.pl i []) ρ) else some (.ok (.tv t) ρ)
  | _ => none
def dC (t : T) : DV := fun ρ => some (.ok t ρ)
section
variable {C : Ctx} {X : Cx} {E : XW} {p : Bool} {a b : Expr} {da db : DV} {pos : Pos}
theorem R_var {i : Nat} {x : Str} (h : PE X (.Name x pos) (tVar i)) : PE X (.Name x pos) (tR C E p (dVar i)) := PE_imp h fun σ H Q ⟨F, ρ, As, o, env, hd, post⟩ => by
  unfold dVar at hd
  split at hd
  · rename_i t ht
    obtain ⟨v, hv, ho⟩ := env.own i t ht
    refine ⟨v, hv, ?_⟩
    split at hd
    · rename_i hm
      cases hd
      exact post v F H As env Step.refl Pur.refl ⟨t, t, v, ht, by rw [T.at], hm, hv, by rw [AtP]⟩
    · rename_i hm
      cases hd
      obtain ⟨hA, hr⟩ := ho.rep (by simpa using hm)
      exact post v F H As env Step.refl Pur.refl ⟨[], Own.of_rep hr, List.nodup_nil, fun a ha => by cases ha⟩
  · cases hd
theorem V_c {e : Expr} {t : T} {v : V} (h : PE X e (tC v)) (r : ∀ F : Hp, Rep C F t v) : PE X e (tV C E p (dC t)) := PE_imp h fun σ H Q ⟨F, ρ, As, o, env, hd, post⟩ => by
  cases hd
  exact post v F H As env Step.refl Pur.refl (r F)
theorem V_int {i : Int} {j : Nat} : PE X (.Constant (.int i) j pos) (tV C E p (dC (.int i))) := V_c pe_int fun _ => Rep.int.mpr rfl
theorem V_bl {i : Bool} {j : Nat} : PE X (.Constant (.bool i) j pos) (tV C E p (dC (.bl i))) := V_c pe_bl fun _ => Rep.bl.mpr rfl
theorem V_non {j : Nat} : PE X (.Constant .none j pos) (tV C E p (dC .non)) := V_c pe_non fun _ => Rep.non.mpr rfl
theorem V_str {i : Str} {j : Nat} : PE X (.Constant (.str i) j pos) (tV C E p (dC (.str i))) := V_c pe_str fun _ => Rep.str.mpr rfl

/-! ### one operand that is read -/
/-- a value by trees, from one that is read -/
def dU (g : T → Option T) (d : DV) : DV := bnd d fun x ρ => match g x with
  | some t => some (.ok t ρ)
  | none => none
def atomT : T → Bool
  | .nd _ _ _ => false
  | .fn _ => false
  | _ => true
def atomV : T → V
  | .bl b => .bl b
  | .int i => .int i
  | .str x => .str x
  | _ => .non
theorem atom_rep {F : Hp} {t : T} (h : atomT t = true) : Rep C F t (atomV t) := by
  cases t with
  | nd m k ts => cases h
  | fn f => cases h
  | _ => rw [Rep]; rfl
def negT : T → Option T
  | .int i => some (.int (-i))
  | _ => none
theorem neg_ok (ha : PE X a (tH C E p da)) : PE X (.UnaryOp .USub a pos) (tV C E p (dU negT da)) :=
  PE_imp (pe_un un_neg ha) fun σ H Q ⟨F, ρ, As, o, env, hd, post⟩ => by
    refine seqH env hd post.xx fun x ρ1 hd v F1 H1 As1 env1 st1 pu1 r1 => ?_
    split at hd
    · rename_i t ht
      cases hd
      unfold negT at ht
      split at ht
      · cases ht
        rw [Rep.int] at r1; subst r1
        exact ⟨_, rfl, post _ F1 H1 As1 env1 st1 pu1 (Rep.int.mpr rfl)⟩
      · cases ht
    · cases hd
/-- x is None, x is not None -/
def isNonT : T → Bool
  | .non => true
  | _ => false
theorem non_iff {F : Hp} {t : T} {v : V} (r : Rep C F t v) : decide (v = .non) = isNonT t := by
  cases t with
  | non => rw [Rep] at r; subst r; rfl
  | nd m k ts => rw [Rep] at r; obtain ⟨_, a, xs, rfl, _⟩ := r; rfl
  | fn f => rw [Rep] at r; obtain ⟨a, _, rfl⟩ := r; rfl
  | _ => rw [Rep] at r; subst r; rfl
theorem isN_ok {j pos'} (ha : PE X a (tH C E p da)) : PE X (.Compare a [.Is] [.Constant .none j pos'] pos) (tV C E p (dU (fun t => some (.bl (isNonT t))) da)) :=
  PE_imp (pe_cmp (pc_isN ha)) fun σ H Q ⟨F, ρ, As, o, env, hd, post⟩ => by
    refine seqH env hd post.xx fun x ρ1 hd v F1 H1 As1 env1 st1 pu1 r1 => ?_
    cases hd
    rw [non_iff r1]
    exact post _ F1 H1 As1 env1 st1 pu1 (Rep.bl.mpr rfl)
theorem notN_ok {j pos'} (ha : PE X a (tH C E p da)) : PE X (.Compare a [.IsNot] [.Constant .none j pos'] pos) (tV C E p (dU (fun t => some (.bl (!isNonT t))) da)) :=
  PE_imp (pe_cmp (pc_notN ha)) fun σ H Q ⟨F, ρ, As, o, env, hd, post⟩ => by
    refine seqH env hd post.xx fun x ρ1 hd v F1 H1 As1 env1 st1 pu1 r1 => ?_
    cases hd
    rw [non_iff r1]
    exact post _ F1 H1 As1 env1 st1 pu1 (Rep.bl.mpr rfl)
end

/-! ### comparisons -/
def rC (C : Ctx) (g : T → T → Option Bool) : R2 := fun x y H Q => ∃ tx ty b, Rep C H tx x ∧ Rep C H ty y ∧ g tx ty = some b ∧ Q (.bl b) H
/-- both are read; the second one is pure -/
def dCmp (g : T → T → Option Bool) (da db : DV) : DV := bnd da fun x => bnd db fun y ρ => match g x y with
  | some b => some (.ok (.bl b) ρ)
  | none => none
section
variable {C : Ctx} {X : Cx} {E : XW} {p : Bool} {a b c : Expr} {da db dc : DV} {pos : Pos}
/-- pure code is code -/
theorem Pur.any {p : Bool} {ρ ρ' : Rho} {As As' : Ads} {H H' : Hp} (h : Pur true ρ ρ' As As' H H') : Pur p ρ ρ' As As' H H' := fun _ => h rfl
theorem cmpH {g : T → T → Option Bool} {op : CmpOp} (ho : OpR X (compareOp op) (rC C g)) (hm : behindInMarks op b = false) (ha : PE X a (tH C E p da)) (hb : PE X b (tH C E true db)) : PE X (.Compare a [op] [b] pos) (tV C E p (dCmp g da db)) :=
  PE_imp (pe_cmpR ho ha hb hm) fun σ H Q ⟨F, ρ, As, o, env, hd, post⟩ => by
    refine seqH env hd post.xx fun x ρ1 hd v F1 H1 As1 env1 st1 pu1 r1 => seqH env1 hd (fun e ρ' h => (post.xx e ρ' h).later st1) fun y ρ2 hd w F2 H2 As2 env2 st2 pu2 r2 => ?_
    split at hd
    · rename_i t ht
      cases hd
      exact ⟨x, y, t, r1.monoN (pu2 rfl).2, r2, ht, post _ F2 H2 As2 env2 (st1.trans st2) (pu1.trans pu2.any) (Rep.bl.mpr rfl)⟩
    · cases hd
theorem cmpV {g : T → T → Option Bool} {op : CmpOp} (ho : OpR X (compareOp op) (rC C g)) (hm : behindInMarks op b = false) (ha : PE X a (tV C E p da)) (hb : PE X b (tV C E p db)) : PE X (.Compare a [op] [b] pos) (tV C E p (dCmp g da db)) :=
  PE_imp (pe_cmpR ho ha hb hm) fun σ H Q ⟨F, ρ, As, o, env, hd, post⟩ => by
    refine seqV env hd post.xx fun x ρ1 hd v F1 H1 As1 env1 st1 pu1 r1 => seqV env1 hd (fun e ρ' h => (post.xx e ρ' h).later st1) fun y ρ2 hd w F2 H2 As2 env2 st2 pu2 r2 => ?_
    split at hd
    · rename_i t ht
      cases hd
      exact ⟨x, y, t, (r1.mono st2.ff).mono env2.sub, r2.mono env2.sub, ht, post _ F2 H2 As2 env2 (st1.trans st2) (pu1.trans pu2) (Rep.bl.mpr rfl)⟩
    · cases hd

/-! ### tests -/
def PostT (C : Ctx) (E : XW) (p : Bool) (σ : L2.St) (F H : Hp) (ρ : Rho) (As : Ads) (Q : Bool → Hp → Prop) : Out Bool → Prop
  | .ok b ρ' => ∀ F' H' As', Env C F' H' σ ρ' As' → Step F H (Ow As) F' H' (Ow As') → Pur p ρ ρ' As As' H H' → Q b H'
  | .exc x ρ' => PostX C E σ F H As x ρ'
abbrev DT := Rho → Option (Out Bool)
def tT (C : Ctx) (E : XW) (p : Bool) (d : DT) : TT := fun σ H Q => ∃ F ρ As o, Env C F H σ ρ As ∧ d ρ = some o ∧ PostT C E p σ F H ρ As Q o
theorem PostT.xx {σ : L2.St} {F H : Hp} {ρ : Rho} {As : Ads} {Q : Bool → Hp → Prop} {o : Out Bool} (h : PostT C E p σ F H ρ As Q o) : ∀ x ρ', o = .exc x ρ' → PostX C E σ F H As x ρ' := fun x ρ' e => by subst e; exact h
theorem seqT {β : Type} {σ : L2.St} {F H : Hp} {ρ : Rho} {As : Ads} {d : DT} {k : Bool → Rho → Option (Out β)} {o : Out β} {Q : Bool → Hp → Prop} (env : Env C F H σ ρ As) (hd : bnd d k ρ = some o) (hx : ∀ x ρ', o = .exc x ρ' → PostX C E σ F H As x ρ')
    (hk : ∀ b ρ1, k b ρ1 = some o → ∀ F1 H1 As1, Env C F1 H1 σ ρ1 As1 → Step F H (Ow As) F1 H1 (Ow As1) → Pur p ρ ρ1 As As1 H H1 → Q b H1) : tT C E p d σ H Q := by
  rcases bnd_cases hd with ⟨b, ρ', q1, hd⟩ | ⟨x, ρ', q1, rfl⟩
  · exact ⟨F, ρ, As, _, env, q1, hk b ρ' hd⟩
  · exact ⟨F, ρ, As, _, env, q1, hx x ρ' rfl⟩
def truT : T → Option Bool
  | .non => some false
  | .bl b => some b
  | .int i => some (i != 0)
  | .str x => if x.length ≤ sizeLine then some ((x.length : Int) != 0) else none
  | .nd _ .lst ts => some !ts.isEmpty
  | .nd _ .tup ts => some !ts.isEmpty
  | _ => none
def dTru (d : DV) : DT := bnd d fun x ρ => match truT x with
  | some b => some (.ok b ρ)
  | none => none
theorem reps_empty {F : Hp} {ts : List T} {xs : List V} (r : Reps C F ts xs) : (!ts.isEmpty) = !xs.isEmpty := by
  have := r.length
  cases ts <;> cases xs <;> simp_all
theorem truT_ok (hK : C.K = X.K) {H : Hp} {t : T} {v : V} {b : Bool} (r : Rep C H t v) (h : truT t = some b) : TruV X.K v H b := by
  unfold truT at h
  split at h
  · cases h; rw [Rep] at r; subst r; rfl
  · cases h; rw [Rep] at r; subst r; rfl
  · cases h; rw [Rep] at r; subst r; rfl
  · split at h
    · cases h; rw [Rep] at r; subst r; exact ⟨by assumption, rfl⟩
    · cases h
  · cases h
    rw [Rep] at r
    obtain ⟨_, a, xs, rfl, hn, hr⟩ := r
    exact .inl ⟨xs, SqL.of hn, reps_empty hr⟩
  · cases h
    rw [Rep] at r
    obtain ⟨_, a, xs, rfl, hn, hr⟩ := r
    exact .inr (.inl ⟨xs, hK ▸ hn, reps_empty hr⟩)
  · cases h
theorem T_tru (hK : C.K = X.K) (he : ∀ whole, isTrue a X.env whole = (do let v ← whole; standAt a.pos; holding [v] (truthy v))) (ha : PE X a (tH C E p da)) : PT X a (tT C E p (dTru da)) :=
  PT_imp (pt_truth ha he) fun σ H Q ⟨F, ρ, As, o, env, hd, post⟩ => by
    refine seqH env hd post.xx fun x ρ1 hd v F1 H1 As1 env1 st1 pu1 r1 => ?_
    split at hd
    · rename_i b hb
      cases hd
      exact ⟨b, truT_ok hK r1 hb, post F1 H1 As1 env1 st1 pu1⟩
    · cases hd
def dCmpT (g : T → T → Option Bool) (da db : DV) : DT := bnd da fun x => bnd db fun y ρ => match g x y with
  | some b => some (.ok b ρ)
  | none => none
theorem T_cmpH {g : T → T → Option Bool} {op : CmpOp} (ho : OpR X (compareOp op) (rC C g)) (hm : behindInMarks op b = false) (ha : PE X a (tH C E p da)) (hb : PE X b (tH C E true db)) : PT X (.Compare a [op] [b] pos) (tT C E p (dCmpT g da db)) :=
  PT_imp (pt_cmpR ho ha hb hm) fun σ H Q ⟨F, ρ, As, o, env, hd, post⟩ => by
    refine seqH env hd post.xx fun x ρ1 hd v F1 H1 As1 env1 st1 pu1 r1 => seqH env1 hd (fun e ρ' h => (post.xx e ρ' h).later st1) fun y ρ2 hd w F2 H2 As2 env2 st2 pu2 r2 => ?_
    split at hd
    · rename_i t ht
      cases hd
      exact ⟨x, y, t, r1.monoN (pu2 rfl).2, r2, ht, _, rfl, post F2 H2 As2 env2 (st1.trans st2) (pu1.trans pu2.any)⟩
    · cases hd
theorem T_cmpV {g : T → T → Option Bool} {op : CmpOp} (ho : OpR X (compareOp op) (rC C g)) (hm : behindInMarks op b = false) (ha : PE X a (tV C E p da)) (hb : PE X b (tV C E p db)) : PT X (.Compare a [op] [b] pos) (tT C E p (dCmpT g da db)) :=
  PT_imp (pt_cmpR ho ha hb hm) fun σ H Q ⟨F, ρ, As, o, env, hd, post⟩ => by
    refine seqV env hd post.xx fun x ρ1 hd v F1 H1 As1 env1 st1 pu1 r1 => seqV env1 hd (fun e ρ' h => (post.xx e ρ' h).later st1) fun y ρ2 hd w F2 H2 As2 env2 st2 pu2 r2 => ?_
    split at hd
    · rename_i t ht
      cases hd
      exact ⟨x, y, t, (r1.mono st2.ff).mono env2.sub, r2.mono env2.sub, ht, _, rfl, post F2 H2 As2 env2 (st1.trans st2) (pu1.trans pu2)⟩
    · cases hd
/-- a <= b < c -/
def dChn (g g' : T → T → Option Bool) (da db dc : DV) : DT := bnd da fun x => bnd db fun y ρ => match g x y with
  | some true => (bnd dc fun z ρ => match g' y z with
    | some b => some (.ok b ρ)
    | none => none) ρ
  | some false => some (.ok false ρ)
  | none => none
def dTV (d : DT) : DV := bnd d fun b ρ => some (.ok (.bl b) ρ)
def dChnV (g g' : T → T → Option Bool) (da db dc : DV) : DV := bnd (dChn g g' da db dc) fun b ρ => some (.ok (.bl b) ρ)
theorem chn_core {σ : L2.St} {H : Hp} {Q : VK} {g g' : T → T → Option Bool} {op op' : CmpOp} {F : Hp} {ρ : Rho} {As : Ads} {o : Out Bool} (env : Env C F H σ ρ As) (hd : dChn g g' da db dc ρ = some o) (hx : ∀ x ρ', o = .exc x ρ' → PostX C E σ F H As x ρ')
    (hk : ∀ b ρ1, o = .ok b ρ1 → ∀ F1 H1 As1, Env C F1 H1 σ ρ1 As1 → Step F H (Ow As) F1 H1 (Ow As1) → Pur p ρ ρ1 As As1 H H1 → Q (.bl b) H1) : tChain (rC C g) (rC C g') (tV C E p da) (tV C E p db) (tV C E p dc) σ H Q := by
  refine seqV env hd hx fun x ρ1 hd v F1 H1 As1 env1 st1 pu1 r1 => seqV env1 hd (fun e ρ' h => (hx e ρ' h).later st1) fun y ρ2 hd w F2 H2 As2 env2 st2 pu2 r2 => ?_
  split at hd
  · rename_i hg
    refine ⟨x, y, true, (r1.mono st2.ff).mono env2.sub, r2.mono env2.sub, hg, true, rfl, ?_⟩
    rw [if_pos rfl]
    refine seqV env2 hd (fun e ρ' h => (hx e ρ' h).later (st1.trans st2)) fun z ρ3 hd u F3 H3 As3 env3 st3 pu3 r3 => ?_
    split at hd
    · rename_i b hb
      cases hd
      exact ⟨y, z, b, (r2.mono st3.ff).mono env3.sub, r3.mono env3.sub, hb, hk b ρ3 rfl F3 H3 As3 env3 (st1.trans (st2.trans st3)) (pu1.trans (pu2.trans pu3))⟩
    · cases hd
  · rename_i hg
    cases hd
    refine ⟨x, y, false, (r1.mono st2.ff).mono env2.sub, r2.mono env2.sub, hg, false, rfl, ?_⟩
    rw [if_neg Bool.false_ne_true]
    exact hk false ρ2 rfl F2 H2 As2 env2 (st1.trans st2) (pu1.trans pu2)
  · cases hd
theorem T_chn {g g' : T → T → Option Bool} {op op' : CmpOp} (ho : OpR X (compareOp op) (rC C g)) (ho' : OpR X (compareOp op') (rC C g')) (ha : PE X a (tV C E p da)) (hb : PE X b (tV C E p db)) (hc : PE X c (tV C E p dc))
    (hm : lastMarks [op, op'] [b, c] = false) : PT X (.Compare a [op, op'] [b, c] pos) (tT C E p (dChn g g' da db dc)) := by
  refine PT_imp (pt_chain ho ho' ha hb hc hm) fun σ H Q ⟨F, ρ, As, o, env, hd, post⟩ => ?_
  refine chn_core (op := op) (op' := op') env hd post.xx fun b ρ1 e F1 H1 As1 env1 st1 pu1 => ?_
  subst e
  exact ⟨b, rfl, post F1 H1 As1 env1 st1 pu1⟩
theorem V_chn {g g' : T → T → Option Bool} {op op' : CmpOp} (ho : OpR X (compareOp op) (rC C g)) (ho' : OpR X (compareOp op') (rC C g')) (ha : PE X a (tV C E p da)) (hb : PE X b (tV C E p db)) (hc : PE X c (tV C E p dc))
    (hm : lastMarks [op, op'] [b, c] = false) : PE X (.Compare a [op, op'] [b, c] pos) (tV C E p (dChnV g g' da db dc)) := by
  refine PE_imp (pe_chain ho ho' ha hb hc hm) fun σ H Q ⟨F, ρ, As, o, env, hd, post⟩ => ?_
  rcases bnd_cases hd with ⟨b, ρ', q1, hd⟩ | ⟨x, ρ', q1, rfl⟩
  · cases hd
    refine chn_core (op := op) (op' := op') env q1 (fun x ρ' e => by cases e) fun b ρ1 e F1 H1 As1 env1 st1 pu1 => ?_
    cases e
    exact post _ F1 H1 As1 env1 st1 pu1 (Rep.bl.mpr rfl)
  · exact chn_core (op := op) (op' := op') env q1 (fun y ρ1 e => by cases e; exact post) fun b ρ1 e => by cases e
/-- and, or, not -/
def dAnd (d d' : DT) : DT := bnd d fun b => if b = true then d' else fun ρ => some (.ok false ρ)
def dOr (d d' : DT) : DT := bnd d fun b => if b = true then fun ρ => some (.ok true ρ) else d'
def dNot (d : DT) : DT := bnd d fun b ρ => some (.ok (!b) ρ)
theorem PostT.later {σ : L2.St} {F H F1 H1 : Hp} {ρ ρ1 : Rho} {As As1 : Ads} {Q : Bool → Hp → Prop} {o : Out Bool} (h : PostT C E p σ F H ρ As Q o) (st : Step F H (Ow As) F1 H1 (Ow As1)) (pu : Pur p ρ ρ1 As As1 H H1) : PostT C E p σ F1 H1 ρ1 As1 Q o := by
  cases o with
  | ok b ρ' => exact fun F' H' As' env st' pu' => h F' H' As' env (st.trans st') (pu.trans pu')
  | exc x ρ' => exact PostX.later h st
theorem PostV.later {σ : L2.St} {F H F1 H1 : Hp} {ρ ρ1 : Rho} {As As1 : Ads} {Q : VK} {o : Out T} (h : PostV C E p σ F H ρ As Q o) (st : Step F H (Ow As) F1 H1 (Ow As1)) (pu : Pur p ρ ρ1 As As1 H H1) : PostV C E p σ F1 H1 ρ1 As1 Q o := by
  cases o with
  | ok b ρ' => exact fun v F' H' As' env st' pu' => h v F' H' As' env (st.trans st') (pu.trans pu')
  | exc x ρ' => exact PostX.later h st
theorem RvOk.later {σ : L2.St} {F H F1 H1 F2 H2 : Hp} {ρ : Rho} {As As1 As2 : Ads} {rv : RV} {v : V} (st : Step F H (Ow As) F1 H1 (Ow As1)) (h : RvOk C F2 H2 σ ρ As2 H1 (Ow As1) rv v) : RvOk C F2 H2 σ ρ As2 H (Ow As) rv v := by
  cases rv with
  | pl i q => exact h
  | tv t =>
    obtain ⟨A, o, n, k⟩ := h
    refine ⟨A, o, n, fun a ha => ⟨(k a ha).1, ?_⟩⟩
    rcases (k a ha).2 with z | z
    · exact st.own a z
    · by_cases hO : Ow As a
      · exact .inl hO
      · refine .inr ?_
        cases q : H a with
        | none => rfl
        | some u => obtain ⟨_, this⟩ := st.some q hO; rw [z] at this; cases this
theorem PostR.later {σ : L2.St} {F H F1 H1 : Hp} {ρ ρ1 : Rho} {As As1 : Ads} {Q : VK} {o : Out RV} (h : PostR C E p σ F H ρ As Q o) (st : Step F H (Ow As) F1 H1 (Ow As1)) (pu : Pur p ρ ρ1 As As1 H H1) : PostR C E p σ F1 H1 ρ1 As1 Q o := by
  cases o with
  | ok b ρ' => exact fun v F' H' As' env st' pu' r => h v F' H' As' env (st.trans st') (pu.trans pu') (r.later st)
  | exc x ρ' => exact PostX.later h st
section
variable {d d' : DT} {x y : Expr} {rest : List Expr}
theorem W_and1 (h : PT X x (tT C E p d)) : PW X (.BoolOp .And [x] pos) (tT C E p d) := ⟨(pw_and1 h).run⟩
theorem W_or1 (h : PT X x (tT C E p d)) : PW X (.BoolOp .Or [x] pos) (tT C E p d) := ⟨(pw_or1 h).run⟩
theorem PW_imp {e : Expr} {t t' : TT} (h : PW X e t) (i : ∀ σ H Q, t' σ H Q → t σ H Q) : PW X e t' := ⟨fun whole pins s σ H Q I q => h.run whole pins s σ H Q I (i σ H Q q)⟩
theorem W_and (ha : PT X x (tT C E p d)) (hb : PW X (.BoolOp .And (y :: rest) pos) (tT C E p d')) : PW X (.BoolOp .And (x :: y :: rest) pos) (tT C E p (dAnd d d')) :=
  PW_imp (pw_and ha hb) fun σ H Q ⟨F, ρ, As, o, env, hd, post⟩ => by
    refine seqT env hd post.xx fun b ρ1 hd F1 H1 As1 env1 st1 pu1 => ?_
    split
    · rename_i hb; subst hb; rw [if_pos rfl] at hd
      exact ⟨F1, ρ1, As1, o, env1, hd, post.later st1 pu1⟩
    · rename_i hb
      have hb : b = false := by simpa using hb
      subst hb; rw [if_neg Bool.false_ne_true] at hd
      cases hd
      exact post F1 H1 As1 env1 st1 pu1
theorem W_or (ha : PT X x (tT C E p d)) (hb : PW X (.BoolOp .Or (y :: rest) pos) (tT C E p d')) : PW X (.BoolOp .Or (x :: y :: rest) pos) (tT C E p (dOr d d')) :=
  PW_imp (pw_or ha hb) fun σ H Q ⟨F, ρ, As, o, env, hd, post⟩ => by
    refine seqT env hd post.xx fun b ρ1 hd F1 H1 As1 env1 st1 pu1 => ?_
    split
    · rename_i hb; subst hb; rw [if_pos rfl] at hd
      cases hd
      exact post F1 H1 As1 env1 st1 pu1
    · rename_i hb
      have hb : b = false := by simpa using hb
      subst hb; rw [if_neg Bool.false_ne_true] at hd
      exact ⟨F1, ρ1, As1, o, env1, hd, post.later st1 pu1⟩
theorem T_not (ha : PT X x (tT C E p d)) : PT X (.UnaryOp .Not x pos) (tT C E p (dNot d)) :=
  PT_imp (pt_not ha) fun σ H Q ⟨F, ρ, As, o, env, hd, post⟩ => by
    refine seqT env hd post.xx fun b ρ1 hd F1 H1 As1 env1 st1 pu1 => ?_
    cases hd
    exact post F1 H1 As1 env1 st1 pu1
end
/-- the same as values: what stands ahead of the last is True or False -/
def dAndV (d d' : DV) : DV := bnd d fun x => match x with
  | .bl true => d'
  | .bl false => fun ρ => some (.ok (.bl false) ρ)
  | _ => fun _ => none
def dOrV (d d' : DV) : DV := bnd d fun x => match x with
  | .bl true => fun ρ => some (.ok (.bl true) ρ)
  | .bl false => d'
  | _ => fun _ => none
def dNotV (d : DV) : DV := bnd d fun x => match x with
  | .bl b => fun ρ => some (.ok (.bl (!b)) ρ)
  | _ => fun _ => none
section
variable {d d' : DV} {x y : Expr} {rest : List Expr}
theorem V_one {op} (h : PE X x (tV C E p d)) : PE X (.BoolOp op [x] pos) (tV C E p d) := pe_one h
theorem V_and (ha : PE X x (tV C E p d)) (hb : PE X (.BoolOp .And (y :: rest) pos) (tV C E p d')) : PE X (.BoolOp .And (x :: y :: rest) pos) (tV C E p (dAndV d d')) :=
  PE_imp (pe_and ha hb) fun σ H Q ⟨F, ρ, As, o, env, hd, post⟩ => by
    refine seqV env hd post.xx fun z ρ1 hd v F1 H1 As1 env1 st1 pu1 r1 => ?_
    split at hd
    · rw [Rep.bl] at r1; subst r1
      refine ⟨true, rfl, ?_⟩
      rw [if_pos rfl]
      exact ⟨F1, ρ1, As1, o, env1, hd, post.later st1 pu1⟩
    · rw [Rep.bl] at r1; subst r1
      refine ⟨false, rfl, ?_⟩
      rw [if_neg Bool.false_ne_true]
      cases hd
      exact post _ F1 H1 As1 env1 st1 pu1 (Rep.bl.mpr rfl)
    · cases hd
theorem V_or (ha : PE X x (tV C E p d)) (hb : PE X (.BoolOp .Or (y :: rest) pos) (tV C E p d')) : PE X (.BoolOp .Or (x :: y :: rest) pos) (tV C E p (dOrV d d')) :=
  PE_imp (pe_or ha hb) fun σ H Q ⟨F, ρ, As, o, env, hd, post⟩ => by
    refine seqV env hd post.xx fun z ρ1 hd v F1 H1 As1 env1 st1 pu1 r1 => ?_
    split at hd
    · rw [Rep.bl] at r1; subst r1
      refine ⟨true, rfl, ?_⟩
      rw [if_pos rfl]
      cases hd
      exact post _ F1 H1 As1 env1 st1 pu1 (Rep.bl.mpr rfl)
    · rw [Rep.bl] at r1; subst r1
      refine ⟨false, rfl, ?_⟩
      rw [if_neg Bool.false_ne_true]
      exact ⟨F1, ρ1, As1, o, env1, hd, post.later st1 pu1⟩
    · cases hd
theorem V_not (ha : PE X x (tV C E p d)) : PE X (.UnaryOp .Not x pos) (tV C E p (dNotV d)) :=
  PE_imp (pe_not ha) fun σ H Q ⟨F, ρ, As, o, env, hd, post⟩ => by
    refine seqV env hd post.xx fun z ρ1 hd v F1 H1 As1 env1 st1 pu1 r1 => ?_
    split at hd
    · rw [Rep.bl] at r1; subst r1
      cases hd
      exact ⟨_, rfl, post _ F1 H1 As1 env1 st1 pu1 (Rep.bl.mpr rfl)⟩
    · cases hd
/-- x if t else y -/
def dIf (t : DT) (d d' : DR) : DR := bnd t fun b => if b = true then d else d'
theorem R_if {t : DT} {d d' : DR} {c a b : Expr} (hc : PT X c (tT C E p t)) (ha : PE X a (tR C E p d)) (hb : PE X b (tR C E p d')) : PE X (.IfExp c a b pos) (tR C E p (dIf t d d')) :=
  PE_imp (pe_ifExp hc ha hb) fun σ H Q ⟨F, ρ, As, o, env, hd, post⟩ => by
    refine seqT env hd post.xx fun z ρ1 hd F1 H1 As1 env1 st1 pu1 => ?_
    split
    · rename_i hz; subst hz; rw [if_pos rfl] at hd
      exact ⟨F1, ρ1, As1, o, env1, hd, post.later st1 pu1⟩
    · rename_i hz; rw [if_neg hz] at hd
      exact ⟨F1, ρ1, As1, o, env1, hd, post.later st1 pu1⟩
end
end
end MP

namespace MP
open PySem L2

/-! ### argument lists -/
def noStar : Expr → Bool
  | .Starred _ _ => false
  | _ => true
theorem star_cons {e : Expr} {es : List Expr} {env : PySem.Env} (h : noStar e = true) : starEach (e :: es) env = (false, eval e env) :: starEach es env := by
  cases e <;> first | rfl | cases h
theorem star_any {pos : Pos} {env : PySem.Env} : ∀ {es : List Expr}, es.all noStar = true → (backTo pos (starEach es env)).any (·.1) = false
  | [], _ => by simp [starEach, backTo]
  | [e], h => by
    simp only [List.all_cons, List.all_nil, Bool.and_true] at h
    rw [star_cons h]
    simp [starEach, backTo]
  | e :: e' :: es, h => by
    simp only [List.all_cons, Bool.and_eq_true] at h
    rw [star_cons h.1]
    have ih := star_any (pos := pos) (env := env) (es := e' :: es) (by simp [h.2])
    first
      | (simp [backTo] at ih ⊢; exact ih)
      | simp [backTo, ih]
abbrev DA := Rho → Option (Out (List T))
def PostA (C : Ctx) (E : XW) (p : Bool) (σ : L2.St) (F H : Hp) (ρ : Rho) (As : Ads) (Q : List V → Hp → Prop) : Out (List T) → Prop
  | .ok ts ρ' => ∀ vs F' H' As', Env C F' H' σ ρ' As' → Step F H (Ow As) F' H' (Ow As') → Pur p ρ ρ' As As' H H' → Reps C F' ts vs → Q vs H'
  | .exc x ρ' => PostX C E σ F H As x ρ'
def tAr (C : Ctx) (E : XW) (p : Bool) (d : DA) : TA := fun σ H Q => ∃ F ρ As o, Env C F H σ ρ As ∧ d ρ = some o ∧ PostA C E p σ F H ρ As Q o
theorem PostA.xx {C : Ctx} {E : XW} {p : Bool} {σ : L2.St} {F H : Hp} {ρ : Rho} {As : Ads} {Q : List V → Hp → Prop} {o : Out (List T)} (h : PostA C E p σ F H ρ As Q o) : ∀ x ρ', o = .exc x ρ' → PostX C E σ F H As x ρ' := fun x ρ' e => by subst e; exact h
theorem seqA {C : Ctx} {E : XW} {p : Bool} {β : Type} {σ : L2.St} {F H : Hp} {ρ : Rho} {As : Ads} {d : DA} {k : List T → Rho → Option (Out β)} {o : Out β} {Q : List V → Hp → Prop} (env : Env C F H σ ρ As) (hd : bnd d k ρ = some o) (hx : ∀ x ρ', o = .exc x ρ' → PostX C E σ F H As x ρ')
    (hk : ∀ ts ρ1, k ts ρ1 = some o → ∀ vs F1 H1 As1, Env C F1 H1 σ ρ1 As1 → Step F H (Ow As) F1 H1 (Ow As1) → Pur p ρ ρ1 As As1 H H1 → Reps C F1 ts vs → Q vs H1) : tAr C E p d σ H Q := by
  rcases bnd_cases hd with ⟨b, ρ', q1, hd⟩ | ⟨x, ρ', q1, rfl⟩
  · exact ⟨F, ρ, As, _, env, q1, hk b ρ' hd⟩
  · exact ⟨F, ρ, As, _, env, q1, hx x ρ' rfl⟩
def dNil : DA := fun ρ => some (.ok [] ρ)
def dCons (d : DV) (ds : DA) : DA := bnd d fun t => bnd ds fun ts ρ => some (.ok (t :: ts) ρ)
theorem PA_imp {X : Cx} {e : List Expr} {t t' : TA} (h : PA X e t) (i : ∀ σ H Q, t' σ H Q → t σ H Q) : PA X e t' := ⟨fun pos pins s σ H Q I q => h.run pos pins s σ H Q I (i σ H Q q)⟩
section
variable {C : Ctx} {X : Cx} {E : XW} {p : Bool} {e : Expr} {es : List Expr} {d : DV} {ds : DA} {pos : Pos}
theorem A_nil : PA X [] (tAr C E p dNil) := PA_imp pa_nil fun σ H Q ⟨F, ρ, As, o, env, hd, post⟩ => by
  cases hd
  exact post [] F H As env Step.refl Pur.refl (by rw [Reps])
theorem A_cons (ha : PE X e (tV C E p d)) (hr : PA X es (tAr C E p ds)) (hs : noStar e = true) : PA X (e :: es) (tAr C E p (dCons d ds)) := PA_imp (pa_cons ha hr (star_cons hs)) fun σ H Q ⟨F, ρ, As, o, env, hd, post⟩ => by
  refine seqV env hd post.xx fun x ρ1 hd v F1 H1 As1 env1 st1 pu1 r1 => seqA env1 hd (fun e ρ' h => (post.xx e ρ' h).later st1) fun ts ρ2 hd vs F2 H2 As2 env2 st2 pu2 r2 => ?_
  cases hd
  exact post (v :: vs) F2 H2 As2 env2 (st1.trans st2) (pu1.trans pu2) (by rw [Reps]; exact ⟨v, vs, rfl, r1.mono st2.ff, r2⟩)
/-! ### displays -/
def dTup (ds : DA) : DR := bnd ds fun ts ρ => if ts.length ≤ sizeLine then some (.ok (.tv (.tup ts)) ρ) else none
def dLst (ds : DA) : DR := bnd ds fun ts ρ => if ts.length ≤ sizeLine then some (.ok (.tv (.nd true .lst ts)) ρ) else none
theorem R_tup {x1} (h : PA X es (tAr C E p ds)) : PE X (.Tuple es x1 pos) (tR C E p (dTup ds)) := PE_imp (pe_tup h) fun σ H Q ⟨F, ρ, As, o, env, hd, post⟩ => by
  refine seqA env hd post.xx fun ts ρ1 hd vs F1 H1 As1 env1 st1 pu1 r1 => ?_
  split at hd
  · cases hd
    exact ⟨by rw [← r1.length]; assumption, fun q nq => (end_new env1 st1 pu1 post).tup env1.sub nq r1⟩
  · cases hd
theorem R_lst (h : PA X es (tAr C E p ds)) : PE X (.List es pos) (tR C E p (dLst ds)) := PE_imp (pe_lst h) fun σ H Q ⟨F, ρ, As, o, env, hd, post⟩ => by
  refine seqA env hd post.xx fun ts ρ1 hd vs F1 H1 As1 env1 st1 pu1 r1 => ?_
  split at hd
  · cases hd
    exact ⟨by rw [← r1.length]; assumption, fun q nq => (end_new env1 st1 pu1 post).lst env1.sub nq r1⟩
  · cases hd
def dDct0 : DR := fun ρ => some (.ok (.tv (.nd true (.dct []) [])) ρ)
theorem R_dct0 : PE X (.Dict [] [] pos) (tR C E p dDct0) := PE_imp pe_dnewK fun σ H Q ⟨F, ρ, As, o, env, hd, post⟩ => fun q nq => by
  cases hd
  have := (end_new env Step.refl Pur.refl post).dct env.sub nq (ks := []) (ts := []) (xs := []) rfl (by rw [Reps])
  exact this
end

/-! ### a def by its denotation -/
/-- io: the one parameter whose object may be changed -/
structure FnD where
  n : Nat
  io : Option Nat
  d : DR
def spD (C : Ctx) (fd : FnD) : Sp := fun vs H Q Ex => vs.length = fd.n ∧ tR C (fun e d _ H' => Ex e d H') false fd.d (vs.map some) H Q
/-- the arguments: a value, or a slot's object that is handed on -/
def ArgOk (C : Ctx) (F : Hp) (σ : L2.St) (p : Bool) (io : Option Nat) (k : Nat) : RV → V → Prop
  | .tv t, v => Rep C F t v
  | .pl i q, v => p = false ∧ io = some k ∧ q = [] ∧ σ[i]? = some (some v)
def ArgsOk (C : Ctx) (F : Hp) (σ : L2.St) (p : Bool) (io : Option Nat) : Nat → List RV → List V → Prop
  | _, [], vs => vs = []
  | k, rv :: r, vs => ∃ v w, vs = v :: w ∧ ArgOk C F σ p io k rv v ∧ ArgsOk C F σ p io (k + 1) r w
theorem ArgOk.mono {C : Ctx} {F F' : Hp} {σ : L2.St} {p : Bool} {io : Option Nat} {k : Nat} {rv : RV} {v : V} (e : Same F F') (h : ArgOk C F σ p io k rv v) : ArgOk C F' σ p io k rv v := by
  cases rv with
  | tv t => exact Rep.mono e h
  | pl i q => exact h
theorem ArgsOk.get {C : Ctx} {F : Hp} {σ : L2.St} {p : Bool} {io : Option Nat} : ∀ {k : Nat} {rvs : List RV} {vs : List V}, ArgsOk C F σ p io k rvs vs → rvs.length = vs.length ∧ ∀ j rv, rvs[j]? = some rv → ∃ v, vs[j]? = some v ∧ ArgOk C F σ p io (k + j) rv v
  | _, [], _, h => by rw [ArgsOk] at h; subst h; exact ⟨rfl, fun j rv e => by simp at e⟩
  | k, rv :: r, vs, h => by
    rw [ArgsOk] at h
    obtain ⟨v, w, rfl, h1, h2⟩ := h
    obtain ⟨hl, g⟩ := h2.get
    refine ⟨by simp [hl], fun j rv' e => ?_⟩
    cases j with
    | zero => simp at e; subst e; exact ⟨v, by simp, h1⟩
    | succ j =>
      simp at e
      obtain ⟨y, hy, q⟩ := g j rv' e
      exact ⟨y, by simpa using hy, by rw [show k + (j + 1) = k + 1 + j by omega]; exact q⟩
abbrev DAo := Rho → Option (Out (List RV))
def PostAo (C : Ctx) (E : XW) (p : Bool) (io : Option Nat) (k : Nat) (σ : L2.St) (F H : Hp) (ρ : Rho) (As : Ads) (Q : List V → Hp → Prop) : Out (List RV) → Prop
  | .ok rvs ρ' => ∀ vs F' H' As', Env C F' H' σ ρ' As' → Step F H (Ow As) F' H' (Ow As') → Pur p ρ ρ' As As' H H' → ArgsOk C F' σ p io k rvs vs → Q vs H'
  | .exc x ρ' => PostX C E σ F H As x ρ'
def tAo (C : Ctx) (E : XW) (p : Bool) (io : Option Nat) (k : Nat) (d : DAo) : TA := fun σ H Q => ∃ F ρ As o, Env C F H σ ρ As ∧ d ρ = some o ∧ PostAo C E p io k σ F H ρ As Q o
theorem PostAo.xx {C : Ctx} {E : XW} {p : Bool} {io : Option Nat} {k : Nat} {σ : L2.St} {F H : Hp} {ρ : Rho} {As : Ads} {Q : List V → Hp → Prop} {o : Out (List RV)} (h : PostAo C E p io k σ F H ρ As Q o) : ∀ x ρ', o = .exc x ρ' → PostX C E σ F H As x ρ' := fun x ρ' e => by subst e; exact h
theorem seqAo {C : Ctx} {E : XW} {p : Bool} {io : Option Nat} {j : Nat} {β : Type} {σ : L2.St} {F H : Hp} {ρ : Rho} {As : Ads} {d : DAo} {k : List RV → Rho → Option (Out β)} {o : Out β} {Q : List V → Hp → Prop} (env : Env C F H σ ρ As) (hd : bnd d k ρ = some o) (hx : ∀ x ρ', o = .exc x ρ' → PostX C E σ F H As x ρ')
    (hk : ∀ ts ρ1, k ts ρ1 = some o → ∀ vs F1 H1 As1, Env C F1 H1 σ ρ1 As1 → Step F H (Ow As) F1 H1 (Ow As1) → Pur p ρ ρ1 As As1 H H1 → ArgsOk C F1 σ p io j ts vs → Q vs H1) : tAo C E p io j d σ H Q := by
  rcases bnd_cases hd with ⟨b, ρ', q1, hd⟩ | ⟨x, ρ', q1, rfl⟩
  · exact ⟨F, ρ, As, _, env, q1, hk b ρ' hd⟩
  · exact ⟨F, ρ, As, _, env, q1, hx x ρ' rfl⟩
/-- one argument -/
def argc (p io : Bool) : RV → Rho → Option (RV × Rho)
  | .tv t, ρ => match frc p (.tv t) ρ with
    | some (u, ρ') => some (.tv u, ρ')
    | none => none
  | .pl i q, ρ => if io = true ∧ q = [] then (if p = true then none else some (.pl i q, ρ)) else match frc p (.pl i q) ρ with
    | some (u, ρ') => some (.tv u, ρ')
    | none => none
def dArg (p io : Bool) (d : DR) : Rho → Option (Out RV) := bnd d fun rv ρ => match argc p io rv ρ with
  | some (u, ρ') => some (.ok u ρ')
  | none => none
def PostG (C : Ctx) (E : XW) (p : Bool) (io : Option Nat) (k : Nat) (σ : L2.St) (F H : Hp) (ρ : Rho) (As : Ads) (Q : VK) : Out RV → Prop
  | .ok rv ρ' => ∀ v F' H' As', Env C F' H' σ ρ' As' → Step F H (Ow As) F' H' (Ow As') → Pur p ρ ρ' As As' H H' → ArgOk C F' σ p io k rv v → Q v H'
  | .exc x ρ' => PostX C E σ F H As x ρ'
def tG (C : Ctx) (E : XW) (p : Bool) (io : Option Nat) (k : Nat) (d : DR) : TE := fun σ H Q => ∃ F ρ As o, Env C F H σ ρ As ∧ d ρ = some o ∧ PostG C E p io k σ F H ρ As Q o
theorem argc_ok {C : Ctx} {F H : Hp} {σ : L2.St} {ρ : Rho} {As : Ads} {p : Bool} {io : Option Nat} {k : Nat} {rv rv2 : RV} {v : V} {ρ2 : Rho} {H₀ F₀ : Hp} {As₀ : Ads} {ρ₀ : Rho} (e : Env C F H σ ρ As) (st : Step F₀ H₀ (Ow As₀) F H (Ow As)) (pu : Pur p ρ₀ ρ As₀ As H₀ H)
    (r : RvOk C F H σ ρ As H₀ (Ow As₀) rv v) (h : argc p (io == some k) rv ρ = some (rv2, ρ2)) :
    ∃ F2 As2, Env C F2 H σ ρ2 As2 ∧ Step F₀ H₀ (Ow As₀) F2 H (Ow As2) ∧ Pur p ρ₀ ρ2 As₀ As2 H₀ H ∧ ArgOk C F2 σ p io k rv2 v := by
  have gen : ∀ u, (match frc p rv ρ with | some (u, ρ') => some (RV.tv u, ρ') | none => none) = some (u, ρ2) → ∃ F2 As2, Env C F2 H σ ρ2 As2 ∧ Step F₀ H₀ (Ow As₀) F2 H (Ow As2) ∧ Pur p ρ₀ ρ2 As₀ As2 H₀ H ∧ ArgOk C F2 σ p io k u v := fun u h => by
    cases q : frc p rv ρ with
    | none => rw [q] at h; cases h
    | some w =>
      obtain ⟨t, ρ3⟩ := w
      rw [q] at h
      cases h
      exact frc_ok e st pu r q
  cases rv with
  | tv t => exact gen rv2 h
  | pl i q =>
    simp only [argc] at h
    split at h
    · rename_i hc
      split at h
      · cases h
      · rename_i hp
        cases h
        obtain ⟨t, u, v0, _, _, _, hv, ha⟩ := r
        obtain ⟨hc1, rfl⟩ := hc
        rw [AtP] at ha; subst ha
        exact ⟨F, As, e, st, pu, by simpa using hp, by simpa using hc1, rfl, hv⟩
    · exact gen rv2 h
def doNil : DAo := fun ρ => some (.ok [] ρ)
def doCons (d : Rho → Option (Out RV)) (ds : DAo) : DAo := bnd d fun t => bnd ds fun ts ρ => some (.ok (t :: ts) ρ)
section
variable {C : Ctx} {X : Cx} {E : XW} {p : Bool} {io : Option Nat} {k : Nat} {e : Expr} {es : List Expr} {d : DR} {ds : DAo} {pos : Pos}
theorem toG (h : PE X e (tR C E p d)) : PE X e (tG C E p io k (dArg p (io == some k) d)) := PE_imp h fun σ H Q ⟨F, ρ, As, o, env, hd, post⟩ => by
  rcases bnd_cases hd with ⟨rv, ρ', q1, hd⟩ | ⟨x, ρ', q1, rfl⟩
  · refine ⟨F, ρ, As, _, env, q1, fun v F' H' As' env' st pu r => ?_⟩
    split at hd
    · rename_i t ρ2 q2
      cases hd
      obtain ⟨F2, As2, e2, st2, pu2, rp⟩ := argc_ok env' st pu r q2
      exact post v F2 H' As2 e2 st2 pu2 rp
    · cases hd
  · exact ⟨F, ρ, As, _, env, q1, post⟩
theorem Ao_nil : PA X [] (tAo C E p io k doNil) := PA_imp pa_nil fun σ H Q ⟨F, ρ, As, o, env, hd, post⟩ => by
  cases hd
  exact post [] F H As env Step.refl Pur.refl (by rw [ArgsOk])
theorem Ao_cons (ha : PE X e (tG C E p io k d)) (hr : PA X es (tAo C E p io (k + 1) ds)) (hs : noStar e = true) : PA X (e :: es) (tAo C E p io k (doCons d ds)) := PA_imp (pa_cons ha hr (star_cons hs)) fun σ H Q ⟨F, ρ, As, o, env, hd, post⟩ => by
  rcases bnd_cases hd with ⟨rv, ρ1, q1, hd⟩ | ⟨x, ρ', q1, rfl⟩
  · refine ⟨F, ρ, As, _, env, q1, fun v F1 H1 As1 env1 st1 pu1 r1 => ?_⟩
    refine seqAo env1 hd (fun e ρ' h => (post.xx e ρ' h).later st1) fun ts ρ2 hd vs F2 H2 As2 env2 st2 pu2 r2 => ?_
    cases hd
    exact post (v :: vs) F2 H2 As2 env2 (st1.trans st2) (pu1.trans pu2) (by rw [ArgsOk]; exact ⟨v, vs, rfl, r1.mono st2.ff, r2⟩)
  · exact ⟨F, ρ, As, _, env, q1, post⟩
end

/-! ### a call -/
def argT : List RV → Rho → Option (List T)
  | [], _ => some []
  | .tv t :: r, ρ => match argT r ρ with
    | some ts => some (t :: ts)
    | none => none
  | .pl i _ :: r, ρ => match ρ[i]?, argT r ρ with
    | some (some t), some ts => some (t :: ts)
    | _, _ => none
theorem argT_get : ∀ {rvs : List RV} {ρ : Rho} {ts : List T}, argT rvs ρ = some ts → ts.length = rvs.length ∧ ∀ (j : Nat) (rv : RV), rvs[j]? = some rv → ∃ t, ts[j]? = some t ∧ (match rv with | .tv u => t = u | .pl i _ => ρ[i]? = some (some t))
  | [], ρ, ts, h => by rw [argT] at h; cases h; exact ⟨rfl, fun j rv e => by simp at e⟩
  | .tv t :: r, ρ, ts, h => by
    rw [argT] at h
    split at h
    · rename_i us q
      cases h
      obtain ⟨hl, g⟩ := argT_get q
      refine ⟨by simp [hl], fun j rv e => ?_⟩
      cases j with
      | zero => simp at e; subst e; exact ⟨t, by simp, rfl⟩
      | succ j => simp at e; simpa using g j rv e
    · cases h
  | .pl i q :: r, ρ, ts, h => by
    rw [argT] at h
    split at h
    · rename_i t us q1 q2
      cases h
      obtain ⟨hl, g⟩ := argT_get q2
      refine ⟨by simp [hl], fun j rv e => ?_⟩
      cases j with
      | zero => simp at e; subst e; exact ⟨t, by simp, q1⟩
      | succ j => simp at e; simpa using g j rv e
    · cases h
/-- the slot whose object is handed on, and at which parameter -/
def ioAt (io : Option Nat) (rvs : List RV) : Option (Nat × Nat) := match io with
  | none => none
  | some k => match rvs[k]? with
    | some (.pl i _) => some (k, i)
    | _ => none
def putBack (w : Option (Nat × Nat)) (outs ρ : Rho) : Option Rho := match w with
  | none => some ρ
  | some (k, i) => match outs[k]? with
    | some (some t) => some (ρ.set i (some t))
    | _ => none
def dCall (fd : FnD) (da : DAo) : DR := bnd da fun rvs ρ =>
  if rvs.length = fd.n then match argT rvs ρ with
    | none => none
    | some ts => match fd.d (ts.map some) with
      | some (.ok (.tv r) outs) => match putBack (ioAt fd.io rvs) outs ρ with
        | some ρ' => some (.ok (.tv r) ρ')
        | none => none
      | some (.exc x outs) => match putBack (ioAt fd.io rvs) outs ρ with
        | some ρ' => some (.exc x ρ')
        | none => none
      | _ => none
  else none
section
variable {C : Ctx} {F H : Hp} {σ : L2.St} {ρ : Rho} {As : Ads} {p : Bool} {io : Option Nat} {rvs : List RV} {vs : List V} {ts : List T}
def callAs (w : Option (Nat × Nat)) (As : Ads) : Ads := match w with
  | none => fun _ => []
  | some (k, i) => fun j => if j = k then As i else []
theorem ioAt_some {k i : Nat} (h : ioAt io rvs = some (k, i)) : io = some k ∧ ∃ q, rvs[k]? = some (.pl i q) := by
  unfold ioAt at h
  split at h
  · cases h
  · rename_i k'
    split at h
    · rename_i j q hq
      cases h
      exact ⟨rfl, q, hq⟩
    · cases h
theorem ioAt_pl {k i : Nat} {q : List Nat} (h1 : io = some k) (h2 : rvs[k]? = some (.pl i q)) : ioAt io rvs = some (k, i) := by
  unfold ioAt
  subst h1
  simp only [h2]
theorem callAs_mem {w : Option (Nat × Nat)} {j : Nat} {a : Addr} (h : a ∈ callAs w As j) : ∃ k i, w = some (k, i) ∧ j = k ∧ a ∈ As i := by
  cases w with
  | none => cases h
  | some w =>
    obtain ⟨k, i⟩ := w
    have h : a ∈ (if j = k then As i else []) := h
    split at h
    · rename_i e
      exact ⟨k, i, rfl, e, h⟩
    · cases h
theorem call_env (env : Env C F H σ ρ As) (ha : ArgsOk C F σ p io 0 rvs vs) (ht : argT rvs ρ = some ts) : Env C F H (vs.map some) (ts.map some) (callAs (ioAt io rvs) As) := by
  obtain ⟨hl, g⟩ := ha.get
  obtain ⟨hl2, g2⟩ := argT_get ht
  refine ⟨env.sub, by simp [hl2, hl], fun j t e => ?_, fun j n => ?_, fun j => ?_, fun j l a h1 h2 => ?_, env.ht⟩
  · have e : ts[j]? = some t := by simpa using e
    have hj : j < rvs.length := by rw [← hl2]; exact (List.getElem?_eq_some_iff.mp e).1
    obtain ⟨v, hv, hr⟩ := g j rvs[j] (List.getElem?_eq_getElem hj)
    obtain ⟨t', ht', hm⟩ := g2 j rvs[j] (List.getElem?_eq_getElem hj)
    rw [e] at ht'; cases ht'
    refine ⟨v, by simp [hv], ?_⟩
    rw [Nat.zero_add] at hr
    cases q : rvs[j] with
    | tv u =>
      rw [q] at hr hm
      simp only at hm
      subst hm
      have e0 : callAs (ioAt io rvs) As j = [] := by
        cases z : callAs (ioAt io rvs) As j with
        | nil => rfl
        | cons a r =>
          obtain ⟨k, i, hw, rfl, _⟩ := callAs_mem (As := As) (w := ioAt io rvs) (j := j) (a := a) (by rw [z]; simp)
          obtain ⟨_, q', hq'⟩ := ioAt_some hw
          rw [List.getElem?_eq_getElem hj, q] at hq'
          cases hq'
      rw [e0]
      exact Own.of_rep hr
    | pl i q' =>
      rw [q] at hr hm
      simp only at hm
      obtain ⟨hp, hio, rfl, hs⟩ := hr
      have hw : ioAt io rvs = some (j, i) := ioAt_pl hio (by rw [List.getElem?_eq_getElem hj, q])
      obtain ⟨v', hv', ho⟩ := env.own i t hm
      rw [hs] at hv'; cases hv'
      rw [hw]
      show Own C F H t v (if j = j then As i else [])
      rw [if_pos rfl]
      exact ho
  · cases z : callAs (ioAt io rvs) As j with
    | nil => rfl
    | cons a r =>
      obtain ⟨k, i, hw, rfl, _⟩ := callAs_mem (As := As) (w := ioAt io rvs) (j := j) (a := a) (by rw [z]; simp)
      obtain ⟨_, q', hq'⟩ := ioAt_some hw
      obtain ⟨t', ht', _⟩ := g2 j _ hq'
      exact absurd (by simp [ht'] : (ts.map some)[j]? = some (some t')) (n t')
  · cases hw : ioAt io rvs with
    | none => exact List.nodup_nil
    | some w =>
      obtain ⟨k, i⟩ := w
      show (if j = k then As i else []).Nodup
      split
      · exact env.nod _
      · exact List.nodup_nil
  · obtain ⟨k, i, hw, rfl, _⟩ := callAs_mem h1
    obtain ⟨k', i', hw', rfl, _⟩ := callAs_mem h2
    rw [hw] at hw'; cases hw'; rfl
theorem call_back {F' H' : Hp} {outs ρ' : Rho} {Asc : Ads} (env : Env C F H σ ρ As) (ha : ArgsOk C F σ p io 0 rvs vs) (e' : Env C F' H' (vs.map some) outs Asc) (st : Step F H (Ow (callAs (ioAt io rvs) As)) F' H' (Ow Asc))
    (hp : putBack (ioAt io rvs) outs ρ = some ρ') :
    ∃ As', Env C F' H' σ ρ' As' ∧ Step F H (Ow As) F' H' (Ow As') ∧ Pur p ρ ρ' As As' H H' ∧ ∀ t v, RvOk C F' H' (vs.map some) outs Asc H (Ow (callAs (ioAt io rvs) As)) (.tv t) v → RvOk C F' H' σ ρ' As' H (Ow As) (.tv t) v := by
  obtain ⟨hl, g⟩ := ha.get
  cases hw : ioAt io rvs with
  | none =>
    rw [hw] at hp st
    cases hp
    have no : ∀ a, ¬ Ow (callAs none As) a := fun a ⟨j, hj⟩ => by cases hj
    have kp : ∀ i, ∀ a ∈ As i, H' a = H a ∧ F' a = none := fun i a h => by
      obtain ⟨h1, o, h2⟩ := env.has h
      obtain ⟨h3, h4⟩ := st.keep a o h2 (no a) fun ps e => env.ntb h ps (by rw [h2, e])
      exact ⟨by rw [h2, h3], by rw [h4]; exact h1⟩
    refine ⟨As, env.grow st.ff e'.sub kp e'.ht, ⟨st.ff, fun b u h n nt => st.keep b u h (no b) nt, fun b h => .inl h, st.tab⟩, fun _ => ⟨rfl, fun b u h nt => (st.keep b u h (no b) nt).1⟩, fun t v r => ?_⟩
    obtain ⟨A, o, n, k⟩ := r
    refine ⟨A, o, n, fun a h => ?_⟩
    rcases (k a h).2 with z | z
    · exact absurd z (no a)
    · exact ⟨(fun ⟨i, hi⟩ => by obtain ⟨_, o, h2⟩ := env.has hi; rw [z] at h2; cases h2), .inr z⟩
  | some w =>
    obtain ⟨k, i⟩ := w
    rw [hw] at hp st
    obtain ⟨hio, q, hq⟩ := ioAt_some hw
    obtain ⟨v0, hv0, hp0, _, rfl, hs⟩ := g k _ hq
    have inA : ∀ a, Ow (callAs (some (k, i)) As) a ↔ a ∈ As i := fun a => ⟨fun ⟨j, hj⟩ => by
      obtain ⟨k', i', h1, _, h2⟩ := callAs_mem hj
      cases h1; exact h2, fun h => ⟨k, by show a ∈ (if k = k then As i else []); rw [if_pos rfl]; exact h⟩⟩
    unfold putBack at hp
    simp only at hp
    split at hp
    · rename_i t' ht'
      cases hp
      obtain ⟨v1, hv1, ho⟩ := e'.own k t' ht'
      have hv1 : v0 = v1 := by
        have : (vs.map some)[k]? = some (some v0) := by simp [hv0]
        rw [this] at hv1; cases hv1; rfl
      subst hv1
      have out : ∀ j, j ≠ i → ∀ a ∈ As j, ¬ Ow (callAs (some (k, i)) As) a := fun j hj a ha z => hj (env.dis j i a ha ((inA a).mp z))
      have kp : ∀ j, j ≠ i → ∀ a ∈ As j, H' a = H a ∧ F' a = none := fun j hj a h => by
        obtain ⟨h1, o, h2⟩ := env.has h
        obtain ⟨h3, h4⟩ := st.keep a o h2 (out j hj a h) fun ps e => env.ntb h ps (by rw [h2, e])
        exact ⟨by rw [h2, h3], by rw [h4]; exact h1⟩
      refine ⟨updA As i (Asc k), env.put hs st.ff e'.sub kp ho (e'.nod k) (fun j hj a ha z => ?_) e'.ht, ⟨st.ff, fun b u h n nt => st.keep b u h (fun z => n ⟨i, (inA b).mp z⟩) nt, fun b ⟨j, hj⟩ => ?_, st.tab⟩, (fun z => by rw [hp0] at z; cases z), fun t v r => ?_⟩
      · rcases st.own a ⟨k, z⟩ with y | y
        · exact out j hj a ha y
        · obtain ⟨_, o, h2⟩ := env.has ha
          rw [y] at h2; cases h2
      · by_cases hji : j = i
        · subst hji
          rw [updA_same] at hj
          rcases st.own b ⟨k, hj⟩ with y | y
          · exact .inl ⟨j, (inA b).mp y⟩
          · exact .inr y
        · rw [updA_ne hji] at hj
          exact .inl ⟨j, hj⟩
      · obtain ⟨A, o, n, kk⟩ := r
        refine ⟨A, o, n, fun a h => ⟨fun ⟨j, hj⟩ => ?_, ?_⟩⟩
        · by_cases hji : j = i
          · subst hji
            rw [updA_same] at hj
            exact (kk a h).1 ⟨k, hj⟩
          · rw [updA_ne hji] at hj
            rcases (kk a h).2 with z | z
            · exact out j hji a hj z
            · obtain ⟨_, o, h2⟩ := env.has hj; rw [z] at h2; cases h2
        · rcases (kk a h).2 with z | z
          · exact .inl ⟨i, (inA a).mp z⟩
          · exact .inr z
    · cases hp
end
section
variable {C : Ctx} {X : Cx} {E : XW} {p : Bool} {fd : FnD} {da : DAo} {f : Addr} {fdat : FuncData} {ps : List Str} {k : Nat} {x : Str} {px pos : Pos} {e : Expr} {es : List Expr}
theorem call_sp {σ : L2.St} {F H : Hp} {ρ₀ ρ : Rho} {As₀ As : Ads} {F₀ H₀ : Hp} {rvs : List RV} {vs : List V} {o : Out RV} {Q : VK} (env : Env C F H σ ρ As) (st : Step F₀ H₀ (Ow As₀) F H (Ow As)) (pu : Pur p ρ₀ ρ As₀ As H₀ H) (ha : ArgsOk C F σ p fd.io 0 rvs vs)
    (hd : (if rvs.length = fd.n then match argT rvs ρ with
    | none => none
    | some ts => match fd.d (ts.map some) with
      | some (.ok (.tv r) outs) => match putBack (ioAt fd.io rvs) outs ρ with
        | some ρ' => some (Out.ok (RV.tv r) ρ')
        | none => none
      | some (.exc x outs) => match putBack (ioAt fd.io rvs) outs ρ with
        | some ρ' => some (Out.exc x ρ')
        | none => none
      | _ => none
  else none) = some o) (post : PostR C E p σ F₀ H₀ ρ₀ As₀ Q o) : spD C fd vs H Q (WE E σ) := by
  split at hd
  · rename_i hl
    split at hd
    · cases hd
    · rename_i ts ht
      have ce := call_env env ha ht
      refine ⟨by rw [← ha.get.1]; exact hl, ?_⟩
      split at hd
      · rename_i r outs hr
        split at hd
        · rename_i ρ' hp
          cases hd
          refine ⟨F, _, _, _, ce, hr, fun v F' H' As' env' st' pu' r' => ?_⟩
          obtain ⟨As2, e2, st2, pu2, conv⟩ := call_back env ha env' st' hp
          exact post v F' H' As2 e2 (st.trans st2) (pu.trans pu2) ((conv r v r').later st)
        · cases hd
      · rename_i y outs hr
        split at hd
        · rename_i ρ' hp
          cases hd
          refine ⟨F, _, _, _, ce, hr, fun e d F' H' As' env' st' xo => ?_⟩
          obtain ⟨As2, e2, st2, pu2, conv⟩ := call_back env ha env' st' hp
          exact post e d F' H' As2 e2 (st.trans st2) xo
        · cases hd
      · cases hd
  · cases hd
theorem R_call (F : FnOk X.prog X.w X.K X.mg X.base (L2.CX X.prog X.w) k f fdat ps (spD C fd)) (hr : Room k X.A) (hg : Gl X x) (hm : X.mg x = some (.ref f)) (hk : PySem.W.keepIn X.K (.ref f) = true) (hb : Binds X.K fdat ps []) (hx : ∀ σ, PassesAt (L2.CX X.prog X.w) X σ (WE E σ))
    (ha : PA X (e :: es) (tAo C E p fd.io 0 da)) (hs : (e :: es).all noStar = true) (hdb : (x == ("__debug__" : Str)) = false) : PE X (.Call (.Name x px) (e :: es) [] pos) (tR C E p (dCall fd da)) := by
  have hs' := hs
  simp only [List.all_cons, Bool.and_eq_true] at hs'
  refine PE_imp (pe_callSD F hr hg hm hk hb .nil hx ha hdb (star_cons hs'.1) (star_any hs'.2)) fun σ H Q ⟨F, ρ, As, o, env, hd, post⟩ => ?_
  refine seqAo env hd post.xx fun rvs ρ1 hd vs F1 H1 As1 env1 st1 pu1 r1 => ?_
  rw [List.append_nil]
  exact call_sp env1 st1 pu1 r1 hd post
theorem R_call0 (F : FnOk X.prog X.w X.K X.mg X.base (L2.CX X.prog X.w) k f fdat ps (spD C fd)) (hr : Room k X.A) (hg : Gl X x) (hm : X.mg x = some (.ref f)) (hk : PySem.W.keepIn X.K (.ref f) = true) (hb : Binds X.K fdat ps []) (hx : ∀ σ, PassesAt (L2.CX X.prog X.w) X σ (WE E σ))
    (hdb : (x == ("__debug__" : Str)) = false) : PE X (.Call (.Name x px) [] [] pos) (tR C E p (dCall fd doNil)) := by
  refine PE_imp (t := fun σ H Q => spD C fd [] H Q (WE E σ)) ⟨fun pins s σ H Q I h => ?_⟩ fun σ H Q ⟨F, ρ, As, o, env, hd, post⟩ => ?_
  · refine wpAny_Call_Name_kw (ld_glob I hg hm ?_ hdb)
    exact PySem.W.callWith_K0 I.kIn hk (run_fnSD (us := []) (vs := []) (dvs := []) (E := fun σ => WE E σ) F hr hb .nil (hx σ) I .nil h)
  · exact call_sp (vs := []) env Step.refl Pur.refl (by rw [ArgsOk]) hd post
end
end MP

namespace MP
open PySem L2

/-! ### statements -/
inductive Flw where
  | nx | brk | cnt
  | ret (rv : RV)
abbrev DS := Rho → Option (Out Flw)
/-- the slot of the parameter whose object may be changed is not stored -/
def Prt (io : Option Nat) (σ σ' : L2.St) : Prop := ∀ i, io = some i → σ'[i]? = σ[i]?
theorem Prt.refl {io : Option Nat} {σ : L2.St} : Prt io σ σ := fun _ _ => rfl
theorem Prt.trans {io : Option Nat} {σ σ1 σ2 : L2.St} (a : Prt io σ σ1) (b : Prt io σ1 σ2) : Prt io σ σ2 := fun i h => (b i h).trans (a i h)
def PostSX (C : Ctx) (E : XW) (io : Option Nat) (σ : L2.St) (F H : Hp) (As : Ads) (x : Exn) (ρ' : Rho) : Prop :=
  ∀ e d σ' F' H' As', Env C F' H' σ' ρ' As' → Step F H (Ow As) F' H' (Ow As') → Prt io σ σ' → ExnOk C F' x e d H' → E e d σ' H'
def PostS (C : Ctx) (E : XW) (io : Option Nat) (σ : L2.St) (F H : Hp) (As : Ads) (D : Ends) : Out Flw → Prop
  | .ok .nx ρ' => ∀ σ' F' H' As', Env C F' H' σ' ρ' As' → Step F H (Ow As) F' H' (Ow As') → Prt io σ σ' → D.nx σ' H'
  | .ok .brk ρ' => ∀ σ' F' H' As', Env C F' H' σ' ρ' As' → Step F H (Ow As) F' H' (Ow As') → Prt io σ σ' → D.bk σ' H'
  | .ok .cnt ρ' => ∀ σ' F' H' As', Env C F' H' σ' ρ' As' → Step F H (Ow As) F' H' (Ow As') → Prt io σ σ' → D.ct σ' H'
  | .ok (.ret rv) ρ' => ∀ v σ' F' H' As', Env C F' H' σ' ρ' As' → Step F H (Ow As) F' H' (Ow As') → Prt io σ σ' → RvOk C F' H' σ' ρ' As' H (Ow As) rv v → D.rt v H'
  | .exc x ρ' => PostSX C E io σ F H As x ρ'
def tS (C : Ctx) (E : XW) (io : Option Nat) (d : DS) : TS := fun D σ H => ∃ F ρ As o, Env C F H σ ρ As ∧ d ρ = some o ∧ PostS C E io σ F H As D o
section
variable {C : Ctx} {E : XW} {io : Option Nat} {σ σ1 : L2.St} {F H F1 H1 : Hp} {ρ ρ1 : Rho} {As As1 : Ads} {D : Ends} {o : Out Flw}
theorem PostSX.later {x : Exn} {ρ' : Rho} (h : PostSX C E io σ F H As x ρ') (st : Step F H (Ow As) F1 H1 (Ow As1)) (pr : Prt io σ σ1) : PostSX C E io σ1 F1 H1 As1 x ρ' :=
  fun e d σ' F' H' As' env st' pr' => h e d σ' F' H' As' env (st.trans st') (pr.trans pr')
theorem PostSX.x {x : Exn} {ρ' : Rho} (h : PostSX C E io σ F H As x ρ') : PostX C E σ F H As x ρ' := fun e d F' H' As' env st => h e d σ F' H' As' env st Prt.refl
theorem PostS.sx (h : PostS C E io σ F H As D o) : ∀ x ρ', o = .exc x ρ' → PostSX C E io σ F H As x ρ' := fun x ρ' e => by subst e; exact h
theorem PostS.xx (h : PostS C E io σ F H As D o) : ∀ x ρ', o = .exc x ρ' → PostX C E σ F H As x ρ' := fun x ρ' e => (h.sx x ρ' e).x
theorem PostS.later (h : PostS C E io σ F H As D o) (st : Step F H (Ow As) F1 H1 (Ow As1)) (pr : Prt io σ σ1) : PostS C E io σ1 F1 H1 As1 D o := by
  cases o with
  | ok f ρ' =>
    cases f with
    | nx => exact fun σ' F' H' As' env st' pr' => h σ' F' H' As' env (st.trans st') (pr.trans pr')
    | brk => exact fun σ' F' H' As' env st' pr' => h σ' F' H' As' env (st.trans st') (pr.trans pr')
    | cnt => exact fun σ' F' H' As' env st' pr' => h σ' F' H' As' env (st.trans st') (pr.trans pr')
    | ret rv => exact fun v σ' F' H' As' env st' pr' r => h v σ' F' H' As' env (st.trans st') (pr.trans pr') (r.later st)
  | exc x ρ' => exact PostSX.later h st pr
end
def dNx : DS := fun ρ => some (.ok .nx ρ)
def dBrk : DS := fun ρ => some (.ok .brk ρ)
def dCnt : DS := fun ρ => some (.ok .cnt ρ)
/-- one statement, then the rest -/
def seqF (f : Flw) (d : DS) : DS := match f with
  | .nx => d
  | f => fun ρ => some (.ok f ρ)
def dSeq (d d' : DS) : DS := bnd d fun f => seqF f d'
section
variable {C : Ctx} {X : Cx} {E : XW} {io : Option Nat} {st : Stmt} {sts a b : List Stmt} {d d' : DS} {e : Expr} {pos : Pos}
theorem S_pass : PS X (.Pass pos) (tS C E io dNx) := PS_imp ps_pass fun D σ H ⟨F, ρ, As, o, env, hd, post⟩ => by
  cases hd; exact post σ F H As env Step.refl Prt.refl
theorem S_break : PS X (.Break pos) (tS C E io dBrk) := PS_imp ps_break fun D σ H ⟨F, ρ, As, o, env, hd, post⟩ => by
  cases hd; exact post σ F H As env Step.refl Prt.refl
theorem S_continue : PS X (.Continue pos) (tS C E io dCnt) := PS_imp ps_continue fun D σ H ⟨F, ρ, As, o, env, hd, post⟩ => by
  cases hd; exact post σ F H As env Step.refl Prt.refl
theorem Ss_nil : PSs X [] (tS C E io dNx) := PSs_imp pss_nil fun D σ H ⟨F, ρ, As, o, env, hd, post⟩ => by
  cases hd; exact post σ F H As env Step.refl Prt.refl
theorem Ss_cons (h1 : PS X st (tS C E io d)) (h2 : PSs X sts (tS C E io d')) : PSs X (st :: sts) (tS C E io (dSeq d d')) := PSs_imp (pss_cons h1 h2) fun D σ H ⟨F, ρ, As, o, env, hd, post⟩ => by
  rcases bnd_cases hd with ⟨f, ρ1, q1, hd⟩ | ⟨x, ρ', q1, rfl⟩
  · cases f with
    | nx => exact ⟨F, ρ, As, _, env, q1, fun σ1 F1 H1 As1 env1 st1 pr1 => ⟨F1, ρ1, As1, o, env1, hd, post.later st1 pr1⟩⟩
    | brk => cases hd; exact ⟨F, ρ, As, _, env, q1, post⟩
    | cnt => cases hd; exact ⟨F, ρ, As, _, env, q1, post⟩
    | ret rv => cases hd; exact ⟨F, ρ, As, _, env, q1, post⟩
  · exact ⟨F, ρ, As, _, env, q1, post⟩
def dExp (d : DR) : DS := bnd d fun _ ρ => some (.ok .nx ρ)
theorem S_exp {d : DR} (h : PE X e (tR C E false d)) (hs : swapsWith e none pos.line X.env = pure false) : PS X (.Expr e pos) (tS C E io (dExp d)) := PS_imp (ps_expr h hs) fun D σ H ⟨F, ρ, As, o, env, hd, post⟩ => by
  refine seqR env hd post.xx fun rv ρ1 hd v F1 H1 As1 env1 st1 pu1 r1 => ?_
  cases hd
  exact post σ F1 H1 As1 env1 st1 Prt.refl
def dRet (d : DR) : DS := bnd d fun rv ρ => some (.ok (.ret rv) ρ)
theorem S_ret {d : DR} (h : PE X e (tR C E false d)) : PS X (.Return (some e) pos) (tS C E io (dRet d)) := PS_imp (ps_ret h) fun D σ H ⟨F, ρ, As, o, env, hd, post⟩ => by
  refine seqR env hd post.xx fun rv ρ1 hd v F1 H1 As1 env1 st1 pu1 r1 => ?_
  cases hd
  exact post v σ F1 H1 As1 env1 st1 Prt.refl r1
def dRetN : DS := fun ρ => some (.ok (.ret (.tv .non)) ρ)
theorem S_retN : PS X (.Return none pos) (tS C E io dRetN) := PS_imp ps_retN fun D σ H ⟨F, ρ, As, o, env, hd, post⟩ => by
  cases hd
  exact post .non σ F H As env Step.refl Prt.refl ⟨[], Own.of_rep (Rep.non.mpr rfl), List.nodup_nil, fun a ha => by cases ha⟩
def dIfS (t : DT) (d d' : DS) : DS := bnd t fun b => if b = true then d else d'
theorem S_if {t : DT} (hc : PT X e (tT C E false t)) (ha : PSs X a (tS C E io d)) (hb : PSs X b (tS C E io d')) : PS X (.If e a b pos) (tS C E io (dIfS t d d')) := PS_imp (ps_if hc ha hb) fun D σ H ⟨F, ρ, As, o, env, hd, post⟩ => by
  refine seqT env hd post.xx fun z ρ1 hd F1 H1 As1 env1 st1 pu1 => ?_
  split
  · rename_i hz; subst hz; rw [if_pos rfl] at hd
    exact ⟨F1, ρ1, As1, o, env1, hd, post.later st1 Prt.refl⟩
  · rename_i hz; rw [if_neg hz] at hd
    exact ⟨F1, ρ1, As1, o, env1, hd, post.later st1 Prt.refl⟩

/-! ### a name is stored -/
def stor (io : Option Nat) (i : Nat) (t : T) (ρ : Rho) : Option Rho := if io = some i then none else if i < ρ.length then some (ρ.set i (some t)) else none
theorem stor_env {F H F₀ H₀ : Hp} {σ : L2.St} {ρ ρ' : Rho} {As As₀ : Ads} {i : Nat} {t : T} {v : V} (env : Env C F H σ ρ As) (st : Step F₀ H₀ (Ow As₀) F H (Ow As)) (r : RvOk C F H σ ρ As H₀ (Ow As₀) (.tv t) v) (h : stor io i t ρ = some ρ') :
    ∃ As', Env C F H (σ.set i (some v)) ρ' As' ∧ Step F₀ H₀ (Ow As₀) F H (Ow As') ∧ Prt io σ (σ.set i (some v)) := by
  unfold stor at h
  split at h
  · cases h
  · rename_i hio
    split at h
    · rename_i hi
      cases h
      obtain ⟨A, o, n, k⟩ := r
      refine ⟨updA As i A, env.store (by rw [env.len]; exact hi) o n (fun j hj a ha z => (k a z).1 ⟨j, ha⟩), ⟨st.ff, st.keep, fun b ⟨j, hj⟩ => ?_, st.tab⟩, fun j hj => ?_⟩
      · by_cases hji : j = i
        · subst hji; rw [updA_same] at hj; exact (k b hj).2
        · rw [updA_ne hji] at hj; exact st.own b ⟨j, hj⟩
      · rw [List.getElem?_set_ne]
        intro z; subst z; exact hio hj
    · cases h
/-- a result that is to be kept: what is new stays new, what stands at a place is frozen -/
def keepv : RV → Rho → Option (T × Rho)
  | .tv t, ρ => some (t, ρ)
  | .pl i q, ρ => frc false (.pl i q) ρ
theorem keepv_ok {F H F₀ H₀ : Hp} {σ : L2.St} {ρ ρ2 : Rho} {As As₀ : Ads} {rv : RV} {t : T} {v : V} (env : Env C F H σ ρ As) (st : Step F₀ H₀ (Ow As₀) F H (Ow As)) (r : RvOk C F H σ ρ As H₀ (Ow As₀) rv v) (h : keepv rv ρ = some (t, ρ2)) :
    ∃ F2 As2, Env C F2 H σ ρ2 As2 ∧ Step F₀ H₀ (Ow As₀) F2 H (Ow As2) ∧ RvOk C F2 H σ ρ2 As2 H₀ (Ow As₀) (.tv t) v := by
  cases rv with
  | tv u => cases h; exact ⟨F, As, env, st, r⟩
  | pl i q =>
    obtain ⟨F2, As2, e2, st2, _, rp⟩ := frc_ok (p := false) (ρ₀ := ρ) env st (fun z => by cases z) r h
    exact ⟨F2, As2, e2, st2, [], Own.of_rep rp, List.nodup_nil, fun a ha => by cases ha⟩
def dAsg (io : Option Nat) (i : Nat) (d : DR) : DS := bnd d fun rv ρ => match keepv rv ρ with
  | some (t, ρ1) => match stor io i t ρ1 with
    | some ρ2 => some (.ok .nx ρ2)
    | none => none
  | none => none
theorem S_asg_core {d : DR} {i : Nat} {te : TE} (ht : ∀ σ H Q, tR C E false d σ H Q → te σ H Q) (h : PS X st (tAsg te (gName i))) : PS X st (tS C E io (dAsg io i d)) := PS_imp h fun D σ H ⟨F, ρ, As, o, env, hd, post⟩ => by
  refine ht _ _ _ (seqR env hd post.xx fun rv ρ1 hd v F1 H1 As1 env1 st1 pu1 r1 => ?_)
  split at hd
  · rename_i t ρ2 hk
    obtain ⟨F2, As2, e2, st2, r2⟩ := keepv_ok env1 st1 r1 hk
    split at hd
    · rename_i ρ3 hs
      cases hd
      obtain ⟨As3, e3, st3, pr3⟩ := stor_env e2 st2 r2 hs
      exact post _ F2 H1 As3 e3 st3 pr3
    · cases hd
  · cases hd
end

/-! ### the target of a loop -/
/-- s: what is stored for a tree; vs: the slots that are stored -/
def tTg (C : Ctx) (vs : List Nat) (s : T → Rho → Option Rho) : TG := fun v σ H Q => ∃ F ρ As t ρ', Env C F H σ ρ As ∧ Rep C F t v ∧ s t ρ = some ρ' ∧
  ∀ σ' As', Env C F H σ' ρ' As' → (∀ b, Ow As' b → Ow As b) → σ'.length = σ.length → (∀ j, j ∉ vs → σ'[j]? = σ[j]?) → Q σ' H
theorem PG_imp {X : Cx} {e : Expr} {t t' : TG} (h : PG X e t) (i : ∀ v σ H Q, t' v σ H Q → t v σ H Q) : PG X e t' := ⟨by
  intros
  refine h.run _ _ _ _ _ _ _ (by assumption) (by assumption) (i _ _ _ _ (by assumption)) <;> assumption⟩
section
variable {C : Ctx} {X : Cx} {E : XW} {p : Bool} {io : Option Nat} {e tg iter : Expr} {es body : List Expr} {pos : Pos}
def sNm (i : Nat) (t : T) (ρ : Rho) : Option Rho := if i < ρ.length then some (ρ.set i (some t)) else none
theorem sNm_env {F H : Hp} {σ : L2.St} {ρ ρ' : Rho} {As : Ads} {i : Nat} {t : T} {v : V} (env : Env C F H σ ρ As) (r : Rep C F t v) (h : sNm i t ρ = some ρ') :
    ∃ As', Env C F H (σ.set i (some v)) ρ' As' ∧ ∀ b, Ow As' b → Ow As b := by
  unfold sNm at h
  split at h
  · rename_i hi
    cases h
    refine ⟨updA As i [], env.store (by rw [env.len]; exact hi) (Own.of_rep r) List.nodup_nil (fun j hj a ha z => by cases z), fun b ⟨j, hj⟩ => ?_⟩
    by_cases hji : j = i
    · subst hji; rw [updA_same] at hj; cases hj
    · rw [updA_ne hji] at hj; exact ⟨j, hj⟩
  · cases h
theorem G_name {i : Nat} {x : Str} (h : PG X (.Name x pos) (gName i)) : PG X (.Name x pos) (tTg C [i] (sNm i)) := PG_imp h fun v σ H Q ⟨F, ρ, As, t, ρ', env, r, hs, post⟩ => by
  obtain ⟨As', e', sb⟩ := sNm_env env r hs
  refine post _ As' e' sb (List.length_set ..) fun j hj => ?_
  rw [List.getElem?_set_ne]
  intro z; subst z; exact hj (by simp)
def sTps : List Nat → List T → Rho → Option Rho
  | [], [], ρ => some ρ
  | i :: is, t :: ts, ρ => (sNm i t ρ).bind fun ρ' => sTps is ts ρ'
  | _, _, _ => none
def sTup (is : List Nat) : T → Rho → Option Rho
  | .nd _ .tup ts, ρ => sTps is ts ρ
  | _, _ => none
def tTgs (C : Ctx) (is : List Nat) : TGs := fun vs σ H Q => ∃ F ρ As ts ρ', Env C F H σ ρ As ∧ Reps C F ts vs ∧ sTps is ts ρ = some ρ' ∧
  ∀ σ' As', Env C F H σ' ρ' As' → (∀ b, Ow As' b → Ow As b) → σ'.length = σ.length → (∀ j, j ∉ is → σ'[j]? = σ[j]?) → Q σ' H
theorem PGs_imp {X : Cx} {e : List Expr} {t t' : TGs} (h : PGs X e t) (i : ∀ v σ H Q, t' v σ H Q → t v σ H Q) : PGs X e t' := ⟨by
  intros
  refine h.run _ _ _ _ _ _ _ (by assumption) (by assumption) (i _ _ _ _ (by assumption)) <;> assumption⟩
theorem Gs_nil : PGs X [] (tTgs C []) := PGs_imp pgs_nil fun vs σ H Q ⟨F, ρ, As, ts, ρ', env, r, hs, post⟩ => by
  cases ts with
  | nil =>
    rw [Reps] at r
    cases hs
    exact ⟨r, post σ As env (fun _ h => h) rfl fun _ _ => rfl⟩
  | cons t ts => cases hs
def isNm : Expr → Bool
  | .Name _ _ => true
  | _ => false
theorem Gs_cons {i : Nat} {is : List Nat} {x : Str} (h1 : PG X (.Name x pos) (gName i)) (h2 : PGs X es (tTgs C is)) (hn : es.all isNm = true) : PGs X (.Name x pos :: es) (tTgs C (i :: is)) := PGs_imp (pgs_cons h1 h2) fun vs σ H Q ⟨F, ρ, As, ts, ρ', env, r, hs, post⟩ => by
  cases ts with
  | nil => cases hs
  | cons t ts =>
    rw [Reps] at r
    obtain ⟨v, w, rfl, r1, r2⟩ := r
    rw [sTps] at hs
    cases q : sNm i t ρ with
    | none => rw [q] at hs; cases hs
    | some ρ1 =>
      rw [q] at hs
      have hs : sTps is ts ρ1 = some ρ' := hs
      obtain ⟨As1, e1, sb1⟩ := sNm_env env r1 q
      refine ⟨v, w, rfl, F, ρ1, As1, ts, ρ', e1, r2, hs, fun σ' As' e' sb l k => post σ' As' e' (fun b h => sb1 b (sb b h)) (by rw [l, List.length_set]) fun j hj => ?_⟩
      simp only [List.mem_cons, not_or] at hj
      rw [k j hj.2, List.getElem?_set_ne (Ne.symm hj.1)]
theorem assign_names {env : PySem.Env} : ∀ {es : List Expr}, es.all isNm = true → (assignEach es env).length = es.length ∧ (assignEach es env).findIdx? (·.1) = none
  | [], _ => ⟨rfl, rfl⟩
  | e :: es, h => by
    simp only [List.all_cons, Bool.and_eq_true] at h
    cases e with
    | Name x ps =>
      obtain ⟨h1, h2⟩ := assign_names (env := env) h.2
      constructor
      · show ((false, assign (.Name x ps) env) :: assignEach es env).length = _
        simp [h1]
      · show ((false, assign (.Name x ps) env) :: assignEach es env).findIdx? (·.1) = none
        simp [List.findIdx?_cons, h2]
    | _ => cases h.1
theorem sTps_len : ∀ {is : List Nat} {ts : List T} {ρ ρ' : Rho}, sTps is ts ρ = some ρ' → ts.length = is.length
  | [], [], _, _, _ => rfl
  | [], _ :: _, _, _, h => by cases h
  | _ :: _, [], _, _, h => by cases h
  | i :: is, t :: ts, ρ, ρ', h => by
    rw [sTps] at h
    cases q : sNm i t ρ with
    | none => rw [q] at h; cases h
    | some ρ1 =>
      rw [q] at h
      have h : sTps is ts ρ1 = some ρ' := h
      simp [sTps_len h]
theorem G_tup {is : List Nat} {k : Nat} (hK : C.K = X.K) (hc : X.calm = true) (h : PGs X es (tTgs C is)) (hl : es.length = is.length) (hn : es.all isNm = true) : PG X (.Tuple es k pos) (tTg C is (sTup is)) := PG_imp (pg_tup hc h (assign_names hn).1 (assign_names hn).2) fun v σ H Q ⟨F, ρ, As, t, ρ', env, r, hs, post⟩ => by
  have key := fun ts (h : sTps is ts ρ = some ρ') => sTps_len h
  have fin : ∀ m ts, t = .nd m .tup ts → sTps is ts ρ = some ρ' → gTup X.K is.length (tTgs C is) v σ H Q := fun m ts e hs => by
    subst e
    rw [Rep] at r
    obtain ⟨_, a, xs, rfl, hq, hr⟩ := r
    have hq' : SqT X.K H a xs := hK ▸ NodeR.mono (k := .tup) env.sub hq
    exact ⟨a, xs, rfl, hq', by rw [← key ts hs, hr.length], F, ρ, As, ts, ρ', env, hr, hs, post⟩
  rw [hl]
  unfold sTup at hs
  split at hs
  · exact fin _ _ rfl hs
  · cases hs
end

/-! ### what is walked -/
structure Yields (C : Ctx) (F : Hp) (J : It) (ts : List T) : Prop where
  go : ∀ i H F1, Same F F1 → Same F1 H → i < ts.length → J.go i H
  stop : ∀ i H F1, Same F F1 → Same F1 H → ts.length ≤ i → J.stop i H
  yld : ∀ i t H F1 x H', Same F F1 → Same F1 H → ts[i]? = some t → J.yld i H x H' → ∃ F2, Grow F1 H F2 H' ∧ Rep C F2 t x
theorem Yields.mono {C : Ctx} {F F' : Hp} {J : It} {ts : List T} (h : Yields C F J ts) (e : Same F F') : Yields C F' J ts :=
  ⟨fun i H F1 a b c => h.go i H F1 (e.trans a) b c, fun i H F1 a b c => h.stop i H F1 (e.trans a) b c, fun i t H F1 x H' a b c d => h.yld i t H F1 x H' (e.trans a) b c d⟩
abbrev DI := Rho → Option (Out (List T))
def PostI (C : Ctx) (E : XW) (p : Bool) (σ : L2.St) (F H : Hp) (ρ : Rho) (As : Ads) (R : It → Hp → Prop) : Out (List T) → Prop
  | .ok ts ρ' => ∀ J F' H' As', Env C F' H' σ ρ' As' → Step F H (Ow As) F' H' (Ow As') → Pur p ρ ρ' As As' H H' → Yields C F' J ts → R J H'
  | .exc x ρ' => PostX C E σ F H As x ρ'
def tI (C : Ctx) (E : XW) (p : Bool) (d : DI) : TI := fun σ H R => ∃ F ρ As o, Env C F H σ ρ As ∧ d ρ = some o ∧ PostI C E p σ F H ρ As R o
theorem PostI.xx {C : Ctx} {E : XW} {p : Bool} {σ : L2.St} {F H : Hp} {ρ : Rho} {As : Ads} {R : It → Hp → Prop} {o : Out (List T)} (h : PostI C E p σ F H ρ As R o) : ∀ x ρ', o = .exc x ρ' → PostX C E σ F H As x ρ' := fun x ρ' e => by subst e; exact h
section
variable {C : Ctx} {X : Cx} {E : XW} {p : Bool} {io : Option Nat} {e tg iter a b : Expr} {pos px : Pos} {F : Hp}
theorem yields_list (K : PySem.W.Frag) {a : Addr} {xs : List V} {ts : List T} (h : F a = some (.lst xs)) (r : Reps C F ts xs) : Yields C F (Itl K a) ts where
  go := fun i H F1 s1 s2 hi => by
    obtain ⟨x, hx, _⟩ := r.get (List.getElem?_eq_getElem hi)
    exact ⟨xs, x, SqL.of (s2 _ _ (s1 _ _ h)), hx⟩
  stop := fun i H F1 s1 s2 hi => ⟨xs, SqL.of (s2 _ _ (s1 _ _ h)), by rw [← r.length]; exact hi⟩
  yld := fun i t H F1 x H' s1 s2 hi y => by
    obtain ⟨rfl, y⟩ := y
    obtain ⟨z, hz, rz⟩ := r.get hi
    have := y xs (SqL.of (s2 _ _ (s1 _ _ h)))
    rw [hz] at this; cases this
    exact ⟨F1, Grow.refl s2, rz.mono s1⟩
theorem yields_tup {a : Addr} {xs : List V} {ts : List T} (h : SqT C.K F a xs) (r : Reps C F ts xs) : Yields C F (Itt C.K a) ts where
  go := fun i H F1 s1 s2 hi => by
    obtain ⟨x, hx, _⟩ := r.get (List.getElem?_eq_getElem hi)
    exact ⟨xs, x, NodeR.mono (C := C) (k := .tup) (s1.trans s2) h, hx⟩
  stop := fun i H F1 s1 s2 hi => ⟨xs, NodeR.mono (C := C) (k := .tup) (s1.trans s2) h, by rw [← r.length]; exact hi⟩
  yld := fun i t H F1 x H' s1 s2 hi y => by
    obtain ⟨rfl, y⟩ := y
    obtain ⟨z, hz, rz⟩ := r.get hi
    have := y xs (NodeR.mono (C := C) (k := .tup) (s1.trans s2) h)
    rw [hz] at this; cases this
    exact ⟨F1, Grow.refl s2, rz.mono s1⟩
def signs (x : Str) : List T := x.cps.toList.map fun c => .str ⟨#[c]⟩
theorem yields_str {x : Str} : Yields C F (Its x) (signs x) where
  go := fun i H F1 s1 s2 hi => by show i < x.cps.size; simpa [signs] using hi
  stop := fun i H F1 s1 s2 hi => by show x.cps.size ≤ i; simpa [signs] using hi
  yld := fun i t H F1 y H' s1 s2 hi q => by
    obtain ⟨rfl, c, hc, rfl⟩ := q
    simp only [signs, List.getElem?_map] at hi
    rw [Array.getElem?_toList, hc] at hi
    cases hi
    exact ⟨F1, Grow.refl s2, Rep.str.mpr rfl⟩
def rngT (lo : Int) (n : Nat) : List T := (List.range n).map fun k => .int (lo + (k : Nat))
theorem yields_range {lo : Int} {n : Nat} : Yields C F (Itr lo n) (rngT lo n) where
  go := fun i H F1 s1 s2 hi => by show i < n; simpa [rngT] using hi
  stop := fun i H F1 s1 s2 hi => by show n ≤ i; simpa [rngT] using hi
  yld := fun i t H F1 y H' s1 s2 hi q => by
    obtain ⟨rfl, rfl⟩ := q
    simp only [rngT, List.getElem?_map] at hi
    by_cases h : i < n
    · rw [List.getElem?_eq_getElem (by simpa using h)] at hi
      simp at hi
      subst hi
      exact ⟨F1, Grow.refl s2, Rep.int.mpr rfl⟩
    · rw [List.getElem?_eq_none (by simpa using h)] at hi
      cases hi
theorem PI_imp {w w' : TI} (h : PI X tg e w) (i : ∀ σ H R, w' σ H R → w σ H R) : PI X tg e w' := ⟨fun pins s σ H R I q => h.run pins s σ H R I (i σ H R q)⟩
/-- a list, a tuple, a text -/
def seqv : T → Option (List T)
  | .nd _ .lst ts => some ts
  | .nd _ .tup ts => some ts
  | .str x => some (signs x)
  | _ => none
def dItV (d : DV) : DI := bnd d fun t ρ => match seqv t with
  | some ts => some (.ok ts ρ)
  | none => none
theorem I_seq {d : DV} (hK : C.K = X.K) (he : PE X e (tV C E p d)) : PI X tg e (tI C E p (dItV d)) := by
  refine ⟨fun pins s σ H R I q => ?_⟩
  obtain ⟨F, ρ, As, o, env, hd, post⟩ := q
  rcases bnd_cases hd with ⟨t, ρ', q1, hd⟩ | ⟨x, ρ', q1, rfl⟩
  · split at hd
    · rename_i ts hts
      cases hd
      unfold seqv at hts
      split at hts
      · cases hts
        refine (pi_list he).run pins s σ H R I ⟨F, ρ, As, _, env, q1, fun v F' H' As' env' st pu r => ?_⟩
        rw [Rep] at r
        obtain ⟨_, a, xs, rfl, hn, hr⟩ := r
        exact ⟨a, rfl, ⟨xs, SqL.of (env'.sub _ _ hn)⟩, post _ F' H' As' env' st pu (yields_list X.K hn hr)⟩
      · cases hts
        refine (pi_tup he).run pins s σ H R I ⟨F, ρ, As, _, env, q1, fun v F' H' As' env' st pu r => ?_⟩
        rw [Rep] at r
        obtain ⟨_, a, xs, rfl, hn, hr⟩ := r
        exact ⟨a, rfl, ⟨xs, hK ▸ NodeR.mono (C := C) (k := .tup) env'.sub hn⟩, post _ F' H' As' env' st pu (hK ▸ yields_tup hn hr)⟩
      · cases hts
        refine (pi_str he).run pins s σ H R I ⟨F, ρ, As, _, env, q1, fun v F' H' As' env' st pu r => ?_⟩
        rw [Rep] at r
        subst r
        exact ⟨_, rfl, post _ F' H' As' env' st pu yields_str⟩
      · cases hts
    · cases hd
  · exact (pi_list he).run pins s σ H R I ⟨F, ρ, As, _, env, q1, post⟩
def dRng1 : List T → Option (List T)
  | [.int j] => if j.natAbs < 4611686018427387904 then some (rngT 0 j.toNat) else none
  | _ => none
def dRng2 : List T → Option (List T)
  | [.int i, .int j] => if i.natAbs < 4611686018427387904 ∧ j.natAbs < 4611686018427387904 then some (rngT i (j - i).toNat) else none
  | _ => none
def dItA (g : List T → Option (List T)) (d : DA) : DI := bnd d fun ts ρ => match g ts with
  | some us => some (.ok us ρ)
  | none => none
theorem reps1 {C : Ctx} {F : Hp} {t : T} {vs : List V} (h : Reps C F [t] vs) : ∃ v, vs = [v] ∧ Rep C F t v := by
  simp only [Reps] at h
  obtain ⟨x, r, rfl, h1, rfl⟩ := h
  exact ⟨x, rfl, h1⟩
theorem reps2 {C : Ctx} {F : Hp} {t u : T} {vs : List V} (h : Reps C F [t, u] vs) : ∃ v w, vs = [v, w] ∧ Rep C F t v ∧ Rep C F u w := by
  simp only [Reps] at h
  obtain ⟨x, r, rfl, h1, y, r2, rfl, h2, rfl⟩ := h
  exact ⟨x, y, rfl, h1, h2⟩
theorem I_range1 {d : DA} (hg : Gl X "range") (hm : X.mg "range" = none) (ha : PA X [a] (tAr C E p d)) (hs : noStar a = true) : PI X tg (.Call (.Name "range" px) [a] [] pos) (tI C E p (dItA dRng1 d)) := PI_imp (pi_range1 hg hm ha (by rw [star_cons hs]; rfl)) fun σ H R ⟨F, ρ, As, o, env, hd, post⟩ => by
  refine seqA env hd post.xx fun ts ρ1 hd vs F1 H1 As1 env1 st1 pu1 r1 => ?_
  split at hd
  · rename_i us hu
    cases hd
    unfold dRng1 at hu
    split at hu
    · split at hu
      · rename_i hc
        cases hu
        obtain ⟨x, rfl, h1⟩ := reps1 r1
        rw [Rep] at h1; subst h1
        exact ⟨_, rfl, by omega, by omega, post _ F1 H1 As1 env1 st1 pu1 yields_range⟩
      · cases hu
    · cases hu
  · cases hd
theorem I_range2 {d : DA} (hg : Gl X "range") (hm : X.mg "range" = none) (ha : PA X [a, b] (tAr C E p d)) (hs : noStar a = true) (hs2 : noStar b = true) : PI X tg (.Call (.Name "range" px) [a, b] [] pos) (tI C E p (dItA dRng2 d)) :=
  PI_imp (pi_range2 hg hm ha (by rw [star_cons hs, star_cons hs2]; rfl) (by rw [star_cons hs2]; rfl)) fun σ H R ⟨F, ρ, As, o, env, hd, post⟩ => by
  refine seqA env hd post.xx fun ts ρ1 hd vs F1 H1 As1 env1 st1 pu1 r1 => ?_
  split at hd
  · rename_i us hu
    cases hd
    unfold dRng2 at hu
    split at hu
    · split at hu
      · rename_i hc
        cases hu
        obtain ⟨x, y, rfl, h1, h2⟩ := reps2 r1
        rw [Rep] at h1 h2; subst h1 h2
        exact ⟨_, _, rfl, by omega, post _ F1 H1 As1 env1 st1 pu1 yields_range⟩
      · cases hu
    · cases hu
  · cases hd
/-! enumerate, zip -/
def pairsT (ts us : List T) : List T := (ts.zip us).map fun p => .tup [p.1, p.2]
theorem pair_new {C : Ctx} {F H : Hp} {q : Addr} {t u : T} {x y : V} (s : Same F H) (n : H q = none) (h1 : Rep C F t x) (h2 : Rep C F u y) : ∃ F2, Grow F H F2 (upd H q (.tup [x, y])) ∧ Rep C F2 (.tup [t, u]) (.ref q) := by
  have g := Grow.frozen (o := .tup [x, y]) s n
  refine ⟨_, g, ?_⟩
  rw [Rep]
  refine ⟨rfl, q, [x, y], rfl, SqT.of upd_same, ?_⟩
  simp only [Reps]
  exact ⟨x, _, rfl, h1.mono g.ff, y, _, rfl, h2.mono g.ff, rfl⟩
theorem yields_zip (K : PySem.W.Frag) {a b : Addr} {xs ys : List V} {ts us : List T} (h : F a = some (.lst xs)) (r : Reps C F ts xs) (h' : F b = some (.lst ys)) (r' : Reps C F us ys) : Yields C F (Itz K a b) (pairsT ts us) where
  go := fun i H F1 s1 s2 hi => by
    simp only [pairsT, List.length_map, List.length_zip] at hi
    obtain ⟨x, hx, _⟩ := r.get (List.getElem?_eq_getElem (show i < ts.length by omega))
    obtain ⟨y, hy, _⟩ := r'.get (List.getElem?_eq_getElem (show i < us.length by omega))
    exact ⟨xs, ys, x, y, SqL.of (s2 _ _ (s1 _ _ h)), SqL.of (s2 _ _ (s1 _ _ h')), hx, hy⟩
  stop := fun i H F1 s1 s2 hi => by
    simp only [pairsT, List.length_map, List.length_zip, r.length, r'.length] at hi
    exact ⟨xs, ys, SqL.of (s2 _ _ (s1 _ _ h)), SqL.of (s2 _ _ (s1 _ _ h')), by omega⟩
  yld := fun i t H F1 v H' s1 s2 hi q => by
    obtain ⟨T0, x, y, rfl, hn, rfl, q1, q2⟩ := q
    have hx := q1 xs (SqL.of (s2 _ _ (s1 _ _ h)))
    have hy := q2 ys (SqL.of (s2 _ _ (s1 _ _ h')))
    obtain ⟨tx, htx, rx⟩ := r.getV hx
    obtain ⟨ty, hty, ry⟩ := r'.getV hy
    have : (ts.zip us)[i]? = some (tx, ty) := by rw [List.getElem?_zip_eq_some]; exact ⟨htx, hty⟩
    simp only [pairsT, List.getElem?_map, this, Option.map_some, Option.some.injEq] at hi
    subst hi
    exact pair_new s2 hn (rx.mono s1) (ry.mono s1)
theorem yields_enum (K : PySem.W.Frag) {a : Addr} {xs : List V} {ts : List T} (h : F a = some (.lst xs)) (r : Reps C F ts xs) : Yields C F (Ite K a) (pairsT (rngT 0 ts.length) ts) where
  go := fun i H F1 s1 s2 hi => by
    simp only [pairsT, List.length_map, List.length_zip] at hi
    obtain ⟨x, hx, _⟩ := r.get (List.getElem?_eq_getElem (show i < ts.length by omega))
    exact ⟨xs, x, SqL.of (s2 _ _ (s1 _ _ h)), hx⟩
  stop := fun i H F1 s1 s2 hi => by
    simp only [pairsT, rngT, List.length_map, List.length_zip, List.length_range, Nat.min_self] at hi
    exact ⟨xs, SqL.of (s2 _ _ (s1 _ _ h)), by rw [← r.length]; exact hi⟩
  yld := fun i t H F1 v H' s1 s2 hi q => by
    obtain ⟨T0, x, rfl, hn, rfl, q1⟩ := q
    have hx := q1 xs (SqL.of (s2 _ _ (s1 _ _ h)))
    obtain ⟨tx, htx, rx⟩ := r.getV hx
    have hl : i < ts.length := (List.getElem?_eq_some_iff.mp htx).1
    have : ((rngT 0 ts.length).zip ts)[i]? = some (.int (0 + (i : Nat)), tx) := by
      rw [List.getElem?_zip_eq_some]
      refine ⟨?_, htx⟩
      simp [rngT, hl]
    simp only [pairsT, List.getElem?_map, this, Option.map_some, Option.some.injEq, Int.zero_add] at hi
    subst hi
    exact pair_new s2 hn (Rep.int.mpr rfl) (rx.mono s1)
def dZip : List T → Option (List T)
  | [.nd _ .lst ts, .nd _ .lst us] => some (pairsT ts us)
  | _ => none
def dEnm : List T → Option (List T)
  | [.nd _ .lst ts] => some (pairsT (rngT 0 ts.length) ts)
  | _ => none
theorem I_zip {d : DA} {elts : List Expr} {kk : Nat} {tpos : Pos} (hg : Gl X "zip") (hm : X.mg "zip" = none) (ha : PA X [a, b] (tAr C E p d)) (hs : noStar a = true) (hs2 : noStar b = true) : PI X (.Tuple elts kk tpos) (.Call (.Name "zip" px) [a, b] [] pos) (tI C E p (dItA dZip d)) :=
  PI_imp (pi_zip hg hm ha (star_cons hs) (star_any (by simp [hs2]))) fun σ H R ⟨F, ρ, As, o, env, hd, post⟩ => by
  refine seqA env hd post.xx fun ts ρ1 hd vs F1 H1 As1 env1 st1 pu1 r1 => ?_
  split at hd
  · rename_i us hu
    cases hd
    unfold dZip at hu
    split at hu
    · cases hu
      obtain ⟨x, y, rfl, h1, h2⟩ := reps2 r1
      rw [Rep] at h1 h2
      obtain ⟨_, a, xs, rfl, ha, hx⟩ := h1
      obtain ⟨_, b, ys, rfl, hb, hy⟩ := h2
      exact ⟨a, b, xs, ys, rfl, SqL.of (env1.sub _ _ ha), SqL.of (env1.sub _ _ hb), post _ F1 H1 As1 env1 st1 pu1 (yields_zip X.K ha hx hb hy)⟩
    · cases hu
  · cases hd
theorem I_enm {d : DA} {elts : List Expr} {kk : Nat} {tpos : Pos} (hg : Gl X "enumerate") (hm : X.mg "enumerate" = none) (ha : PA X [a] (tAr C E p d)) (hs : noStar a = true) : PI X (.Tuple elts kk tpos) (.Call (.Name "enumerate" px) [a] [] pos) (tI C E p (dItA dEnm d)) :=
  PI_imp (pi_enum hg hm ha (by rw [star_cons hs]; rfl)) fun σ H R ⟨F, ρ, As, o, env, hd, post⟩ => by
  refine seqA env hd post.xx fun ts ρ1 hd vs F1 H1 As1 env1 st1 pu1 r1 => ?_
  split at hd
  · rename_i us hu
    cases hd
    unfold dEnm at hu
    split at hu
    · cases hu
      obtain ⟨x, rfl, h1⟩ := reps1 r1
      rw [Rep] at h1
      obtain ⟨_, a, xs, rfl, ha, hx⟩ := h1
      exact ⟨a, xs, rfl, SqL.of (env1.sub _ _ ha), post _ F1 H1 As1 env1 st1 pu1 (yields_enum X.K ha hx)⟩
    · cases hu
  · cases hd
end
end MP

namespace MP
open PySem L2

/-! ### loops -/
/-- what a body's end means for the loop -/
def loopF (f : Flw) (again : DS) : DS := match f with
  | .nx => again
  | .cnt => again
  | .brk => fun ρ => some (.ok .nx ρ)
  | .ret rv => fun ρ => some (.ok (.ret rv) ρ)
def dLoop (s : T → Rho → Option Rho) (body : DS) : List T → DS
  | [] => dNx
  | t :: ts => fun ρ => match s t ρ with
    | some ρ' => (bnd body fun f => loopF f (dLoop s body ts)) ρ'
    | none => none
def dFor (s : T → Rho → Option Rho) (it : DI) (body : DS) : DS := bnd it fun ts => dLoop s body ts
def notIn (io : Option Nat) (vs : List Nat) : Bool := match io with
  | some i => !vs.contains i
  | none => true
section
variable {C : Ctx} {X : Cx} {E : XW} {io : Option Nat} {tg iter e : Expr} {body : List Stmt} {d : DS} {di : DI} {dt : DT} {s : T → Rho → Option Rho} {vs : List Nat} {pos : Pos}
theorem S_for (hp : PassesOwn (model X.prog X.w) X.A X.env X.xe) (hc : X.calm = true) (hi : PI X tg iter (tI C E false di)) (hg : PG X tg (tTg C vs s)) (hb : PSs X body (tS C E io d)) (hv : notIn io vs = true) (hs : ∀ x, foldedSetIterable iter X.env x = pure x) :
    PS X (.For tg iter body [] pos) (tS C E io (dFor s di d)) := PS_imp (ps_for hp hc hi hg hb hs) fun D σ H ⟨F, ρ, As, o, env, hd, post⟩ => by
  rcases bnd_cases hd with ⟨ts, ρ1, q1, hd⟩ | ⟨x, ρ', q1, rfl⟩
  · refine ⟨F, ρ, As, _, env, q1, fun J F1 H1 As1 env1 st1 pu1 Y => ?_⟩
    refine ⟨fun i m σ' H' => m = ts.length - i ∧ i ≤ ts.length ∧ ∃ F2 ρ2 As2, Env C F2 H' σ' ρ2 As2 ∧ Step F H (Ow As) F2 H' (Ow As2) ∧ Same F1 F2 ∧ Prt io σ σ' ∧ dLoop s d (ts.drop i) ρ2 = some o,
      ⟨ts.length, by simp, Nat.zero_le _, F1, ρ1, As1, env1, st1, Same.refl _, Prt.refl, hd⟩, ?_⟩
    rintro i m σ' H' ⟨rfl, hi', F2, ρ2, As2, env2, st2, sm, pr, hl⟩
    by_cases hlt : i < ts.length
    · rw [List.drop_eq_getElem_cons hlt, dLoop] at hl
      refine .inr ⟨Y.go i H' F2 sm env2.sub hlt, fun σ3 H3 => ∃ F3 ρ3 As3, Env C F3 H3 σ3 ρ3 As3 ∧ Step F H (Ow As) F3 H3 (Ow As3) ∧ Same F1 F3 ∧ Prt io σ σ3 ∧ dLoop s d (ts.drop (i + 1)) ρ3 = some o,
        fun σ3 H3 h => ⟨ts.length - (i + 1), by omega, rfl, hlt, h⟩, fun x H3 hy => ?_⟩
      obtain ⟨F3, g, rx⟩ := Y.yld i ts[i] H' F2 x H3 sm env2.sub (List.getElem?_eq_getElem hlt) hy
      have hl : (match s ts[i] ρ2 with
        | some ρ' => (bnd d fun f => loopF f (dLoop s d (ts.drop (i + 1)))) ρ'
        | none => none) = some o := hl
      split at hl
      · rename_i ρ3 hs3
        refine ⟨F3, ρ2, As2, ts[i], ρ3, g.env env2, rx, hs3, fun σ4 As4 env4 sb l4 k4 => ?_⟩
        have st4 : Step F H (Ow As) F3 H3 (Ow As4) := (st2.trans g.step).trans ⟨Same.refl _, fun b u h _ _ => ⟨h, rfl⟩, fun b h => .inl (sb b h), tab_same fun _ _ h => h⟩
        have pr4 : Prt io σ σ4 := pr.trans fun j hj => k4 j fun z => by
          subst hj
          simp [notIn, z] at hv
        rcases bnd_cases hl with ⟨f, ρ5, q5, hl⟩ | ⟨y, ρ', q5, rfl⟩
        · refine ⟨F3, ρ3, As4, _, env4, q5, ?_⟩
          cases f with
          | nx => exact fun σ5 F5 H5 As5 env5 st5 pr5 => ⟨F5, ρ5, As5, env5, st4.trans st5, (sm.trans g.ff).trans st5.ff, pr4.trans pr5, hl⟩
          | cnt => exact fun σ5 F5 H5 As5 env5 st5 pr5 => ⟨F5, ρ5, As5, env5, st4.trans st5, (sm.trans g.ff).trans st5.ff, pr4.trans pr5, hl⟩
          | brk => cases hl; exact fun σ5 F5 H5 As5 env5 st5 pr5 => post σ5 F5 H5 As5 env5 (st4.trans st5) (pr4.trans pr5)
          | ret rv => cases hl; exact fun v σ5 F5 H5 As5 env5 st5 pr5 r5 => post v σ5 F5 H5 As5 env5 (st4.trans st5) (pr4.trans pr5) (r5.later st4)
        · exact ⟨F3, ρ3, As4, _, env4, q5, PostSX.later post st4 pr4⟩
      · cases hl
    · have e' : i = ts.length := by omega
      subst e'
      rw [List.drop_length, dLoop] at hl
      cases hl
      exact .inl ⟨Y.stop _ H' F2 sm env2.sub (Nat.le_refl _), post σ' F2 H' As2 env2 st2 pr⟩
  · exact ⟨F, ρ, As, _, env, q1, post.x⟩
/-- while, at most n turns -/
def dWhl (t : DT) (body : DS) : Nat → DS
  | 0 => fun _ => none
  | n + 1 => bnd t fun b => if b = true then bnd body fun f => loopF f (dWhl t body n) else dNx
theorem S_whl (n : Nat) (hp : PassesOwn (model X.prog X.w) X.A X.env X.xe) (hc : PT X e (tT C E false dt)) (hb : PSs X body (tS C E io d)) : PS X (.While e body [] pos) (tS C E io (dWhl dt d n)) := PS_imp (ps_while hp hc hb) fun D σ H ⟨F, ρ, As, o, env, hd, post⟩ => by
  refine ⟨fun m σ' H' => ∃ F2 ρ2 As2, Env C F2 H' σ' ρ2 As2 ∧ Step F H (Ow As) F2 H' (Ow As2) ∧ Prt io σ σ' ∧ dWhl dt d m ρ2 = some o, ⟨n, F, ρ, As, env, Step.refl, Prt.refl, hd⟩, ?_⟩
  rintro m σ' H' ⟨F2, ρ2, As2, env2, st2, pr, hl⟩
  cases m with
  | zero => cases hl
  | succ m =>
    rw [dWhl] at hl
    refine seqT env2 hl (fun x ρ' h => ((post.sx x ρ' h).later st2 pr).x) fun b ρ3 hl F3 H3 As3 env3 st3 pu3 => ?_
    split
    · rename_i hb; subst hb; rw [if_pos rfl] at hl
      refine ⟨fun σ4 H4 => ∃ F4 ρ4 As4, Env C F4 H4 σ4 ρ4 As4 ∧ Step F H (Ow As) F4 H4 (Ow As4) ∧ Prt io σ σ4 ∧ dWhl dt d m ρ4 = some o, fun σ4 H4 h => ⟨m, by omega, h⟩, ?_⟩
      rcases bnd_cases hl with ⟨f, ρ5, q5, hl⟩ | ⟨y, ρ', q5, rfl⟩
      · refine ⟨F3, ρ3, As3, _, env3, q5, ?_⟩
        cases f with
        | nx => exact fun σ5 F5 H5 As5 env5 st5 pr5 => ⟨F5, ρ5, As5, env5, (st2.trans st3).trans st5, pr.trans pr5, hl⟩
        | cnt => exact fun σ5 F5 H5 As5 env5 st5 pr5 => ⟨F5, ρ5, As5, env5, (st2.trans st3).trans st5, pr.trans pr5, hl⟩
        | brk => cases hl; exact fun σ5 F5 H5 As5 env5 st5 pr5 => post σ5 F5 H5 As5 env5 ((st2.trans st3).trans st5) (pr.trans pr5)
        | ret rv => cases hl; exact fun v σ5 F5 H5 As5 env5 st5 pr5 r5 => post v σ5 F5 H5 As5 env5 ((st2.trans st3).trans st5) (pr.trans pr5) (r5.later (st2.trans st3))
      · exact ⟨F3, ρ3, As3, _, env3, q5, PostSX.later post (st2.trans st3) pr⟩
    · rename_i hb
      rw [if_neg hb] at hl
      cases hl
      exact post σ' F3 H3 As3 env3 (st2.trans st3) pr
end

/-! ### a def's body -/
/-- what is handed back: a local's own object moves out -/
def retv (io : Option Nat) : RV → Rho → Option (T × Rho)
  | .tv t, ρ => some (t, ρ)
  | .pl i [], ρ => if io = some i then frc false (.pl i []) ρ else match ρ[i]? with
    | some (some t) => some (t, ρ.set i none)
    | _ => none
  | .pl i q, ρ => frc false (.pl i q) ρ
def outs (n : Nat) (io : Option Nat) (ρ : Rho) : Rho := match io with
  | none => List.replicate n none
  | some k => (List.replicate n none).set k (ρ[k]?.getD none)
/-- n parameters, m slots in all -/
def dDef (n m : Nat) (io : Option Nat) (body : DS) : DR := fun ρ => match body (ρ ++ List.replicate (m - n) none) with
  | some (.ok .nx ρ') => some (.ok (.tv .non) (outs n io ρ'))
  | some (.ok (.ret rv) ρ') => match retv io rv ρ' with
    | some (t, ρ2) => some (.ok (.tv t) (outs n io ρ2))
    | none => none
  | some (.exc x ρ') => some (.exc x (outs n io ρ'))
  | _ => none
section
variable {C : Ctx} {F H : Hp} {σ σ' : L2.St} {ρ ρ' : Rho} {As As' : Ads} {io : Option Nat} {n m : Nat}
theorem outs_get {i : Nat} {t : T} (h : (outs n io ρ)[i]? = some (some t)) : io = some i ∧ i < n ∧ ρ[i]? = some (some t) := by
  unfold outs at h
  split at h
  · rw [List.getElem?_replicate] at h
    split at h <;> cases h
  · rename_i k
    by_cases hk : k = i
    · subst hk
      rw [List.getElem?_set_self'] at h
      by_cases hn : k < n
      · simp [hn] at h
        cases q : ρ[k]? with
        | none => rw [q] at h; cases h
        | some x => rw [q] at h; simp at h; subst h; exact ⟨rfl, hn, rfl⟩
      · simp [hn] at h
    · rw [List.getElem?_set_ne hk, List.getElem?_replicate] at h
      split at h <;> cases h
theorem outs_len : (outs n io ρ).length = n := by
  unfold outs
  split <;> simp
def outA (n : Nat) (io : Option Nat) (ρ : Rho) (As : Ads) : Ads := fun i => match (outs n io ρ)[i]? with
  | some (some _) => As i
  | _ => []
theorem outA_mem {i : Nat} {a : Addr} (h : a ∈ outA n io ρ As i) : io = some i ∧ i < n ∧ a ∈ As i := by
  unfold outA at h
  split at h
  · rename_i t q
    obtain ⟨h1, h2, _⟩ := outs_get q
    exact ⟨h1, h2, h⟩
  · cases h
theorem env_outs {vs : List V} (e : Env C F H σ' ρ As) (hn : vs.length = n) (hσ : ∀ i, io = some i → i < n → σ'[i]? = some (some (vs[i]?.getD .non))) (hlt : ∀ i, io = some i → i < n) : Env C F H (vs.map some) (outs n io ρ) (outA n io ρ As) where
  ht := e.ht
  sub := e.sub
  len := by rw [outs_len]; simp [hn]
  own := fun i t h => by
    obtain ⟨h1, h2, h3⟩ := outs_get h
    obtain ⟨v, hv, ho⟩ := e.own i t h3
    have := hσ i h1 h2
    rw [hv] at this
    have hv' : vs[i]? = some v := by
      have hi : i < vs.length := by omega
      rw [List.getElem?_eq_getElem hi] at this ⊢
      simpa using this.symm
    refine ⟨v, by simp [hv'], ?_⟩
    unfold outA
    rw [h]
    exact ho
  emp := fun i h => by
    unfold outA
    split
    · rename_i t q; exact absurd q (h t)
    · rfl
  nod := fun i => by
    unfold outA
    split
    · exact e.nod i
    · exact List.nodup_nil
  dis := fun i j a h1 h2 => e.dis i j a (outA_mem h1).2.2 (outA_mem h2).2.2
theorem env_start {vs : List V} {N : List Str} (e : Env C F H (vs.map some) ρ As) (hn : vs.length = n) (hm : N.length = m) : Env C F H (L2.start N vs) (ρ ++ List.replicate (m - n) none) As where
  ht := e.ht
  sub := e.sub
  len := by
    have := e.len
    simp [L2.start, ← this, hn, hm]
  own := fun i t h => by
    by_cases hi : i < ρ.length
    · rw [List.getElem?_append_left hi] at h
      obtain ⟨v, hv, ho⟩ := e.own i t h
      refine ⟨v, ?_, ho⟩
      unfold L2.start
      rw [List.getElem?_append_left (by rw [e.len]; exact hi)]
      exact hv
    · rw [List.getElem?_append_right (by omega), List.getElem?_replicate] at h
      split at h <;> cases h
  emp := fun i h => by
    refine e.emp i fun t z => h t ?_
    have hi : i < ρ.length := (List.getElem?_eq_some_iff.mp z).1
    rw [List.getElem?_append_left hi]
    exact z
  nod := e.nod
  dis := e.dis
theorem Env.clear {i : Nat} (e : Env C F H σ ρ As) : Env C F H σ (ρ.set i none) (updA As i []) where
  ht := e.ht
  sub := e.sub
  len := by rw [List.length_set]; exact e.len
  own := fun j t h => by
    by_cases hj : j = i
    · subst hj
      rw [List.getElem?_set_self'] at h
      cases q : ρ[j]? with
      | none => simp [q] at h
      | some x => simp [q] at h
    · rw [List.getElem?_set_ne (Ne.symm hj)] at h
      rw [updA_ne hj]
      exact e.own j t h
  emp := fun j h => by
    by_cases hj : j = i
    · subst hj; rw [updA_same]
    · rw [updA_ne hj]
      refine e.emp j fun t z => h t ?_
      rw [List.getElem?_set_ne (Ne.symm hj)]; exact z
  nod := fun j => by
    by_cases hj : j = i
    · subst hj; rw [updA_same]; exact List.nodup_nil
    · rw [updA_ne hj]; exact e.nod j
  dis := fun j l a h1 h2 => by
    by_cases hj : j = i
    · subst hj; rw [updA_same] at h1; cases h1
    · by_cases hl : l = i
      · subst hl; rw [updA_same] at h2; cases h2
      · rw [updA_ne hj] at h1; rw [updA_ne hl] at h2
        exact e.dis j l a h1 h2
theorem retv_ok {F₀ H₀ : Hp} {As₀ : Ads} {rv : RV} {t : T} {v : V} {ρ2 : Rho} (e : Env C F H σ' ρ As) (st : Step F₀ H₀ (Ow As₀) F H (Ow As)) (r : RvOk C F H σ' ρ As H₀ (Ow As₀) rv v) (h : retv io rv ρ = some (t, ρ2)) :
    ∃ F2 As2, Env C F2 H σ' ρ2 As2 ∧ Step F₀ H₀ (Ow As₀) F2 H (Ow As2) ∧ RvOk C F2 H σ' ρ2 As2 H₀ (Ow As₀) (.tv t) v := by
  have fz : ∀ i q, rv = .pl i q → frc false (.pl i q) ρ = some (t, ρ2) → ∃ F2 As2, Env C F2 H σ' ρ2 As2 ∧ Step F₀ H₀ (Ow As₀) F2 H (Ow As2) ∧ RvOk C F2 H σ' ρ2 As2 H₀ (Ow As₀) (.tv t) v := fun i q eq hq => by
    subst eq
    obtain ⟨F2, As2, e2, st2, _, rp⟩ := frc_ok (p := false) (ρ₀ := ρ) e st (fun z => by cases z) r hq
    exact ⟨F2, As2, e2, st2, [], Own.of_rep rp, List.nodup_nil, fun a ha => by cases ha⟩
  cases rv with
  | tv u => cases h; exact ⟨F, As, e, st, r⟩
  | pl i q =>
    cases q with
    | cons j q => exact fz i _ rfl h
    | nil =>
      simp only [retv] at h
      split at h
      · exact fz i _ rfl h
      · split at h
        · rename_i t' ht'
          cases h
          obtain ⟨t0, u, v0, h1, h2, hm, h3, h4⟩ := r
          rw [ht'] at h1; cases h1
          rw [AtP] at h4; subst h4
          obtain ⟨v1, hv1, ho⟩ := e.own i _ ht'
          rw [h3] at hv1; cases hv1
          refine ⟨F, updA As i [], e.clear, ⟨st.ff, st.keep, fun b ⟨j, hj⟩ => ?_, st.tab⟩, As i, ho, e.nod i, fun a ha => ⟨fun ⟨j, hj⟩ => ?_, st.own a ⟨i, ha⟩⟩⟩
          · by_cases hji : j = i
            · subst hji; rw [updA_same] at hj; cases hj
            · rw [updA_ne hji] at hj; exact st.own b ⟨j, hj⟩
          · by_cases hji : j = i
            · subst hji; rw [updA_same] at hj; cases hj
            · rw [updA_ne hji] at hj; exact hji (e.dis j i a hj ha)
        · cases h
end
/-- a def keeps what its body says -/
theorem D_def {P : Program} {w : World} {K : PySem.W.Frag} {mg : Str → Option Value} {base : Heap} {C : Ctx} {x qual : Str} {st : Stmt} {f : Addr} {fd : FuncData} {N ps : List Str} {k : Nat} {io : Option Nat} {body : DS}
    (F : Fun K x qual st f fd) (S : FnScope N ps (defScope st)) (hio : ∀ i, io = some i → i < ps.length)
    (hb : ∀ (cdv : Value) (A : Around) (outer : List PySem.Env) (s : Shared) (H : Hp) (E : XK), Room k (A.deeper (PyProof.Rows.envOfC qual (defScope st) s.heap.objs.size f cdv)) →
      PSs (cxOf (L2.CX P w) P w K mg base N qual (defScope st) f cdv A outer s H E) (defBody st) (tS C (fun e d _ H' => E e d H') io body)) :
    FnOk P w K mg base (L2.CX P w) (k + 1) f fd ps (spD C ⟨ps.length, io, dDef ps.length N.length io body⟩) := by
  refine F.okX S (fun vs H Q E h => h.1) fun cdv A outer s H vs Q E hr h => ⟨_, hb cdv A outer s H E hr, ?_⟩
  obtain ⟨hl, F0, ρ, As, o, env, hd, post⟩ := h
  have hl : vs.length = ps.length := hl
  have hd : dDef ps.length N.length io body ρ = some o := hd
  have e0 := env_start (N := N) env hl rfl
  have hstart : ∀ i, i < ps.length → (L2.start N vs)[i]? = some (some (vs[i]?.getD .non)) := fun i hi => by
    unfold L2.start
    rw [List.getElem?_append_left (by simp; omega)]
    rw [List.getElem?_map, List.getElem?_eq_getElem (by omega)]
    rfl
  have sub : ∀ (ρ' : Rho) (As' : Ads) b, Ow (outA ps.length io ρ' As') b → Ow As' b := fun ρ' As' b ⟨i, hi⟩ => ⟨i, (outA_mem hi).2.2⟩
  unfold dDef at hd
  split at hd
  · rename_i ρ' hb'
    cases hd
    refine ⟨F0, _, As, _, e0, hb', fun σ' F' H' As' env' st' pr => ?_⟩
    exact post .non F' H' _ (env_outs env' hl (fun i h1 h2 => by rw [pr i h1]; exact hstart i h2) hio) ⟨st'.ff, st'.keep, fun b h => st'.own b (sub _ _ b h), st'.tab⟩ (fun z => by cases z) ⟨[], Own.of_rep (Rep.non.mpr rfl), List.nodup_nil, fun a ha => by cases ha⟩
  · rename_i rv ρ' hb'
    split at hd
    · rename_i t ρ2 hr2
      cases hd
      refine ⟨F0, _, As, _, e0, hb', fun v σ' F' H' As' env' st' pr r => ?_⟩
      obtain ⟨F2, As2, e2, st2, A, oA, nA, kA⟩ := retv_ok env' st' r hr2
      exact post v F2 H' _ (env_outs e2 hl (fun i h1 h2 => by rw [pr i h1]; exact hstart i h2) hio) ⟨st2.ff, st2.keep, fun b h => st2.own b (sub _ _ b h), st2.tab⟩ (fun z => by cases z) ⟨A, oA, nA, fun a ha => ⟨fun z => (kA a ha).1 (sub _ _ a z), (kA a ha).2⟩⟩
    · cases hd
  · rename_i x ρ' hb'
    cases hd
    refine ⟨F0, _, As, _, e0, hb', fun e d σ' F' H' As' env' st' pr xo => ?_⟩
    exact post e d F' H' _ (env_outs env' hl (fun i h1 h2 => by rw [pr i h1]; exact hstart i h2) hio) ⟨st'.ff, st'.keep, fun b h => st'.own b (sub _ _ b h), st'.tab⟩ xo
  · cases hd
end MP

namespace MP
open PySem L2

/-! ### list comprehensions -/
def wipeR (ρ : Rho) : List Nat → Rho
  | [] => ρ
  | v :: vs => (wipeR ρ vs).set v none
theorem wipeR_len (ρ : Rho) : ∀ vs, (wipeR ρ vs).length = ρ.length
  | [] => rfl
  | v :: vs => by rw [wipeR, List.length_set, wipeR_len ρ vs]
theorem wipeR_in {ρ : Rho} {i : Nat} {t : T} : ∀ {vs : List Nat}, (wipeR ρ vs)[i]? = some (some t) → i ∉ vs ∧ ρ[i]? = some (some t)
  | [], h => ⟨by simp, h⟩
  | v :: vs, h => by
    rw [wipeR] at h
    by_cases hv : v = i
    · subst hv
      rw [List.getElem?_set_self'] at h
      cases q : (wipeR ρ vs)[v]? with
      | none => simp [q] at h
      | some x => simp [q] at h
    · rw [List.getElem?_set_ne hv] at h
      obtain ⟨h1, h2⟩ := wipeR_in h
      exact ⟨by simp only [List.mem_cons, not_or]; exact ⟨fun e => hv e.symm, h1⟩, h2⟩
theorem env_wipe {C : Ctx} {F H : Hp} {σ : L2.St} {ρ : Rho} {As : Ads} (e : Env C F H σ ρ As) : ∀ vs : List Nat, ∃ As', Env C F H σ (wipeR ρ vs) As' ∧ ∀ b, Ow As' b → Ow As b
  | [] => ⟨As, e, fun _ h => h⟩
  | v :: vs => by
    obtain ⟨As', e', sb⟩ := env_wipe e vs
    refine ⟨updA As' v [], e'.clear, fun b ⟨j, hj⟩ => sb b ?_⟩
    by_cases h : j = v
    · subst h; rw [updA_same] at hj; cases hj
    · rw [updA_ne h] at hj; exact ⟨j, hj⟩
theorem wipe_len (σ : L2.St) : ∀ vs, (wipe σ vs).length = σ.length := fun vs => wipe_length σ vs
/-- the slots that are wiped hold nothing -/
theorem Env.slots {C : Ctx} {F H : Hp} {σ σ' : L2.St} {ρ : Rho} {As : Ads} (e : Env C F H σ ρ As) (hl : σ'.length = σ.length) (k : ∀ (i : Nat) (t : T), ρ[i]? = some (some t) → σ'[i]? = σ[i]?) : Env C F H σ' ρ As where
  ht := e.ht
  sub := e.sub
  len := by rw [hl]; exact e.len
  own := fun i t h => by
    obtain ⟨v, hv, ho⟩ := e.own i t h
    exact ⟨v, by rw [k i t h]; exact hv, ho⟩
  emp := e.emp
  nod := e.nod
  dis := e.dis
theorem wipe_at {σ : L2.St} {i : Nat} : ∀ {vs : List Nat}, i ∉ vs → (wipe σ vs)[i]? = σ[i]? := fun h => wipe_out h
theorem wipe_mem {σ : L2.St} {i : Nat} : ∀ {vs : List Nat}, i ∈ vs → i < σ.length → (wipe σ vs)[i]? = some none
  | v :: vs, h, hl => by
    unfold wipe
    by_cases hv : v = i
    · subst hv
      rw [List.getElem?_set_self (by rw [wipe_length]; exact hl)]
    · rw [List.getElem?_set_ne hv]
      rcases List.mem_cons.mp h with z | z
      · exact absurd z.symm hv
      · exact wipe_mem z hl
theorem wipe_eq {σ σ' : L2.St} {vs : List Nat} (hl : σ'.length = σ.length) (k : ∀ j, j ∉ vs → σ'[j]? = σ[j]?) : wipe σ' vs = wipe σ vs := by
  apply List.ext_getElem?
  intro i
  by_cases h : i ∈ vs
  · by_cases hi : i < σ.length
    · rw [wipe_mem h (by omega), wipe_mem h hi]
    · rw [List.getElem?_eq_none (by rw [wipe_length]; omega), List.getElem?_eq_none (by rw [wipe_length]; omega)]
  · rw [wipe_at h, wipe_at h, k i h]
theorem wipe_wipe {σ : L2.St} {vs : List Nat} : wipe (wipe σ vs) vs = wipe σ vs := wipe_eq (wipe_length _ _) fun j h => wipe_at h
theorem wipe_eq' {σ σ' : L2.St} {vs : List Nat} (hl : σ'.length = (wipe σ vs).length) (k : ∀ j, j ∉ vs → σ'[j]? = (wipe σ vs)[j]?) : wipe σ' vs = wipe σ vs := (wipe_eq hl k).trans wipe_wipe

def lcL (s : T → Rho → Option Rho) (vs : List Nat) (c : DT) (el : DV) : List T → Rho → Option (List T × Rho)
  | [], ρ => some ([], ρ)
  | t :: ts, ρ => match s t ρ with
    | none => none
    | some ρ1 => match c ρ1 with
      | some (.ok true ρ2) => match el ρ2 with
        | some (.ok u ρ3) => match lcL s vs c el ts (wipeR ρ3 vs) with
          | some (us, ρ4) => some (u :: us, ρ4)
          | none => none
        | _ => none
      | some (.ok false ρ2) => lcL s vs c el ts (wipeR ρ2 vs)
      | _ => none
def bare (ρ : Rho) (vs : List Nat) : Bool := vs.all fun i => match ρ[i]? with
  | some (some _) => false
  | _ => true
def dLc (s : T → Rho → Option Rho) (vs : List Nat) (it : DI) (c : DT) (el : DV) : DR := bnd it fun ts ρ =>
  if ts.length ≤ sizeLine ∧ bare ρ vs = true then match lcL s vs c el ts ρ with
    | some (us, ρ') => some (.ok (.tv (.nd true .lst us)) ρ')
    | none => none
  else none
theorem bare_wipe {ρ : Rho} : ∀ {vs : List Nat}, bare ρ vs = true → (∀ i ∈ vs, i < ρ.length) → wipeR ρ vs = ρ
  | [], _, _ => rfl
  | v :: vs, h, hl => by
    simp only [bare, List.all_cons, Bool.and_eq_true] at h
    rw [wipeR, bare_wipe (by simpa [bare] using h.2) fun i hi => hl i (by simp [hi])]
    refine set_self ?_
    have hv := hl v (by simp)
    rw [List.getElem?_eq_getElem hv] at h ⊢
    cases q : ρ[v] with
    | none => rfl
    | some t => rw [q] at h; simp at h
/-- s stores the slots vs alone -/
def Stores (s : T → Rho → Option Rho) (vs : List Nat) : Prop := ∀ t ρ ρ1, s t ρ = some ρ1 → wipeR ρ1 vs = wipeR ρ vs ∧ ∀ i ∈ vs, i < ρ.length
abbrev E0 : XW := fun _ _ _ _ => False
theorem lc_all {C : Ctx} {E : XW} {p : Bool} {s : T → Rho → Option Rho} {vs : List Nat} {it : DI} {c : DT} {el : DV} (hst : Stores s vs) {σ : L2.St} {H : Hp} {Q : VK} (h : tR C E p (dLc s vs it c el) σ H Q) :
    tLc (tI C E p it) (tTg C vs s) (tT C E0 p c) (tV C E0 p el) vs σ H Q := by
  obtain ⟨F, ρ, As, o, env, hd, post⟩ := h
  rcases bnd_cases hd with ⟨ts, ρ1, q1, hd⟩ | ⟨x, ρ', q1, rfl⟩
  · split at hd
    · rename_i hc
      split at hd
      · rename_i us ρ9 hl
        cases hd
        refine ⟨F, ρ, As, _, env, q1, fun J F1 H1 As1 env1 st1 pu1 Y => fun D hD => ?_⟩
        have nD1 : ¬ Ow As1 D := fun ⟨i, hi⟩ => by obtain ⟨_, o, h⟩ := env1.has hi; rw [hD] at h; cases h
        have fD1 : F1 D = none := Same.free env1.sub hD
        have start : Env C F1 (upd H1 D (.lst [])) (wipe σ vs) ρ1 As1 := by
          have e1 : Env C F1 (upd H1 D (.lst [])) σ ρ1 As1 := env1.grow (Same.refl _) (fun b u h => by rw [upd_ne (ne_of_none (env1.sub _ _ h) hD)]; exact env1.sub _ _ h)
            (fun i a ha => ⟨upd_ne fun z => nD1 ⟨i, z ▸ ha⟩, (env1.has ha).1⟩) (env1.ht.upd fun ps z => by rw [hD] at z; cases z)
          refine e1.slots (wipe_length _ _) fun i t ht => wipe_at fun hi => ?_
          have := hc.2
          simp only [bare, List.all_eq_true] at this
          have := this i hi
          rw [ht] at this
          cases this
        refine ⟨fun i m H' => m = ts.length - i ∧ i ≤ ts.length ∧ ∃ F2 ρ2 As2 acc ua ub, Env C F2 H' (wipe σ vs) ρ2 As2 ∧ Step F1 H1 (Ow As1) F2 H' (Ow As2) ∧ (p = true → ρ2 = ρ1 ∧ SameN H1 H') ∧ ¬ Ow As2 D ∧ F2 D = none ∧ H' D = some (.lst acc) ∧ Reps C F2 ua acc ∧
            ua.length ≤ i ∧ us = ua ++ ub ∧ lcL s vs c el (ts.drop i) ρ2 = some (ub, ρ9),
          ⟨ts.length, by simp, Nat.zero_le _, F1, ρ1, As1, [], [], us, start, ⟨Same.refl _, fun b u h n _ => ⟨by rw [upd_ne (ne_of_none h hD)]; exact h, rfl⟩, fun b h => .inl h, tab_same fun b ps h => by rw [upd_ne (ne_of_none h hD)]; exact h⟩, fun _ => ⟨rfl, fun b u h _ => by rw [upd_ne (ne_of_none h hD)]; exact h⟩,
            nD1, fD1, upd_same, by rw [Reps], Nat.zero_le _, rfl, hl⟩, ?_⟩
        rintro i m H' ⟨rfl, hi, F2, ρ2, As2, acc, ua, ub, env2, st2, pu2, nD2, fD2, hD2, rp2, hlen, hus, hl⟩
        by_cases hlt : i < ts.length
        · rw [List.drop_eq_getElem_cons hlt, lcL] at hl
          refine .inr ⟨Y.go i H' F2 st2.ff env2.sub hlt, fun H5 => ∃ F2 ρ2 As2 acc ua ub, Env C F2 H5 (wipe σ vs) ρ2 As2 ∧ Step F1 H1 (Ow As1) F2 H5 (Ow As2) ∧ (p = true → ρ2 = ρ1 ∧ SameN H1 H5) ∧ ¬ Ow As2 D ∧ F2 D = none ∧ H5 D = some (.lst acc) ∧ Reps C F2 ua acc ∧
            ua.length ≤ i + 1 ∧ us = ua ++ ub ∧ lcL s vs c el (ts.drop (i + 1)) ρ2 = some (ub, ρ9), fun H5 h => ⟨ts.length - (i + 1), by omega, rfl, hlt, h⟩, fun x H3 hy => ?_⟩
          obtain ⟨F3, g, rx⟩ := Y.yld i ts[i] H' F2 x H3 st2.ff env2.sub (List.getElem?_eq_getElem hlt) hy
          split at hl
          · cases hl
          · rename_i ρ3 hs3
            refine ⟨F3, ρ2, As2, ts[i], ρ3, g.env env2, rx, hs3, fun σ4 As4 env4 sb l4 k4 => ⟨wipe_eq' l4 k4, ?_⟩⟩
            have st4 : Step F1 H1 (Ow As1) F3 H3 (Ow As4) := (st2.trans g.step).trans ⟨Same.refl _, fun b u h _ _ => ⟨h, rfl⟩, fun b h => .inl (sb b h), tab_same fun _ _ h => h⟩
            have nD4 : ¬ Ow As4 D := fun z => nD2 (sb D z)
            have hD4 : H3 D = some (.lst acc) := g.hh _ _ hD2
            have fD4 : F3 D = none := by rw [g.old D _ hD2]; exact fD2
            -- what a turn leaves, without a new item
            have leave : ∀ ρ5 F5 H5 As5, Env C F5 H5 σ4 ρ5 As5 → Step F3 H3 (Ow As4) F5 H5 (Ow As5) → Pur p ρ3 ρ5 As4 As5 H3 H5 →
                ∃ As6, Env C F5 H5 (wipe σ vs) (wipeR ρ5 vs) As6 ∧ Step F1 H1 (Ow As1) F5 H5 (Ow As6) ∧ (p = true → wipeR ρ5 vs = ρ1 ∧ SameN H1 H5) ∧ ¬ Ow As6 D ∧ F5 D = none ∧ H5 D = some (.lst acc) ∧ Same F3 F5 := fun ρ5 F5 H5 As5 env5 st5 pu5 => by
              obtain ⟨As6, env6, sb6⟩ := env_wipe env5 vs
              obtain ⟨k1, k2⟩ := st5.keep D _ hD4 nD4 fun ps z => by cases z
              refine ⟨As6, env6.slots (by rw [wipe_length, l4, wipe_length]) (fun j t hj => ?_), (st4.trans st5).trans ⟨Same.refl _, fun b u h _ _ => ⟨h, rfl⟩, fun b h => .inl (sb6 b h), tab_same fun _ _ h => h⟩, fun hp => ?_, fun z => ?_, by rw [k2]; exact fD4, k1, st5.ff⟩
              · obtain ⟨hn, _⟩ := wipeR_in hj
                rw [k4 j hn]
              · obtain ⟨p1, p2⟩ := pu2 hp
                obtain ⟨p3, p4⟩ := pu5 hp
                obtain ⟨w1, w2⟩ := hst _ _ _ hs3
                rw [p3, w1, p1, bare_wipe hc.2 (by rw [← p1]; exact w2)]
                exact ⟨rfl, SameN.trans p2 (SameN.trans (Same.n g.hh) p4)⟩
              · rcases st5.own D (sb6 D z) with y | y
                · exact nD4 y
                · rw [hD4] at y; cases y
            split at hl
            · rename_i ρ5 hc5
              refine ⟨F3, ρ3, As4, _, env4, hc5, fun F5 H5 As5 env5 st5 pu5 => ?_⟩
              refine iteT ?_
              split at hl
              · rename_i u ρ6 he6
                split at hl
                · rename_i us' ρ7 hl7
                  cases hl
                  refine ⟨F5, ρ5, As5, _, env5, he6, fun y F6 H6 As6 env6 st6 pu6 ry => ?_⟩
                  obtain ⟨As7, env7, st7, pu7, nD7, fD7, hD7, ff7⟩ := leave ρ6 F6 H6 As6 env6 (st5.trans st6) (pu5.trans pu6)
                  refine ⟨acc, hD7, ?_, F6, wipeR ρ6 vs, As7, acc ++ [y], ua ++ [u], us', ?_, ?_, fun hp => ?_, nD7, fD7, upd_same, ?_, by simp; omega, by rw [hus]; simp, hl7⟩
                  · have := rp2.length
                    have := hc.1
                    omega
                  · refine env7.grow (Same.refl _) (fun b w h => ?_) (fun j a ha => ⟨upd_ne fun z => nD7 ⟨j, z ▸ ha⟩, (env7.has ha).1⟩) (env7.ht.upd fun ps z => by rw [hD7] at z; cases z)
                    rw [upd_ne (fun z => by rw [z, fD7] at h; cases h)]
                    exact env7.sub _ _ h
                  · refine ⟨st7.ff, fun b w h n nt => ?_, st7.own, fun b ps h => ?_⟩
                    rotate_left
                    · obtain ⟨ps', h', k'⟩ := st7.tab b ps h
                      exact ⟨ps', by rw [upd_ne (fun z => by rw [z, hD7] at h'; cases h')]; exact h', k'⟩
                    obtain ⟨k1, k2⟩ := st7.keep b w h n nt
                    exact ⟨by rw [upd_ne (ne_of_none h hD)]; exact k1, k2⟩
                  · obtain ⟨p1, p2⟩ := pu7 hp
                    exact ⟨p1, fun b w h nt => by rw [upd_ne (ne_of_none h hD)]; exact p2 _ _ h nt⟩
                  · refine (rp2.mono (g.ff.trans ff7)).append ?_
                    simp only [Reps]
                    exact ⟨y, [], rfl, ry, rfl⟩
                · cases hl
              · cases hl
            · rename_i ρ5 hc5
              refine ⟨F3, ρ3, As4, _, env4, hc5, fun F5 H5 As5 env5 st5 pu5 => ?_⟩
              refine iteF ?_
              obtain ⟨As7, env7, st7, pu7, nD7, fD7, hD7, ff7⟩ := leave ρ5 F5 H5 As5 env5 st5 pu5
              exact ⟨F5, wipeR ρ5 vs, As7, acc, ua, ub, env7, st7, pu7, nD7, fD7, hD7, rp2.mono (g.ff.trans ff7), by omega, hus, hl⟩
            · cases hl
        · have e' : i = ts.length := by omega
          subst e'
          rw [List.drop_length, lcL] at hl
          cases hl
          refine .inl ⟨Y.stop _ H' F2 st2.ff env2.sub (Nat.le_refl _), ?_⟩
          have hus : us = ua := by simpa using hus
          subst hus
          refine post (.ref D) F2 H' As2 (env2.slots (by rw [wipe_length]) fun j t hj => ?_) (st1.trans st2) (fun hp => ?_) ⟨[D], ?_, by simp, fun a ha => ?_⟩
          · obtain ⟨v, hv, _⟩ := env2.own j t hj
            rw [hv, (wipe_some hv).1]
          · obtain ⟨p1, p2⟩ := pu1 hp
            obtain ⟨p3, p4⟩ := pu2 hp
            exact ⟨p3.trans p1, SameN.trans p2 p4⟩
          · rw [Own]
            exact ⟨D, [], acc, _, rfl, rfl, fD2, hD2, rfl, Owns.of_reps rp2⟩
          · simp at ha; subst ha
            refine ⟨nD2, ?_⟩
            by_cases hO : Ow As a
            · exact .inl hO
            · refine .inr ?_
              cases q : H a with
              | none => rfl
              | some u => obtain ⟨_, this⟩ := st1.some q hO; rw [hD] at this; cases this
      · cases hd
    · cases hd
  · exact ⟨F, ρ, As, _, env, q1, post⟩
end MP

namespace MP
open PySem L2

/-! ### comprehensions as expressions and statements -/
theorem wipeR_get {ρ : Rho} {i : Nat} : ∀ {vs : List Nat}, i ∉ vs → (wipeR ρ vs)[i]? = ρ[i]?
  | [], _ => rfl
  | v :: vs, h => by
    simp only [List.mem_cons, not_or] at h
    rw [wipeR, List.getElem?_set_ne (Ne.symm h.1), wipeR_get h.2]
theorem wipeR_none {ρ : Rho} {i : Nat} : ∀ {vs : List Nat}, i ∈ vs → i < ρ.length → (wipeR ρ vs)[i]? = some none
  | v :: vs, h, hl => by
    rw [wipeR]
    by_cases hv : v = i
    · subst hv
      rw [List.getElem?_set_self (by rw [wipeR_len]; exact hl)]
    · rw [List.getElem?_set_ne hv]
      rcases List.mem_cons.mp h with z | z
      · exact absurd z.symm hv
      · exact wipeR_none z hl
theorem wipeR_eq {ρ ρ' : Rho} {vs : List Nat} (hl : ρ'.length = ρ.length) (k : ∀ j, j ∉ vs → ρ'[j]? = ρ[j]?) : wipeR ρ' vs = wipeR ρ vs := by
  apply List.ext_getElem?
  intro i
  by_cases h : i ∈ vs
  · by_cases hi : i < ρ.length
    · rw [wipeR_none h (by omega), wipeR_none h hi]
    · rw [List.getElem?_eq_none (by rw [wipeR_len]; omega), List.getElem?_eq_none (by rw [wipeR_len]; omega)]
  · rw [wipeR_get h, wipeR_get h, k i h]
theorem stores_nm {i : Nat} : Stores (sNm i) [i] := fun t ρ ρ1 h => by
  unfold sNm at h
  split at h
  · rename_i hi
    cases h
    refine ⟨wipeR_eq (by rw [List.length_set]) fun j hj => ?_, fun j hj => ?_⟩
    · rw [List.getElem?_set_ne]; simpa [eq_comm] using hj
    · simp at hj; subst hj; exact hi
  · cases h
theorem sTps_out : ∀ {is : List Nat} {ts : List T} {ρ ρ' : Rho}, sTps is ts ρ = some ρ' → ρ'.length = ρ.length ∧ (∀ j, j ∉ is → ρ'[j]? = ρ[j]?) ∧ ∀ i ∈ is, i < ρ.length
  | [], [], ρ, ρ', h => by cases h; exact ⟨rfl, fun _ _ => rfl, fun i hi => by cases hi⟩
  | [], _ :: _, _, _, h => by cases h
  | _ :: _, [], _, _, h => by cases h
  | i :: is, t :: ts, ρ, ρ', h => by
    rw [sTps] at h
    cases q : sNm i t ρ with
    | none => rw [q] at h; cases h
    | some ρ1 =>
      rw [q] at h
      have h : sTps is ts ρ1 = some ρ' := h
      obtain ⟨h1, h2, h3⟩ := sTps_out h
      unfold sNm at q
      split at q
      · rename_i hi
        cases q
        rw [List.length_set] at h1 h3
        refine ⟨h1, fun j hj => ?_, fun j hj => ?_⟩
        · simp only [List.mem_cons, not_or] at hj
          rw [h2 j hj.2, List.getElem?_set_ne (Ne.symm hj.1)]
        · rcases List.mem_cons.mp hj with z | z
          · subst z; exact hi
          · exact h3 j z
      · cases q
theorem stores_tup {is : List Nat} : Stores (sTup is) is := fun t ρ ρ1 h => by
  unfold sTup at h
  split at h
  · obtain ⟨h1, h2, h3⟩ := sTps_out h
    exact ⟨wipeR_eq h1 h2, h3⟩
  · cases h
def dYes : DT := fun ρ => some (.ok true ρ)
section
variable {C : Ctx} {X : Cx} {E : XW} {p : Bool} {io : Option Nat} {a b tg iter elt : Expr} {ifs : List Expr} {scope : Scope} {own : List (Str × Nat)} {s : T → Rho → Option Rho} {it : DI} {c : DT} {el : DV} {pos spos py : Pos}
theorem Ts_nil : PTs X [] (tT C E p dYes) := ⟨fun pins st σ H Q I ⟨F, ρ, As, o, env, hd, post⟩ => by
  cases hd
  exact wpAny_tests_nil ⟨H, I, post F H As env Step.refl Pur.refl⟩⟩
theorem R_lc (hst : Stores s (own.map (·.2))) (hc : X.calm = true) (hN : X.N.Nodup) (hi : PI X tg iter (tI C E p it)) (ok : BlkOk X.N X.env.scope scope own)
    (hg : ∀ (s' : Shared) (H : Hp) (C' : Addr) (cl : List (Str × Addr)) (fp : List Addr), PG (X.blk s' H scope (compEnvC scope cl C' X.env) fp) tg (tTg C (own.map (·.2)) s))
    (ht : ∀ (s' : Shared) (H : Hp) (C' : Addr) (cl : List (Str × Addr)) (fp : List Addr), PTs (X.blk s' H scope (compEnvC scope cl C' X.env) fp) ifs (tT C E0 p c))
    (he : ∀ (s' : Shared) (H : Hp) (C' : Addr) (cl : List (Str × Addr)) (fp : List Addr), PE (X.blk s' H scope (compEnvC scope cl C' X.env) fp) elt (tV C E0 p el)) (hs : ∀ x, foldedSetIterable iter X.env x = pure x) :
    PE X (.ListComp elt [⟨tg, iter, ifs, 0⟩] scope pos) (tR C E p (dLc s (own.map (·.2)) it c el)) := PE_imp (pe_lc hc hN hi ok hg ht he hs) fun σ H Q h => lc_all hst h
theorem S_lc {i : Nat} {y : Str} (hst : Stores s (own.map (·.2))) (hc : X.calm = true) (hN : X.N.Nodup) (hy : X.N[i]? = some y) (hyl : X.env.scope.names.lookup y = some .local)
    (hsw : swapsWith (.ListComp elt [⟨tg, iter, ifs, 0⟩] scope pos) (some (.Name y py)) spos.line X.env = pure true) (hi : PI X tg iter (tI C E false it)) (ok : BlkOk X.N X.env.scope scope own)
    (hg : ∀ (s' : Shared) (H : Hp) (C' : Addr) (cl : List (Str × Addr)) (fp : List Addr), PG (X.blk s' H scope (compEnvC scope cl C' X.env) fp) tg (tTg C (own.map (·.2)) s))
    (ht : ∀ (s' : Shared) (H : Hp) (C' : Addr) (cl : List (Str × Addr)) (fp : List Addr), PTs (X.blk s' H scope (compEnvC scope cl C' X.env) fp) ifs (tT C E0 false c))
    (he : ∀ (s' : Shared) (H : Hp) (C' : Addr) (cl : List (Str × Addr)) (fp : List Addr), PE (X.blk s' H scope (compEnvC scope cl C' X.env) fp) elt (tV C E0 false el)) (hs : ∀ x, foldedSetIterable iter X.env x = pure x) :
    PS X (.Assign [.Name y py] (.ListComp elt [⟨tg, iter, ifs, 0⟩] scope pos) spos) (tS C E io (dAsg io i (dLc s (own.map (·.2)) it c el))) :=
  S_asg_core (fun σ H Q h => lc_all hst h) (ps_setLc hc hN hy hyl hsw hi ok hg ht he hs)
end

/-! ### subscripts -/
def keyT : T → Option Key
  | .int i => some (.inl i)
  | .str x => some (.inr x)
  | _ => none
theorem keyT_ok {C : Ctx} {F : Hp} {t : T} {k : Key} {v : V} (r : Rep C F t v) (h : keyT t = some k) : v = kV k := by
  unfold keyT at h
  split at h
  · cases h; rw [Rep] at r; exact r
  · cases h; rw [Rep] at r; exact r
  · cases h
def lkT {κ : Type} [DecidableEq κ] : List κ → List T → κ → Option T
  | k' :: ks, t :: ts, k => if k' = k then some t else lkT ks ts k
  | _, _, _ => none
theorem lkT_ok {C : Ctx} {F : Hp} {κ : Type} [DecidableEq κ] {k : κ} : ∀ {ks : List κ} {ts : List T} {xs : List V}, Reps C F ts xs → ks.length = xs.length →
    (∀ t, lkT ks ts k = some t → ∃ x, valV (ks.zip xs) k = some x ∧ Rep C F t x) ∧ (lkT ks ts k = none → valV (ks.zip xs) k = none)
  | [], _, _, _, _ => ⟨(fun t h => by cases h), fun _ => rfl⟩
  | k' :: ks, [], xs, r, h => by rw [Reps] at r; subst r; simp at h
  | k' :: ks, t :: ts, xs, r, h => by
    rw [Reps] at r
    obtain ⟨x, w, rfl, r1, r2⟩ := r
    have ih := lkT_ok (k := k) r2 (ks := ks) (by simpa using h)
    rw [lkT, List.zip_cons_cons]
    by_cases e : k' = k
    · rw [if_pos e, valV_pos e]
      exact ⟨(fun t' h => by cases h; exact ⟨x, rfl, r1⟩), fun h => by cases h⟩
    · rw [if_neg e, valV_neg e]
      exact ih
/-- o[i] -/
def getT : T → T → Option T
  | .nd _ .lst ts, .int i => atI ts i
  | .nd _ .scr ts, .int i => atI ts i
  | .nd _ .tup ts, .int i => atI ts i
  | .str z, .int i => if z.length ≤ sizeLine then (atI z.cps.toList i).map fun c => .str ⟨#[c]⟩ else none
  | .nd _ (.dct ks) ts, k => (keyT k).bind fun k => lkT ks ts k
  | _, _ => none
/-- the top in H, its parts frozen -/
def RTop (C : Ctx) (F H : Hp) : T → V → Prop
  | .nd _ k ts, v => ∃ a xs, v = .ref a ∧ NodeR C H a xs k ∧ Reps C F ts xs
  | t, v => Rep C F t v
theorem Rep.top {C : Ctx} {F H : Hp} {t : T} {v : V} (s : Same F H) (h : Rep C F t v) : RTop C F H t v := by
  cases t with
  | nd m k ts => rw [Rep] at h; obtain ⟨_, a, xs, e, hn, hr⟩ := h; exact ⟨a, xs, e, hn.mono s, hr⟩
  | _ => exact h
theorem Owns.reps {C : Ctx} {F H : Hp} : ∀ {ts : List T} {xs : List V} {A : List Addr}, Owns C F H ts xs A → (ts.all fun t => !t.mk) = true → A = [] ∧ Reps C F ts xs
  | [], xs, A, h, _ => by rw [Owns] at h; rw [Reps]; exact ⟨h.2, h.1⟩
  | t :: ts, xs, A, h, k => by
    rw [Owns] at h
    obtain ⟨x, r, A1, A2, rfl, rfl, h1, h2⟩ := h
    simp only [List.all_cons, Bool.and_eq_true, Bool.not_eq_true'] at k
    obtain ⟨rfl, r1⟩ := h1.rep k.1
    obtain ⟨rfl, r2⟩ := Owns.reps h2 (by simpa using k.2)
    rw [Reps]
    exact ⟨rfl, x, r, rfl, r1, r2⟩
/-- no part is marked -/
def plainTop : T → Bool
  | .nd _ _ ts => ts.all fun t => !t.mk
  | _ => true
theorem Own.top {C : Ctx} {F H : Hp} {t : T} {v : V} {A : List Addr} (s : Same F H) (h : Own C F H t v A) (k : plainTop t = true) : RTop C F H t v := by
  cases t with
  | nd m kd ts =>
    cases m with
    | false => exact (h.rep rfl).2.top s
    | true =>
      rw [Own] at h
      obtain ⟨a, A', xs, o, rfl, rfl, _, h2, h3, h4⟩ := h
      exact ⟨a, xs, rfl, h3.read h2, (h4.reps k).2⟩
  | _ => exact (h.rep rfl).2
/-- o[i] by values -/
def rGet (C : Ctx) : R2 := fun x y H Q => ∃ F tx ty t, Same F H ∧ RTop C F H tx x ∧ Rep C H ty y ∧ getT tx ty = some t ∧ ∀ v, Rep C F t v → Q v H
theorem atI_reps {C : Ctx} {F : Hp} {ts : List T} {xs : List V} {i : Int} {t : T} (r : Reps C F ts xs) (h : atI ts i = some t) : ∃ v, atI xs i = some v ∧ Rep C F t v := by
  unfold atI at h ⊢
  rw [← r.length]
  cases q : ixN ts.length i with
  | none => rw [q] at h; cases h
  | some j =>
    rw [q] at h
    have h : ts[j]? = some t := h
    obtain ⟨v, hv, hr⟩ := r.get h
    exact ⟨v, hv, hr⟩
def rIxD : R2 := fun x y H Q => ∃ a v, x = .ref a ∧ DGet H a y (some v) ∧ Q v H
section
variable {C : Ctx} {X : Cx} {E : XW} {p : Bool} {a b : Expr} {da db : DV} {pos px : Pos}
theorem ix_dict (hu : X.A.units + 1 < cLine) : IxR X rIxD := by
  intro value slice pins s σ H x y v u Q I rx ry h hs
  obtain ⟨a, z, rfl, g, q⟩ := h
  cases rx
  exact PyProof.Rows.tail_any (dict_typeIs I g) PySem.F.slot_dict_getitem.lookup (d_getItem hu I g ry fun w' s3 I3 rw' => ⟨z, H, I3, rw', q⟩) hs
theorem ix_get (hK : C.K = X.K) (hu : X.A.units + 1 < cLine) : IxR X (rGet C) := by
  intro value slice pins s σ H x y v u Q I rx ry h hs
  obtain ⟨F, tx, ty, t, sm, hx, hy, hg, q⟩ := h
  unfold getT at hg
  split at hg
  · obtain ⟨a, xs, rfl, hn, hr⟩ := hx
    rw [Rep] at hy; subst hy
    obtain ⟨z, hz, rz⟩ := atI_reps hr hg
    exact ix_list value slice pins s σ H _ _ v u Q I rx ry ⟨a, xs, _, z, rfl, rfl, SqL.of hn, hz, q z rz⟩ hs
  · obtain ⟨a, xs, rfl, hn, hr⟩ := hx
    rw [Rep] at hy; subst hy
    obtain ⟨z, hz, rz⟩ := atI_reps hr hg
    exact ix_list value slice pins s σ H _ _ v u Q I rx ry ⟨a, xs, _, z, rfl, rfl, hK ▸ hn, hz, q z rz⟩ hs
  · obtain ⟨a, xs, rfl, hn, hr⟩ := hx
    rw [Rep] at hy; subst hy
    obtain ⟨z, hz, rz⟩ := atI_reps hr hg
    exact ix_tup value slice pins s σ H _ _ v u Q I rx ry ⟨a, xs, _, z, rfl, rfl, hK ▸ hn, hz, q z rz⟩ hs
  · rename_i z i
    have hx : x = .str z := hx
    rw [Rep] at hy; subst hx hy
    split at hg
    · rename_i hz
      cases q1 : atI z.cps.toList i with
      | none => rw [q1] at hg; cases hg
      | some c =>
        rw [q1] at hg; cases hg
        exact ix_str value slice pins s σ H _ _ v u Q I rx ry ⟨z, i, c, rfl, rfl, hz, q1, q _ (Rep.str.mpr rfl)⟩ hs
    · cases hg
  · rename_i k0 m ks ts
    cases q1 : keyT ty with
    | none => rw [q1] at hg; cases hg
    | some k =>
      rw [q1] at hg
      have hg : lkT ks ts k = some t := hg
      obtain ⟨a, xs, rfl, ⟨hl, hn⟩, hr⟩ := hx
      have := keyT_ok hy q1; subst this
      obtain ⟨z, hz, rz⟩ := (lkT_ok (k := k) hr hl).1 t hg
      exact ix_dict hu value slice pins s σ H _ _ v u Q I rx ry ⟨a, z, rfl, .inl ⟨_, k, hn, rfl, hz.symm⟩, q z rz⟩ hs
  · cases hg
/-- the base is frozen -/
def dSub (da db : DV) : DV := bnd da fun x => bnd db fun y ρ => match getT x y with
  | some t => some (.ok t ρ)
  | none => none
theorem V_sub (hK : C.K = X.K) (hu : X.A.units + 1 < cLine) (ha : PE X a (tV C E p da)) (hb : PE X b (tV C E p db)) (hs : PlainIx b) : PE X (.Subscript a b pos) (tV C E p (dSub da db)) :=
  PE_imp (pe_ix (ix_get hK hu) ha hb hs) fun σ H Q ⟨F, ρ, As, o, env, hd, post⟩ => by
    refine seqV env hd post.xx fun x ρ1 hd v F1 H1 As1 env1 st1 pu1 r1 => seqV env1 hd (fun e ρ' h => (post.xx e ρ' h).later st1) fun y ρ2 hd w F2 H2 As2 env2 st2 pu2 r2 => ?_
    split at hd
    · rename_i t ht
      cases hd
      exact ⟨F2, x, y, t, env2.sub, (r1.mono st2.ff).top env2.sub, r2.mono env2.sub, ht, fun v r => post v F2 H2 As2 env2 (st1.trans st2) (pu1.trans pu2) r⟩
    · cases hd
/-- the base is a slot, whatever it holds -/
def dSubv (i : Nat) (db : DV) : DV := fun ρ => match ρ[i]? with
  | some (some _) => (bnd db fun y ρ => match ρ[i]? with
    | some (some t) => if plainTop t = true then match getT t y with
        | some u => some (.ok u ρ)
        | none => none
      else none
    | _ => none) ρ
  | _ => none
theorem V_subv {i : Nat} {x : Str} (hK : C.K = X.K) (hu : X.A.units + 1 < cLine) (ha : PE X (.Name x px) (tVar i)) (hb : PE X b (tV C E p db)) (hs : PlainIx b) : PE X (.Subscript (.Name x px) b pos) (tV C E p (dSubv i db)) := by
  refine PE_imp (pe_ix (ix_get hK hu) ha hb hs) fun σ H Q ⟨F, ρ, As, o, env, hd, post⟩ => ?_
  unfold dSubv at hd
  split at hd
  · rename_i t0 ht0
    obtain ⟨v, hv, _⟩ := env.own i t0 ht0
    refine ⟨v, hv, seqV env hd post.xx fun y ρ1 hd w F1 H1 As1 env1 st1 pu1 r1 => ?_⟩
    split at hd
    · rename_i t ht
      split at hd
      · rename_i hp
        split at hd
        · rename_i u hg
          cases hd
          obtain ⟨v', hv', ho⟩ := env1.own i t ht
          rw [hv] at hv'; cases hv'
          exact ⟨F1, t, y, u, env1.sub, ho.top env1.sub hp, r1.mono env1.sub, hg, fun z r => post z F1 H1 As1 env1 st1 pu1 r⟩
        · cases hd
      · cases hd
    · cases hd
  · cases hd
end

/-! ### stores into a slot's object -/
def idxOf {κ : Type} [DecidableEq κ] : List κ → κ → Option Nat
  | [], _ => none
  | k' :: ks, k => if k' = k then some 0 else (idxOf ks k).map (· + 1)
/-- o[i] = v -/
def setL (m : Bool) (ts : List T) (y v : T) : Option T := match y with
  | .int i => match ixN ts.length i with
    | some j => some (.nd m .lst (ts.set j v))
    | none => none
  | _ => none
def setD (m : Bool) (ks : List Key) (ts : List T) (y v : T) : Option T := match keyT y with
  | some k => if ks.Nodup ∧ ks.length = ts.length ∧ ts.length < sizeLine then match idxOf ks k with
      | some j => some (.nd m (.dct ks) (ts.set j v))
      | none => some (.nd m (.dct (ks ++ [k])) (ts ++ [v]))
    else none
  | none => none
def setT (t y v : T) : Option T := match t with
  | .nd m .lst ts => setL m ts y v
  | .nd m (.dct ks) ts => setD m ks ts y v
  | _ => none
theorem idxOf_some {κ : Type} [DecidableEq κ] {k : κ} : ∀ {ks : List κ} {j : Nat}, idxOf ks k = some j → ks[j]? = some k
  | [], _, h => by cases h
  | k' :: ks, j, h => by
    rw [idxOf] at h
    split at h
    · rename_i e; cases h; simp [e]
    · cases q : idxOf ks k with
      | none => rw [q] at h; cases h
      | some i => rw [q] at h; cases h; simpa using idxOf_some q
theorem idxOf_none {κ : Type} [DecidableEq κ] {k : κ} : ∀ {ks : List κ}, idxOf ks k = none → k ∉ ks
  | [], _ => by simp
  | k' :: ks, h => by
    rw [idxOf] at h
    split at h
    · cases h
    · rename_i e
      cases q : idxOf ks k with
      | none => simp only [List.mem_cons, not_or]; exact ⟨fun z => e z.symm, idxOf_none q⟩
      | some i => rw [q] at h; cases h
theorem map_zip_set {κ : Type} [DecidableEq κ] {k : κ} {v : V} : ∀ {ks : List κ} {xs : List V} {j : Nat}, ks.Nodup → ks.length = xs.length → ks[j]? = some k → (ks.zip xs).map (fun kv => if kv.1 = k then (kv.1, v) else kv) = ks.zip (xs.set j v)
  | [], _, _, _, _, h => by simp at h
  | k' :: ks, [], _, _, h, _ => by simp at h
  | k' :: ks, x :: xs, 0, hn, hl, h => by
    simp at h; subst h
    simp only [List.zip_cons_cons, List.map_cons, if_true, List.set_cons_zero]
    congr 1
    rw [List.nodup_cons] at hn
    have : ∀ p ∈ ks.zip xs, (if p.1 = k' then (p.1, v) else p) = p := fun p hp => by
      rw [if_neg]
      intro e
      exact hn.1 (e ▸ (List.of_mem_zip hp).1)
    rw [List.map_congr_left this, List.map_id']
  | k' :: ks, x :: xs, j + 1, hn, hl, h => by
    rw [List.nodup_cons] at hn
    have h : ks[j]? = some k := by simpa using h
    have ne : k' ≠ k := fun e => hn.1 (e ▸ List.mem_of_getElem? h)
    simp only [List.zip_cons_cons, List.map_cons, List.set_cons_succ]
    rw [if_neg ne, map_zip_set hn.2 (by simpa using hl) h]
theorem putK_zip {κ : Type} [DecidableEq κ] {k : κ} {v : V} {ks : List κ} {xs : List V} (hn : ks.Nodup) (hl : ks.length = xs.length) :
    (∀ j, idxOf ks k = some j → putK (ks.zip xs) k v = ks.zip (xs.set j v)) ∧ (idxOf ks k = none → putK (ks.zip xs) k v = (ks ++ [k]).zip (xs ++ [v])) := by
  constructor
  · intro j h
    have hk := idxOf_some h
    have : ((ks.zip xs).any fun kv => decide (kv.1 = k)) = true := by
      rw [List.any_eq_true]
      have hj : j < ks.length := (List.getElem?_eq_some_iff.mp hk).1
      refine ⟨(k, xs[j]'(by omega)), ?_, by simp⟩
      rw [List.mem_iff_getElem?]
      exact ⟨j, by rw [List.getElem?_zip_eq_some]; exact ⟨hk, List.getElem?_eq_getElem _⟩⟩
    unfold putK
    rw [if_pos this]
    exact map_zip_set hn hl hk
  · intro h
    have hk := idxOf_none h
    have : ¬ ((ks.zip xs).any fun kv => decide (kv.1 = k)) = true := by
      rw [List.any_eq_true]
      rintro ⟨p, hp, e⟩
      exact hk ((of_decide_eq_true e) ▸ (List.of_mem_zip hp).1)
    unfold putK
    rw [if_neg this, List.zip_append hl]
    rfl
theorem reps_one {C : Ctx} {F : Hp} {t : T} {v : V} (r : Rep C F t v) : Reps C F [t] [v] := by
  simp only [Reps]
  exact ⟨v, [], rfl, r, rfl⟩
/-- the store by values -/
def rPut (C : Ctx) : V → V → V → Hp → (Hp → Prop) → Prop := fun o i v H Q => ∃ a u u', o = .ref a ∧ H a = some u ∧ Q (upd H a u') ∧
  ((∃ xs k j, u = .lst xs ∧ i = .int k ∧ ixN xs.length k = some j ∧ u' = .lst (xs.set j v)) ∨ ∃ kvs k, u = .dK kvs ∧ i = kV k ∧ kvs.length < sizeLine ∧ u' = .dK (putK kvs k v))
theorem set_put {C : Ctx} {X : Cx} (hu : X.A.units + 1 < cLine) : PSet X (rPut C) := by
  intro pins s σ H o i v ov iv u Q I ro ri rv ⟨a, w, w', e, hH, q, h⟩
  subst e
  rcases h with ⟨xs, k, j, rfl, rfl, hj, rfl⟩ | ⟨kvs, k, rfl, rfl, hl, rfl⟩
  · exact set_list pins s σ H _ _ v ov iv u Q I ro ri rv ⟨a, xs, k, j, rfl, rfl, hH, hj, q⟩
  · cases ro
    exact d_setItem hu I (.inl ⟨kvs, k, hH, rfl, hl, rfl⟩) ri rv fun s4 I4 => ⟨_, I4, q⟩
section
variable {C : Ctx} {X : Cx} {E : XW} {io : Option Nat} {b value : Expr} {d db : DV} {pos px ps : Pos}
theorem Env.mut1 {F H : Hp} {σ : L2.St} {ρ : Rho} {As : Ads} {i : Nat} {k : Kd} {ts us : List T} {xs ys : List V} {v : V} {a : Addr} {o o' : HO} {A' : List Addr} (env : Env C F H σ ρ As) (hi : σ[i]? = some (some v)) (hv : v = .ref a) (hA : As i = a :: A') (fa : F a = none) (ha : H a = some o)
    (hn : NodeW C o' ys k) (hr : Reps C F us ys) : Env C F (upd H a o') σ (ρ.set i (some (.nd true k us))) (updA As i [a]) ∧ ∀ O, (∀ b, Ow As b → O b) → Step F H O F (upd H a o') (Ow (updA As i [a])) := by
  have ai : a ∈ As i := by rw [hA]; simp
  have ds : ∀ j, j ≠ i → ∀ c ∈ As j, c ≠ a := fun j hj c hc z => hj (env.dis j i c hc (z ▸ ai))
  constructor
  · refine env.put hi (Same.refl F) (fun b u h => ?_) (fun j hj c hc => ⟨upd_ne (ds j hj c hc), (env.has hc).1⟩) ?_ (by simp) (fun j hj c hc z => ds j hj c hc (by simpa using z)) (env.ht.upd (env.ntb ai))
    · rw [upd_ne (fun z => by rw [z, fa] at h; cases h)]
      exact env.sub _ _ h
    · rw [Own]
      exact ⟨a, [], ys, o', hv, rfl, fa, upd_same, hn, Owns.of_reps hr⟩
  · intro O hO
    refine ⟨Same.refl F, fun b u h n _ => ⟨?_, rfl⟩, fun b ⟨j, hj⟩ => ?_, tab_same fun b ps h => by rw [upd_ne (fun z : b = a => env.ntb ai ps (by rw [← z]; exact h))]; exact h⟩
    · rw [upd_ne (fun z => n (by rw [z]; exact hO a ⟨i, ai⟩))]
      exact h
    · by_cases hji : j = i
      · subst hji
        rw [updA_same] at hj
        simp at hj; subst hj
        exact .inl (hO _ ⟨j, ai⟩)
      · rw [updA_ne hji] at hj
        exact .inl (hO b ⟨j, hj⟩)
/-- x[b] = value, x a slot with an object of its own -/
def dSeti (i : Nat) (d db : DV) : DS := bnd d fun v ρ => match ρ[i]? with
  | some (some _) => (bnd db fun y ρ => match ρ[i]? with
    | some (some t) => if t.mk = true ∧ plainTop t = true then match setT t y v with
        | some u => some (.ok .nx (ρ.set i (some u)))
        | none => none
      else none
    | _ => none) ρ
  | _ => none
theorem S_seti {i : Nat} {x : Str} (hu : X.A.units + 1 < cLine) (hv : PE X value (tV C E false d)) (ho : PE X (.Name x px) (tVar i)) (hb : PE X b (tV C E false db))
    (hsw : swapsWithSole [.Subscript (.Name x px) b ps] value pos.line X.env = pure false) (hst : swappedStores [.Subscript (.Name x px) b ps] value X.env = pure none)
    (hasg : ∀ v, assign (.Subscript (.Name x px) b ps) X.env v = (do
      let ov ← holding [v] (eval (.Name x px) X.env)
      let iv ← holding [v, ov] (eval b X.env)
      standAt ps
      holding [v, ov, iv] (setItem ov iv v)
      release [v, ov, iv] [])) : PS X (.Assign [.Subscript (.Name x px) b ps] value pos) (tS C E io (dSeti i d db)) := by
  refine PS_imp (ps_asg hv (pg_sub ho hb (set_put (C := C) hu) hasg) hsw hst) fun D σ H ⟨F, ρ, As, o, env, hd, post⟩ => ?_
  refine seqV env hd post.xx fun v ρ1 hd w F1 H1 As1 env1 st1 pu1 r1 => ?_
  split at hd
  · rename_i t0 ht0
    obtain ⟨vo, hvo, _⟩ := env1.own i t0 ht0
    refine ⟨vo, hvo, seqV env1 hd (fun e ρ' h => (post.xx e ρ' h).later st1) fun y ρ2 hd iv F2 H2 As2 env2 st2 pu2 r2 => ?_⟩
    split at hd
    · rename_i t ht
      split at hd
      · rename_i hp
        obtain ⟨vo', hvo', hown⟩ := env2.own i t ht
        rw [hvo] at hvo'; cases hvo'
        split at hd
        · rename_i u hset
          cases hd
          have rw1 := r1.mono st2.ff
          obtain ⟨hm, hpl⟩ := hp
          cases t with
          | nd m kd ts =>
            have hm : m = true := hm
            subst hm
            rw [Own] at hown
            obtain ⟨a, A', xs, ob, rfl, hA, fa, ha, hn, hos⟩ := hown
            obtain ⟨_, hr⟩ := hos.reps hpl
            cases kd with
            | lst =>
              cases (show ob = _ from hn)
              cases y with
              | int k =>
                have hset : setL true ts (.int k) v = some u := hset
                unfold setL at hset
                simp only at hset
                split at hset
                · rename_i j q
                  cases hset
                  rw [Rep] at r2; subst r2
                  obtain ⟨e3, st3⟩ := env2.mut1 (k := .lst) (ts := ts) (xs := xs) hvo rfl hA fa ha (o' := .lst (xs.set j w)) rfl (hr.set rw1 j)
                  refine ⟨a, _, _, rfl, ha, post σ F2 _ _ e3 ((st1.trans st2).trans (st3 _ fun _ h => h)) Prt.refl, .inl ⟨xs, k, j, rfl, rfl, ?_, rfl⟩⟩
                  rw [← hr.length]; exact q
                · cases hset
              | _ => cases hset
            | dct ks =>
              obtain ⟨hl, rfl⟩ := hn
              have hset : setD true ks ts y v = some u := hset
              unfold setD at hset
              split at hset
              · rename_i k q
                have := keyT_ok r2 q; subst this
                split at hset
                · rename_i hc
                  have hz := putK_zip (k := k) (v := w) hc.1 hl
                  have hlt : (ks.zip xs).length < sizeLine := by rw [List.length_zip, hl, Nat.min_self, ← hr.length]; exact hc.2.2
                  split at hset
                  · rename_i j hj
                    cases hset
                    obtain ⟨e3, st3⟩ := env2.mut1 (k := .dct ks) (ts := ts) (xs := xs) hvo rfl hA fa ha (o' := .dK (putK (ks.zip xs) k w)) (ys := xs.set j w) ⟨by rw [List.length_set]; exact hl, by rw [hz.1 j hj]⟩ (hr.set rw1 j)
                    exact ⟨a, _, _, rfl, ha, post σ F2 _ _ e3 ((st1.trans st2).trans (st3 _ fun _ h => h)) Prt.refl, .inr ⟨_, k, rfl, rfl, hlt, rfl⟩⟩
                  · rename_i hj
                    cases hset
                    obtain ⟨e3, st3⟩ := env2.mut1 (k := .dct (ks ++ [k])) (ts := ts) (xs := xs) hvo rfl hA fa ha (o' := .dK (putK (ks.zip xs) k w)) (ys := xs ++ [w]) ⟨by simp [hl], by rw [hz.2 hj]⟩ (hr.append (reps_one rw1))
                    exact ⟨a, _, _, rfl, ha, post σ F2 _ _ e3 ((st1.trans st2).trans (st3 _ fun _ h => h)) Prt.refl, .inr ⟨_, k, rfl, rfl, hlt, rfl⟩⟩
                · cases hset
              · cases hset
            | _ => cases hset
          | _ => cases hset
        · cases hd
      · cases hd
    · cases hd
  · cases hd
/-- x.append(e), x a slot with a list of its own -/
def isLst (ρ : Rho) (i : Nat) : Bool := match ρ[i]? with
  | some (some (.nd true .lst _)) => true
  | _ => false
def appK (i : Nat) (v : T) (ρ : Rho) : Option (Out Flw) := match ρ[i]? with
  | some (some (.nd true .lst ts)) => if ts.length < sizeLine ∧ (ts.all fun t => !t.mk) = true then some (.ok .nx (ρ.set i (some (.nd true .lst (ts ++ [v]))))) else none
  | _ => none
def dApp (i : Nat) (d : DV) : DS := fun ρ => if isLst ρ i = true then (bnd d (appK i)) ρ else none
theorem isLst_some {ρ : Rho} {i : Nat} (h : isLst ρ i = true) : ∃ ts, ρ[i]? = some (some (.nd true .lst ts)) := by
  unfold isLst at h
  split at h
  · rename_i ts e; exact ⟨ts, e⟩
  · cases h
theorem S_app {i : Nat} {x : Str} {e : Expr} {apos epos : Pos} (ho : PE X (.Name x px) (tVar i)) (hb : PE X e (tV C E false d)) (hs : noStar e = true) (hbm : ∀ {t}, PA X [e] t → PE X (.Call (.Attribute (.Name x px) "append" apos) [e] [] epos) (tBM X.K "list" rAppend (tVar i) t))
    (hsw : swapsWith (.Call (.Attribute (.Name x px) "append" apos) [e] [] epos) none pos.line X.env = pure false) : PS X (.Expr (.Call (.Attribute (.Name x px) "append" apos) [e] [] epos) pos) (tS C E io (dApp i d)) := by
  refine PS_imp (ps_expr (hbm (A_cons hb A_nil hs)) hsw) fun D σ H ⟨F, ρ, As, o, env, hd, post⟩ => ?_
  unfold dApp at hd
  split at hd
  · rename_i hl
    obtain ⟨ts0, ht0⟩ := isLst_some hl
    obtain ⟨vo, hvo, hown0⟩ := env.own i _ ht0
    have hA : tAr C E false (dCons d dNil) σ H (fun vs H1 => rAppend vo vs H1 (fun _ H2 => D.nx σ H2)) := by
      have hd2 : bnd (dCons d dNil) (fun vs => match vs with
        | [v] => appK i v
        | _ => fun _ => none) ρ = some o := by
        rw [← hd]
        unfold dCons dNil bnd
        cases d ρ with
        | none => rfl
        | some o => cases o <;> rfl
      refine seqA env hd2 post.xx fun vs ρ1 hd ws F1 H1 As1 env1 st1 pu1 r1 => ?_
      split at hd
      · rename_i v
        unfold appK at hd
        split at hd
        · rename_i ts ht
          split at hd
          · rename_i hc
            cases hd
            obtain ⟨vo', hvo', hown⟩ := env1.own i _ ht
            rw [hvo] at hvo'; cases hvo'
            obtain ⟨w, rfl, rw1⟩ := reps1 r1
            rw [Own] at hown
            obtain ⟨a, A', xs, ob, rfl, hA, fa, ha, hn, hos⟩ := hown
            obtain ⟨_, hr⟩ := hos.reps hc.2
            cases (show ob = _ from hn)
            obtain ⟨e3, st3⟩ := env1.mut1 (k := .lst) (ts := ts) (xs := xs) hvo rfl hA fa ha (o' := .lst (xs ++ [w])) rfl (hr.append (reps_one rw1))
            exact ⟨a, xs, w, rfl, rfl, ha, by rw [← hr.length]; exact hc.1, post σ F1 _ _ e3 (st1.trans (st3 _ fun _ h => h)) Prt.refl⟩
          · cases hd
        · cases hd
      · cases hd
    refine ⟨vo, hvo, ?_, hA⟩
    rw [Own] at hown0
    obtain ⟨a, A', xs, ob, rfl, _, _, ha, hn, _⟩ := hown0
    cases (show ob = _ from hn)
    exact .inl ⟨rfl, xs, SqL.of ha⟩
  · cases hd
end
end MP

namespace MP
open PySem L2

/-! ### texts in order -/
def ltS (a b : Str) : Bool := PySem.Spec.ltCps a.cps.toList b.cps.toList
theorem ltC_irr : ∀ a : List Nat, PySem.Spec.ltCps a a = false
  | [] => rfl
  | a :: r => by simp [PySem.Spec.ltCps, ltC_irr r]
theorem ltC_trans : ∀ {a b c : List Nat}, PySem.Spec.ltCps a b = true → PySem.Spec.ltCps b c = true → PySem.Spec.ltCps a c = true
  | [], [], _, h, _ => by cases h
  | [], _ :: _, [], _, h => by cases h
  | [], _ :: _, _ :: _, _, _ => rfl
  | _ :: _, [], _, h, _ => by cases h
  | _ :: _, _ :: _, [], _, h => by cases h
  | x :: a, y :: b, z :: c, h, h' => by
    simp only [PySem.Spec.ltCps, Bool.or_eq_true, decide_eq_true_eq, Bool.and_eq_true, beq_iff_eq] at h h' ⊢
    rcases h with h | ⟨rfl, h⟩ <;> rcases h' with h' | ⟨rfl, h'⟩
    · exact .inl (by omega)
    · exact .inl h
    · exact .inl h'
    · exact .inr ⟨rfl, ltC_trans h h'⟩
theorem ltC_total : ∀ {a b : List Nat}, PySem.Spec.ltCps a b = false → PySem.Spec.ltCps b a = false → a = b
  | [], [], _, _ => rfl
  | [], _ :: _, h, _ => by cases h
  | _ :: _, [], _, h => by cases h
  | x :: a, y :: b, h, h' => by
    simp only [PySem.Spec.ltCps, Bool.or_eq_false_iff, decide_eq_false_iff_not, Bool.and_eq_false_iff, beq_eq_false_iff_ne] at h h'
    have e : x = y := by omega
    subst e
    have e2 : a = b := ltC_total (by simpa using h.2) (by simpa using h'.2)
    rw [e2]
theorem ltS_irr (a : Str) : ltS a a = false := ltC_irr _
theorem ltS_trans {a b c : Str} (h : ltS a b = true) (h' : ltS b c = true) : ltS a c = true := ltC_trans h h'
theorem str_ext {a b : Str} (h : a.cps.toList = b.cps.toList) : a = b := by
  cases a; cases b
  congr 1
  exact Array.toList_inj.mp h
theorem ltS_total {a b : Str} (h : ltS a b = false) (h' : ltS b a = false) : a = b := str_ext (ltC_total h h')
theorem ltS_asym {a b : Str} (h : ltS a b = true) : ltS b a = false := by
  cases q : ltS b a with
  | false => rfl
  | true => have := ltS_trans h q; rw [ltS_irr] at this; cases this
def insS (x : Str) : List Str → List Str
  | [] => [x]
  | y :: r => if ltS y x = true then y :: insS x r else x :: y :: r
def sortS : List Str → List Str
  | [] => []
  | x :: r => insS x (sortS r)
theorem insS_perm (x : Str) : ∀ l, (insS x l).Perm (x :: l)
  | [] => .refl _
  | y :: r => by
    unfold insS
    split
    · exact ((insS_perm x r).cons y).trans (.swap ..)
    · exact .refl _
theorem sortS_perm : ∀ l, (sortS l).Perm l
  | [] => .refl _
  | x :: r => (insS_perm x _).trans ((sortS_perm r).cons x)
abbrev LeS (a b : Str) : Prop := ltS b a = false
theorem LeS.trans {a b c : Str} (h : LeS a b) (h' : LeS b c) : LeS a c := by
  show ltS c a = false
  cases q : ltS c a with
  | false => rfl
  | true =>
    cases q2 : ltS a b with
    | true => have := ltS_trans q q2; rw [h'] at this; cases this
    | false => have := ltS_total q2 h; subst this; rw [h'] at q; cases q
theorem insS_pw (x : Str) : ∀ l : List Str, l.Pairwise LeS → (insS x l).Pairwise LeS
  | [], _ => by simp [insS]
  | y :: r, h => by
    rw [List.pairwise_cons] at h
    unfold insS
    split
    · rename_i hy
      rw [List.pairwise_cons]
      refine ⟨fun z hz => ?_, insS_pw x r h.2⟩
      rcases List.mem_cons.mp ((insS_perm x r).mem_iff.mp hz) with e | hz
      · rw [e]; exact ltS_asym hy
      · exact h.1 z hz
    · rename_i hy
      have hy : LeS x y := by simpa using hy
      rw [List.pairwise_cons, List.pairwise_cons]
      refine ⟨fun z hz => ?_, h⟩
      rcases List.mem_cons.mp hz with e | hz
      · rw [e]; exact hy
      · exact LeS.trans hy (h.1 z hz)
theorem sortS_pw : ∀ l, (sortS l).Pairwise LeS
  | [] => .nil
  | x :: r => insS_pw x _ (sortS_pw r)
theorem rising_pw : ∀ {p : Str} {l : List Str}, PyProof.Rows.risingS p l = true → (p :: l).Pairwise LeS
  | p, [], _ => by simp
  | p, x :: r, h => by
    simp only [PyProof.Rows.risingS, Bool.and_eq_true, Bool.not_eq_true'] at h
    have ih := rising_pw h.2
    rw [List.pairwise_cons]
    refine ⟨fun z hz => ?_, ih⟩
    rcases List.mem_cons.mp hz with e | hz
    · rw [e]; exact h.1
    · exact LeS.trans h.1 ((List.pairwise_cons.mp ih).1 z hz)
theorem sortS_eq {ys xs : List Str} (hp : ys.Perm xs) (hs : PyProof.Rows.sortedS ys = true) : ys = sortS xs := by
  refine List.Perm.eq_of_pairwise (le := LeS) (fun a b _ _ h h' => ltS_total h' h) ?_ (sortS_pw xs) (hp.trans (sortS_perm xs).symm)
  cases ys with
  | nil => exact .nil
  | cons y r => exact rising_pw hs
/-! ints in order -/
def insZ (x : Int) : List Int → List Int
  | [] => [x]
  | y :: r => if y < x then y :: insZ x r else x :: y :: r
def sortZ : List Int → List Int
  | [] => []
  | x :: r => insZ x (sortZ r)
theorem insZ_perm (x : Int) : ∀ l, (insZ x l).Perm (x :: l)
  | [] => .refl _
  | y :: r => by
    unfold insZ
    split
    · exact ((insZ_perm x r).cons y).trans (.swap ..)
    · exact .refl _
theorem sortZ_perm : ∀ l, (sortZ l).Perm l
  | [] => .refl _
  | x :: r => (insZ_perm x _).trans ((sortZ_perm r).cons x)
theorem insZ_pw (x : Int) : ∀ l : List Int, l.Pairwise (· ≤ ·) → (insZ x l).Pairwise (· ≤ ·)
  | [], _ => by simp [insZ]
  | y :: r, h => by
    rw [List.pairwise_cons] at h
    unfold insZ
    split
    · rename_i hy
      rw [List.pairwise_cons]
      refine ⟨fun z hz => ?_, insZ_pw x r h.2⟩
      rcases List.mem_cons.mp ((insZ_perm x r).mem_iff.mp hz) with e | hz
      · rw [e]; omega
      · exact h.1 z hz
    · rename_i hy
      rw [List.pairwise_cons, List.pairwise_cons]
      refine ⟨fun z hz => ?_, h⟩
      rcases List.mem_cons.mp hz with e | hz
      · rw [e]; omega
      · have := h.1 z hz; omega
theorem sortZ_pw : ∀ l, (sortZ l).Pairwise (· ≤ ·)
  | [] => .nil
  | x :: r => insZ_pw x _ (sortZ_pw r)
theorem sortZ_eq {ys xs : List Int} (hp : ys.Perm xs) (hs : ys.Pairwise (· ≤ ·)) : ys = sortZ xs :=
  List.Perm.eq_of_pairwise (le := (· ≤ ·)) (fun a b _ _ h h' => Int.le_antisymm h h') hs (sortZ_pw xs) (hp.trans (sortZ_perm xs).symm)

/-! ### lists of one kind -/
def intsOf : List T → Option (List Int)
  | [] => some []
  | .int i :: r => match intsOf r with
    | some l => some (i :: l)
    | none => none
  | _ => none
def strsOf : List T → Option (List Str)
  | [] => some []
  | .str i :: r => match strsOf r with
    | some l => some (i :: l)
    | none => none
  | _ => none
theorem intsOf_ok {C : Ctx} {F : Hp} : ∀ {ts : List T} {ns : List Int} {xs : List V}, intsOf ts = some ns → Reps C F ts xs → xs = ns.map V.int
  | [], _, _, h, r => by rw [intsOf] at h; cases h; rw [Reps] at r; exact r
  | .int i :: ts, ns, xs, h, r => by
    rw [intsOf] at h
    split at h
    · rename_i l q
      cases h
      rw [Reps] at r
      obtain ⟨x, w, rfl, r1, r2⟩ := r
      rw [Rep] at r1
      rw [r1, intsOf_ok q r2]; rfl
    · cases h
theorem strsOf_ok {C : Ctx} {F : Hp} : ∀ {ts : List T} {ns : List Str} {xs : List V}, strsOf ts = some ns → Reps C F ts xs → xs = ns.map V.str
  | [], _, _, h, r => by rw [strsOf] at h; cases h; rw [Reps] at r; exact r
  | .str i :: ts, ns, xs, h, r => by
    rw [strsOf] at h
    split at h
    · rename_i l q
      cases h
      rw [Reps] at r
      obtain ⟨x, w, rfl, r1, r2⟩ := r
      rw [Rep] at r1
      rw [r1, strsOf_ok q r2]; rfl
    · cases h
theorem reps_ints {C : Ctx} {F : Hp} : ∀ ns : List Int, Reps C F (ns.map T.int) (ns.map V.int)
  | [] => by rw [List.map_nil, List.map_nil, Reps]
  | n :: r => by rw [List.map_cons, List.map_cons, Reps]; exact ⟨_, _, rfl, Rep.int.mpr rfl, reps_ints r⟩
theorem reps_strs {C : Ctx} {F : Hp} : ∀ ns : List Str, Reps C F (ns.map T.str) (ns.map V.str)
  | [] => by rw [List.map_nil, List.map_nil, Reps]
  | n :: r => by rw [List.map_cons, List.map_cons, Reps]; exact ⟨_, _, rfl, Rep.str.mpr rfl, reps_strs r⟩
def keyStrs : List Key → Option (List Str)
  | [] => some []
  | .inr x :: r => match keyStrs r with
    | some l => some (x :: l)
    | none => none
  | _ => none
theorem keyStrs_ok : ∀ {ks : List Key} {l : List Str}, keyStrs ks = some l → ks = l.map Sum.inr
  | [], _, h => by rw [keyStrs] at h; cases h; rfl
  | .inr x :: r, l, h => by
    rw [keyStrs] at h
    split at h
    · rename_i l' q
      cases h
      rw [keyStrs_ok q]; rfl
    · cases h
  | .inl x :: r, l, h => by simp [keyStrs] at h

/-! ### builtins of one argument that is read -/
def rK1 (C : Ctx) (g : T → Option T) : List V → Hp → VK → Prop := fun vs H Q => ∃ F t v u, Same F H ∧ vs = [v] ∧ Rep C H t v ∧ g t = some u ∧ NewQ C F H u Q
def dU1 (g : T → Option T) (d : DV) : DR := bnd d fun x ρ => match g x with
  | some t => some (.ok (.tv t) ρ)
  | none => none
section
variable {C : Ctx} {X : Cx} {E : XW} {p : Bool} {a b : Expr} {d : DV} {pos px : Pos} {x : Str} {id : String} {g : T → Option T}
theorem pa1_H {da : DV} {k : T → Rho → Option (Out RV)} {σ : L2.St} {F H : Hp} {ρ : Rho} {As : Ads} {o : Out RV} {Q : List V → Hp → Prop} (env : Env C F H σ ρ As) (hd : bnd da k ρ = some o) (hx : ∀ x ρ', o = .exc x ρ' → PostX C E σ F H As x ρ')
    (hk : ∀ t ρ1, k t ρ1 = some o → ∀ v F1 H1 As1, Env C F1 H1 σ ρ1 As1 → Step F H (Ow As) F1 H1 (Ow As1) → Pur p ρ ρ1 As As1 H H1 → Rep C H1 t v → Q [v] H1) : tCons (tH C E p da) tNil σ H Q := seqH env hd hx hk
theorem R_bi1 (hc : CallR X (.builtin id) (rK1 C g)) (hg : Gl X x) (hm : X.mg x = none) (hv : bootBuiltins x = some (.builtin id)) (ha : PE X a (tH C E p d)) (hs : noStar a = true) (hn : x ≠ "__name__") (hdb : (x == ("__debug__" : Str)) = false) :
    PE X (.Call (.Name x px) [a] [] pos) (tR C E p (dU1 g d)) :=
  PE_imp (pe_callB hc hg hm hv (pa_cons ha pa_nil (star_cons hs)) hn hdb (star_cons hs) rfl) fun σ H Q ⟨F, ρ, As, o, env, hd, post⟩ => by
    refine pa1_H env hd post.xx fun t ρ1 hd v F1 H1 As1 env1 st1 pu1 r1 => ?_
    split at hd
    · rename_i u hu
      cases hd
      exact ⟨F1, t, v, u, env1.sub, rfl, r1, hu, end_new env1 st1 pu1 post⟩
    · cases hd
theorem R_ty1 {T' : String} (hc : CallR X (.type T') (rK1 C g)) (hg : Gl X x) (hm : X.mg x = none) (hv : bootBuiltins x = some (.type T')) (ha : PE X a (tH C E p d)) (hs : noStar a = true) (hn : x ≠ "__name__") (hdb : (x == ("__debug__" : Str)) = false) :
    PE X (.Call (.Name x px) [a] [] pos) (tR C E p (dU1 g d)) :=
  PE_imp (pe_callTy hc hg hm hv (pa_cons ha pa_nil (star_cons hs)) hn hdb (star_cons hs) rfl) fun σ H Q ⟨F, ρ, As, o, env, hd, post⟩ => by
    refine pa1_H env hd post.xx fun t ρ1 hd v F1 H1 As1 env1 st1 pu1 r1 => ?_
    split at hd
    · rename_i u hu
      cases hd
      exact ⟨F1, t, v, u, env1.sub, rfl, r1, hu, end_new env1 st1 pu1 post⟩
    · cases hd
def lenT : T → Option T
  | .str x => if x.length ≤ sizeLine then some (.int x.length) else none
  | .nd _ .lst ts => some (.int ts.length)
  | .nd _ .tup ts => some (.int ts.length)
  | .nd _ .scr ts => some (.int ts.length)
  | .nd _ (.dct ks) _ => some (.int ks.length)
  | _ => none
theorem call_lenT (hK : C.K = X.K) : CallR X (.builtin "len") (rK1 C lenT) := by
  intro pins s σ H xs us Q I r h
  obtain ⟨F, t, v, u, sm, rfl, rp, hg, q⟩ := h
  unfold lenT at hg
  split at hg
  · split at hg
    · rename_i hl
      cases hg
      rw [Rep] at rp; subst rp
      exact call_len pins s σ H _ us Q I r ⟨_, _, rfl, ⟨hl, rfl⟩, q.atom sm (Rep.int.mpr rfl)⟩
    · cases hg
  · cases hg
    rw [Rep] at rp
    obtain ⟨_, a, xs, rfl, hn, hr⟩ := rp
    rw [hr.length] at q
    exact call_len pins s σ H _ us Q I r ⟨_, _, rfl, .inl ⟨xs, SqL.of hn, rfl⟩, q.atom sm (Rep.int.mpr rfl)⟩
  · cases hg
    rw [Rep] at rp
    obtain ⟨_, a, xs, rfl, hn, hr⟩ := rp
    rw [hr.length] at q
    exact call_len pins s σ H _ us Q I r ⟨_, _, rfl, .inr ⟨xs, hK ▸ hn, rfl⟩, q.atom sm (Rep.int.mpr rfl)⟩
  · cases hg
    rw [Rep] at rp
    obtain ⟨_, a, xs, rfl, hn, hr⟩ := rp
    rw [hr.length] at q
    exact call_len pins s σ H _ us Q I r ⟨_, _, rfl, .inl ⟨xs, hK ▸ hn, rfl⟩, q.atom sm (Rep.int.mpr rfl)⟩
  · cases hg
    rw [Rep] at rp
    obtain ⟨_, a, xs, rfl, ⟨hl, hn⟩, hr⟩ := rp
    obtain ⟨w, rfl, ru⟩ := vals1 r
    cases ru
    refine d_len I hn fun t s' I' => ⟨.int _, H, I', ⟨t, rfl⟩, ?_⟩
    rw [List.length_zip, ← hl, Nat.min_self]
    exact q.atom sm (Rep.int.mpr rfl)
  · cases hg
def intT : T → Option T
  | .int i => some (.int i)
  | .bl k => some (.int (if k then 1 else 0))
  | _ => none
theorem call_intT : CallR X (.type "int") (rK1 C intT) := by
  intro pins s σ H xs us Q I r h
  obtain ⟨F, t, v, u, sm, rfl, rp, hg, q⟩ := h
  unfold intT at hg
  split at hg
  · cases hg
    rw [Rep] at rp; subst rp
    exact call_int1 pins s σ H _ us Q I r (.inl ⟨_, rfl, q.atom sm (Rep.int.mpr rfl)⟩)
  · cases hg
    rw [Rep] at rp; subst rp
    exact call_int1 pins s σ H _ us Q I r (.inr ⟨_, rfl, q.atom sm (Rep.int.mpr rfl)⟩)
  · cases hg
def absT : T → Option T
  | .int i => some (.int (if i < 0 then -i else i))
  | _ => none
theorem call_absT : CallR X (.builtin "abs") (rK1 C absT) := by
  intro pins s σ H xs us Q I r h
  obtain ⟨F, t, v, u, sm, rfl, rp, hg, q⟩ := h
  unfold absT at hg
  split at hg
  · cases hg
    rw [Rep] at rp; subst rp
    exact call_abs pins s σ H _ us Q I r ⟨_, rfl, q.atom sm (Rep.int.mpr rfl)⟩
  · cases hg
def sumT : T → Option T
  | .nd _ .lst ts => match intsOf ts with
    | some ns => some (.int ns.sum)
    | none => none
  | _ => none
theorem call_sumT (hc : X.calm = true) : CallR X (.builtin "sum") (rK1 C sumT) := by
  intro pins s σ H xs us Q I r h
  obtain ⟨F, t, v, u, sm, rfl, rp, hg, q⟩ := h
  unfold sumT at hg
  split at hg
  · split at hg
    · rename_i ns hns
      cases hg
      rw [Rep] at rp
      obtain ⟨_, a, xs, rfl, hn, hr⟩ := rp
      have := intsOf_ok hns hr; subst this
      exact cr_sum hc pins s σ H _ us Q I r ⟨a, ns, rfl, SqL.of hn, q.atom sm (Rep.int.mpr rfl)⟩
    · cases hg
  · cases hg
def maxZ : List Int → Option Int
  | [] => none
  | x :: r => match maxZ r with
    | none => some x
    | some y => some (if x < y then y else x)
def minZ : List Int → Option Int
  | [] => none
  | x :: r => match minZ r with
    | none => some x
    | some y => some (if y < x then y else x)
theorem maxZ_ok : ∀ {ns : List Int} {m : Int}, maxZ ns = some m → m ∈ ns ∧ ∀ y ∈ ns, y ≤ m
  | [], _, h => by cases h
  | x :: r, m, h => by
    rw [maxZ] at h
    split at h
    · rename_i q
      cases h
      cases r with
      | nil => simp
      | cons y r => rw [maxZ] at q; split at q <;> cases q
    · rename_i y q
      cases h
      obtain ⟨h1, h2⟩ := maxZ_ok q
      refine ⟨?_, fun z hz => ?_⟩
      · split
        · exact List.mem_cons_of_mem _ h1
        · exact List.mem_cons_self ..
      · rcases List.mem_cons.mp hz with e | hz
        · subst e; split <;> omega
        · have := h2 z hz; split <;> omega
theorem minZ_ok : ∀ {ns : List Int} {m : Int}, minZ ns = some m → m ∈ ns ∧ ∀ y ∈ ns, m ≤ y
  | [], _, h => by cases h
  | x :: r, m, h => by
    rw [minZ] at h
    split at h
    · rename_i q
      cases h
      cases r with
      | nil => simp
      | cons y r => rw [minZ] at q; split at q <;> cases q
    · rename_i y q
      cases h
      obtain ⟨h1, h2⟩ := minZ_ok q
      refine ⟨?_, fun z hz => ?_⟩
      · split
        · exact List.mem_cons_of_mem _ h1
        · exact List.mem_cons_self ..
      · rcases List.mem_cons.mp hz with e | hz
        · subst e; split <;> omega
        · have := h2 z hz; split <;> omega
def mxT (f : List Int → Option Int) : T → Option T
  | .nd _ .lst ts => match intsOf ts with
    | some ns => match f ns with
      | some m => some (.int m)
      | none => none
    | none => none
  | _ => none
theorem call_max1T (hc : X.calm = true) : CallR X (.builtin "max") (rK1 C (mxT maxZ)) := by
  intro pins s σ H xs us Q I r h
  obtain ⟨F, t, v, u, sm, rfl, rp, hg, q⟩ := h
  unfold mxT at hg
  split at hg
  · split at hg
    · rename_i ns hns
      split at hg
      · rename_i m hm
        cases hg
        rw [Rep] at rp
        obtain ⟨_, a, xs, rfl, hn, hr⟩ := rp
        have := intsOf_ok hns hr; subst this
        obtain ⟨h1, h2⟩ := maxZ_ok hm
        refine cr_max hc pins s σ H _ us Q I r ⟨a, ns, rfl, SqL.of hn, List.length_pos_of_mem h1, fun m' h3 h4 => ?_⟩
        have : m' = m := Int.le_antisymm (h2 m' h3) (h4 m h1)
        subst this
        exact q.atom sm (Rep.int.mpr rfl)
      · cases hg
    · cases hg
  · cases hg
theorem call_min1T (hc : X.calm = true) : CallR X (.builtin "min") (rK1 C (mxT minZ)) := by
  intro pins s σ H xs us Q I r h
  obtain ⟨F, t, v, u, sm, rfl, rp, hg, q⟩ := h
  unfold mxT at hg
  split at hg
  · split at hg
    · rename_i ns hns
      split at hg
      · rename_i m hm
        cases hg
        rw [Rep] at rp
        obtain ⟨_, a, xs, rfl, hn, hr⟩ := rp
        have := intsOf_ok hns hr; subst this
        obtain ⟨h1, h2⟩ := minZ_ok hm
        refine cr_min hc pins s σ H _ us Q I r ⟨a, ns, rfl, SqL.of hn, List.length_pos_of_mem h1, fun m' h3 h4 => ?_⟩
        have : m' = m := Int.le_antisymm (h4 m h1) (h2 m' h3)
        subst this
        exact q.atom sm (Rep.int.mpr rfl)
      · cases hg
    · cases hg
  · cases hg
def sortedT : T → Option T
  | .nd _ .lst ts => match strsOf ts with
    | some ns => if ns.length < 64 then some (.nd true .lst ((sortS ns).map T.str)) else none
    | none => match intsOf ts with
      | some ns => if ns.length < 64 then some (.nd true .lst ((sortZ ns).map T.int)) else none
      | none => none
  | .nd _ (.dct ks) _ => match keyStrs ks with
    | some ns => if ns.length < 64 then some (.nd true .lst ((sortS ns).map T.str)) else none
    | none => none
  | _ => none
theorem call_sortedT (hc : X.calm = true) : CallR X (.builtin "sorted") (rK1 C sortedT) := by
  intro pins s σ H xs us Q I r h
  obtain ⟨F, t, v, u, sm, rfl, rp, hg, q⟩ := h
  unfold sortedT at hg
  split at hg
  · split at hg
    · rename_i ns hns
      split at hg
      · rename_i h64
        cases hg
        rw [Rep] at rp
        obtain ⟨_, a, xs, rfl, hn, hr⟩ := rp
        have := strsOf_ok hns hr; subst this
        refine cr_sortedS pins s σ H _ us Q I r ⟨a, ns, rfl, SqL.of hn, h64, fun ys p' hp hs hnew => ?_⟩
        rw [sortS_eq hp hs]
        exact q.lst sm hnew (reps_strs _)
      · cases hg
    · split at hg
      · rename_i ns hns
        split at hg
        · rename_i h64
          cases hg
          rw [Rep] at rp
          obtain ⟨_, a, xs, rfl, hn, hr⟩ := rp
          have := intsOf_ok hns hr; subst this
          refine cr_sorted pins s σ H _ us Q I r ⟨a, ns, rfl, SqL.of hn, h64, fun ys p' hp hs hnew => ?_⟩
          rw [sortZ_eq hp hs]
          exact q.lst sm hnew (reps_ints _)
        · cases hg
      · cases hg
  · split at hg
    · rename_i ns hns
      split at hg
      · rename_i h64
        cases hg
        rw [Rep] at rp
        obtain ⟨_, a, xs, rfl, ⟨hl, hn⟩, hr⟩ := rp
        refine call_sortedD hc pins s σ H _ us Q I r ⟨a, _, ns, rfl, hn, ?_, h64, fun ys p' hp hs hnew => ?_⟩
        · rw [List.map_fst_zip (by omega)]
          exact keyStrs_ok hns
        · rw [sortS_eq hp hs]
          exact q.lst sm hnew (reps_strs _)
      · cases hg
    · cases hg
  · cases hg
def strT : T → Option T
  | .int i => if i.natAbs.log2 < 1920 then some (.str (toString i)) else none
  | _ => none
theorem call_strT : CallR X (.type "str") (rK1 C strT) := by
  intro pins s σ H xs us Q I r h
  obtain ⟨F, t, v, u, sm, rfl, rp, hg, q⟩ := h
  unfold strT at hg
  split at hg
  · split at hg
    · rename_i hl
      cases hg
      rw [Rep] at rp; subst rp
      exact call_str_int pins s σ H _ us Q I r ⟨_, rfl, hl, q.atom sm (Rep.str.mpr rfl)⟩
    · cases hg
  · cases hg
end
end MP

namespace MP
open PySem L2
open PySem.SeqAt (EqP)

/-! ### tuples in order -/
/-- two rows of values, item by item: the first that differ, else the lengths -/
inductive RowV (P : Program) (w : World) (op : CmpOp) (sz : Nat → Nat → Bool) (A : Around) (s : Shared) : List Value → List Value → Bool → Prop
  | nn : RowV P w op sz A s [] [] (sz 0 0)
  | nc {c : Value} {cs : List Value} : RowV P w op sz A s [] (c :: cs) (sz 0 1)
  | cn {a : Value} {as : List Value} : RowV P w op sz A s (a :: as) [] (sz 1 0)
  | same {a c : Value} {as cs : List Value} {b : Bool} : EqP P w A s a c true → RowV P w op sz A s as cs b → RowV P w op sz A s (a :: as) (c :: cs) b
  | diff {a c : Value} {as cs : List Value} {b : Bool} : EqP P w A s a c false → (∀ E Q : Value → Shared → Prop, Q (.bool b) s → wpAny (model P w) A (richCompare op a c) Q E s) → RowV P w op sz A s (a :: as) (c :: cs) b
section
open PySem.SeqAt
open PySem.AutoSeq1 (wpAny_loadPart')
open PySem.MeetsSeq PySem.MeetsSeq2 PySem.MeetsSeq3
variable {prog : Program} {w : World}
theorem tup_lt_row (l b : Addr) (us vs : Array Value) (n n2 : Nat) (d1 d2 : Option Addr) (z1 z2 : Array (Option Value)) (k : Bool) :
    MeetsIn prog w (Builtin.«tuple.__lt__» ⟨[.ref l, .ref b], []⟩)
      (fun A R s => s.heap.get? l = some { cls := .type "tuple", dict := d1, data := .seq us n, slots := z1 } ∧ s.heap.get? b = some { cls := .type "tuple", dict := d2, data := .seq vs n2, slots := z2 } ∧
        RowV prog w .Lt (fun i j => decide (i < j)) A.in1 s us.toList vs.toList k ∧ R (.ok (.ret (.bool k))) s) :=
  .of_wp fun A R s hyp => by
    obtain ⟨hp, gg, dd, tk, os⟩ := s
    obtain ⟨hl, hb, hrow, hR0⟩ := hyp
    have subt := AutoSeq1.sub_tuple_tuple
    wp_walk using wpAny_loadPart' hl, wpAny_loadPart' hb, wpAny_forIn_list _ (fun rest st s' => st.1 = none ∧ s' = ⟨hp, gg, dd, tk, os⟩ ∧ ∃ (as cs : List Value), rest = as.zip cs ∧
      as.length + vs.size = cs.length + us.size ∧ RowV prog w .Lt (fun i j => decide (i < j)) A.in1 ⟨hp, gg, dd, tk, os⟩ as cs k) _
    case turn =>
      rintro ⟨y, x⟩ rest st s' ⟨hst, rfl, as, cs, hz, hlen, row⟩
      cases row with
      | nn => rw [List.zip_nil_left] at hz; cases hz
      | nc => rw [List.zip_nil_left] at hz; cases hz
      | cn => rw [List.zip_nil_right] at hz; cases hz
      | same he hr =>
        rw [List.zip_cons_cons] at hz
        injection hz with hyx hrest
        injection hyx with hy hx
        subst hy hx
        simp only [List.length_cons] at hlen
        refine wpAny_bind (he _ _ ?_)
        wp_walk
        exact ⟨rfl, rfl, _, _, hrest, by omega, hr⟩
      | diff he hc =>
        rw [List.zip_cons_cons] at hz
        injection hz with hyx hrest
        injection hyx with hy hx
        subst hy hx
        refine wpAny_bind (he _ _ ?_)
        have hcc := hc
        wp_walk using hcc
        exact ⟨_, rfl, hR0⟩
    case fin =>
      rintro ⟨b1, b2⟩ s' ⟨hst, rfl, as, cs, hz, hlen, row⟩
      simp only at hst
      subst hst
      have hv : k = decide (us.size < vs.size) := by
        cases row with
        | nn => simp only [List.length_nil] at hlen; exact (by simp; omega)
        | nc => simp only [List.length_nil, List.length_cons] at hlen; exact (by simp; omega)
        | cn => simp only [List.length_nil, List.length_cons] at hlen; exact (by simp; omega)
        | same he hr => rw [List.zip_cons_cons] at hz; cases hz
        | diff he hc => rw [List.zip_cons_cons] at hz; cases hz
      rw [hv] at hR0
      wp_walk
      exact ⟨_, rfl, by simpa [Builtin.Tuple.tupleCompareSizes] using hR0⟩
    case h =>
      exact ⟨rfl, rfl, us.toList, vs.toList, rfl, by simp; omega, hrow⟩
theorem tup_gt_row (l b : Addr) (us vs : Array Value) (n n2 : Nat) (d1 d2 : Option Addr) (z1 z2 : Array (Option Value)) (k : Bool) :
    MeetsIn prog w (Builtin.«tuple.__gt__» ⟨[.ref l, .ref b], []⟩)
      (fun A R s => s.heap.get? l = some { cls := .type "tuple", dict := d1, data := .seq us n, slots := z1 } ∧ s.heap.get? b = some { cls := .type "tuple", dict := d2, data := .seq vs n2, slots := z2 } ∧
        RowV prog w .Gt (fun i j => decide (i > j)) A.in1 s us.toList vs.toList k ∧ R (.ok (.ret (.bool k))) s) :=
  .of_wp fun A R s hyp => by
    obtain ⟨hp, gg, dd, tk, os⟩ := s
    obtain ⟨hl, hb, hrow, hR0⟩ := hyp
    have subt := AutoSeq1.sub_tuple_tuple
    wp_walk using wpAny_loadPart' hl, wpAny_loadPart' hb, wpAny_forIn_list _ (fun rest st s' => st.1 = none ∧ s' = ⟨hp, gg, dd, tk, os⟩ ∧ ∃ (as cs : List Value), rest = as.zip cs ∧
      as.length + vs.size = cs.length + us.size ∧ RowV prog w .Gt (fun i j => decide (i > j)) A.in1 ⟨hp, gg, dd, tk, os⟩ as cs k) _
    case turn =>
      rintro ⟨y, x⟩ rest st s' ⟨hst, rfl, as, cs, hz, hlen, row⟩
      cases row with
      | nn => rw [List.zip_nil_left] at hz; cases hz
      | nc => rw [List.zip_nil_left] at hz; cases hz
      | cn => rw [List.zip_nil_right] at hz; cases hz
      | same he hr =>
        rw [List.zip_cons_cons] at hz
        injection hz with hyx hrest
        injection hyx with hy hx
        subst hy hx
        simp only [List.length_cons] at hlen
        refine wpAny_bind (he _ _ ?_)
        wp_walk
        exact ⟨rfl, rfl, _, _, hrest, by omega, hr⟩
      | diff he hc =>
        rw [List.zip_cons_cons] at hz
        injection hz with hyx hrest
        injection hyx with hy hx
        subst hy hx
        refine wpAny_bind (he _ _ ?_)
        have hcc := hc
        wp_walk using hcc
        exact ⟨_, rfl, hR0⟩
    case fin =>
      rintro ⟨b1, b2⟩ s' ⟨hst, rfl, as, cs, hz, hlen, row⟩
      simp only at hst
      subst hst
      have hv : k = decide (us.size > vs.size) := by
        cases row with
        | nn => simp only [List.length_nil] at hlen; exact (by simp; omega)
        | nc => simp only [List.length_nil, List.length_cons] at hlen; exact (by simp; omega)
        | cn => simp only [List.length_nil, List.length_cons] at hlen; exact (by simp; omega)
        | same he hr => rw [List.zip_cons_cons] at hz; cases hz
        | diff he hc => rw [List.zip_cons_cons] at hz; cases hz
      rw [hv] at hR0
      wp_walk
      exact ⟨_, rfl, by simpa [Builtin.Tuple.tupleCompareSizes] using hR0⟩
    case h =>
      exact ⟨rfl, rfl, us.toList, vs.toList, rfl, by simp; omega, hrow⟩
end
end MP

namespace MP
open PySem L2
open PySem.SeqAt (EqP)
section
open PySem.SeqAt
open PySem.AutoSeq1 (wpAny_loadPart')
open PySem.MeetsSeq PySem.MeetsSeq2 PySem.MeetsSeq3 PySem.SeqRoads2
variable {prog : Program} {w : World}
/-! ### != of lists and tuples, within one model -/
abbrev LstAt (h : Heap) (a : Addr) (us : Array Value) (n : Nat) (d : Option Addr) (z : Array (Option Value)) : Prop := h.get? a = some { cls := .type "list", dict := d, data := .seq us n, slots := z }
theorem lst_ne_loop (l b : Addr) (us vs : Array Value) (n n2 : Nat) (d1 d2 : Option Addr) (z1 z2 : Array (Option Value)) (hsize : us.size = vs.size) (e : Nat → Bool) (k : Nat) :
    ∀ i : Nat, us.size - i = k → MeetsIn prog w (Builtin.«list.__eq__.loop» ⟨[.ref l, .ref b, rawInt i, rawInt 3], []⟩)
      (fun A R s => LstAt s.heap l us n d1 z1 ∧ LstAt s.heap b vs n2 d2 z2 ∧ (∀ j (h1 : j < us.size) (h2 : j < vs.size), EqP prog w A.in1 s us[j] vs[j] (e j)) ∧ R (.ok (.ret (.bool (!((List.range us.size).drop i).all e)))) s) := by
  induction k with
  | zero =>
    intro i hk A R s hyp
    obtain ⟨hp, gg, dd, tk, os⟩ := s
    obtain ⟨hl, hb, hel, hR⟩ := hyp
    wp_walk using wpAny_loadPart' hl, wpAny_loadPart' hb
    have no1 : us[((i : Nat) : Int).toNat]? = none := by simp; omega
    have no2 : vs[((i : Nat) : Int).toNat]? = none := by simp; omega
    have nil : (List.range us.size).drop i = [] := by simp; omega
    rw [nil] at hR
    rw [no1, no2]
    wp_walk using wpAny_loadPart' hl, wpAny_loadPart' hb
    have hR2 : R (.ok (.ret (.bool (us.size != vs.size)))) ⟨hp, gg, dd, tk, os⟩ := by
      rw [hsize]; simpa using hR
    exact hR2
  | succ k ih =>
    intro i hk A R s hyp
    obtain ⟨hp, gg, dd, tk, os⟩ := s
    obtain ⟨hl, hb, hel, hR⟩ := hyp
    wp_walk using wpAny_loadPart' hl, wpAny_loadPart' hb
    have lt1 : i < us.size := by omega
    have lt2 : i < vs.size := by omega
    have at1 : us[((i : Nat) : Int).toNat]? = some us[i] := by simp [lt1]
    have at2 : vs[((i : Nat) : Int).toNat]? = some vs[i] := by simp [lt2]
    have more : (List.range us.size).drop i = i :: (List.range us.size).drop (i + 1) := by simp [List.drop_eq_getElem_cons, lt1]
    have cast1 : ((i : Int) + 1) = ((i + 1 : Nat) : Int) := by push_cast; rfl
    rw [more, List.all_cons] at hR
    rw [at1, at2]
    refine wpAny_bind (hel i lt1 lt2 _ _ ?_)
    cases hbi : e i with
    | true =>
      rw [hbi] at hR
      wp_walk
      rw [cast1]
      refine ⟨plainId_quiet plain_eq_loop _, codeAny_builtin entry_eq_loop ?_⟩
      rw [Around.under_plainId plain_eq_loop _]
      exact ih (i + 1) (by omega) A R _ ⟨hl, hb, hel, by simpa using hR⟩
    | false =>
      rw [hbi] at hR
      wp_walk using wpAny_loadPart' hl, wpAny_loadPart' hb
      rw [at1, at2]
      wp_walk
      simpa using hR
theorem lst_ne (l b : Addr) (us vs : Array Value) (n n2 : Nat) (d1 d2 : Option Addr) (z1 z2 : Array (Option Value)) (hsize : us.size = vs.size) (e : Nat → Bool) :
    MeetsIn prog w (Builtin.«list.__ne__» ⟨[.ref l, .ref b], []⟩)
      (fun A R s => LstAt s.heap l us n d1 z1 ∧ LstAt s.heap b vs n2 d2 z2 ∧ (∀ j (h1 : j < us.size) (h2 : j < vs.size), EqP prog w A.in1 s us[j] vs[j] (e j)) ∧ R (.ok (.ret (.bool (!(List.range us.size).all e)))) s) := by
  intro A R s hyp
  obtain ⟨hp, gg, dd, tk, os⟩ := s
  obtain ⟨hl, hb, hel, hR⟩ := hyp
  have subl := AutoSeq1.sub_list_list
  have hnn : ¬ (us.size != vs.size) = true := by simp [hsize]
  wp_walk using wpAny_loadPart' hl, wpAny_loadPart' hb
  refine ⟨plainId_quiet plain_eq_loop _, codeAny_builtin entry_eq_loop ?_⟩
  rw [Around.under_plainId plain_eq_loop _]
  exact lst_ne_loop l b us vs n n2 d1 d2 z1 z2 hsize e _ 0 rfl A R _ ⟨hl, hb, hel, by simpa using hR⟩
theorem tup_ne (l b : Addr) (us vs : Array Value) (n n2 : Nat) (d1 d2 : Option Addr) (z1 z2 : Array (Option Value)) (e : Nat → Bool) :
    MeetsIn prog w (Builtin.«tuple.__ne__» ⟨[.ref l, .ref b], []⟩)
      (fun A R s => s.heap.get? l = some { cls := .type "tuple", dict := d1, data := .seq us n, slots := z1 } ∧ s.heap.get? b = some { cls := .type "tuple", dict := d2, data := .seq vs n2, slots := z2 } ∧
        (∀ j (h1 : j < us.size) (h2 : j < vs.size), EqP prog w A.in1 s us[j] vs[j] (e j)) ∧ R (.ok (.ret (.bool (!((List.range (min us.size vs.size)).all e && us.size == vs.size))))) s) :=
  .of_wp fun A R s hyp => by
    obtain ⟨hp, gg, dd, tk, os⟩ := s
    obtain ⟨hl, hb, hel, hR0⟩ := hyp
    have subt := AutoSeq1.sub_tuple_tuple
    have zl : (us.toList.zip vs.toList).length = min us.size vs.size := by simp
    wp_walk using wpAny_loadPart' hl, wpAny_loadPart' hb, wpAny_forIn_list _ (fun rest st s' => st.1 = none ∧ s' = ⟨hp, gg, dd, tk, os⟩ ∧ ∃ i, rest = (us.toList.zip vs.toList).drop i ∧
      R (.ok (.ret (.bool (!(((List.range (min us.size vs.size)).drop i).all e && us.size == vs.size))))) ⟨hp, gg, dd, tk, os⟩) _
    case turn =>
      rintro ⟨y, x⟩ rest st s' ⟨hst, rfl, i, hz, hR⟩
      have lt : i < (us.toList.zip vs.toList).length := by
        rcases Nat.lt_or_ge i (us.toList.zip vs.toList).length with q | q
        · exact q
        · rw [List.drop_of_length_le q] at hz; cases hz
      have ltm : i < min us.size vs.size := zl ▸ lt
      have lt1 : i < us.size := Nat.lt_of_lt_of_le ltm (Nat.min_le_left _ _)
      have lt2 : i < vs.size := Nat.lt_of_lt_of_le ltm (Nat.min_le_right _ _)
      rw [List.drop_eq_getElem_cons lt] at hz
      injection hz with hyx hrest
      have e1 : y = us[i] := by have := congrArg Prod.fst hyx; simpa using this
      have e2 : x = vs[i] := by have := congrArg Prod.snd hyx; simpa using this
      subst e1 e2
      have more : (List.range (min us.size vs.size)).drop i = i :: (List.range (min us.size vs.size)).drop (i + 1) := by simp [List.drop_eq_getElem_cons, ltm]
      rw [more, List.all_cons] at hR
      refine wpAny_bind (hel i lt1 lt2 _ _ ?_)
      cases hbi : e i with
      | true =>
        rw [hbi] at hR
        wp_walk
        exact ⟨rfl, rfl, i + 1, hrest, by simpa using hR⟩
      | false =>
        rw [hbi] at hR
        wp_walk
        exact ⟨_, rfl, by simpa using hR⟩
    case fin =>
      rintro ⟨b1, b2⟩ s' ⟨hst, rfl, i, hz, hR⟩
      simp only at hst
      subst hst
      have ge : min us.size vs.size ≤ i := by
        rcases Nat.lt_or_ge i (us.toList.zip vs.toList).length with q | q
        · rw [List.drop_eq_getElem_cons q] at hz; cases hz
        · exact zl ▸ q
      rw [List.drop_of_length_le (by simpa using ge)] at hR
      wp_walk
      exact ⟨_, rfl, by simpa [Builtin.Tuple.tupleCompareSizes, bne] using hR⟩
    case h =>
      exact ⟨rfl, rfl, 0, rfl, by simpa using hR0⟩
end
section
variable {prog : Program} {w : World} {A : Around} {E : Value → Shared → Prop} {s : Shared}
theorem rcne_lists {l b : Addr} {us vs : Array Value} {e : Nat → Bool} {Q : Value → Shared → Prop} (hl : s.heap.IsList l us) (hb : s.heap.IsList b vs) (hsize : us.size = vs.size) (hu : A.units < cLine)
    (hel : ∀ j (h1 : j < us.size) (h2 : j < vs.size), EqP prog w A.in1 s us[j] vs[j] (e j)) (q : Q (.bool (!(List.range us.size).all e)) s) : wpAny (model prog w) A (richCompare .NotEq (.ref l) (.ref b)) Q E s := by
  obtain ⟨⟨c1, d1, dt1, z1⟩, o1, h1, n, e1⟩ := id hl
  obtain ⟨⟨c2, d2, dt2, z2⟩, o2, h2, n2, e2⟩ := id hb
  simp only at h1 e1 h2 e2
  subst h1 e1 h2 e2
  exact wpAny_richCompare_same_room (T := "list") (op := .NotEq) ⟨_, o1, rfl⟩ ⟨_, o2, rfl⟩ PySem.F.slot_list_ne (call_meetsIn PySem.F.slot_list_ne ⟨_, o1, rfl⟩ PySem.F.entry_list_ne (PySem.F.args_list_ne_2 _ _) (lst_ne l b us vs n n2 d1 d2 z1 z2 hsize e)
    ⟨o1, o2, hel, show Value.bool (!(List.range us.size).all e) ≠ Value.notImplemented ∧ Q (.bool (!(List.range us.size).all e)) s from ⟨(fun x => nomatch x), q⟩⟩) hu
theorem rcne_tuples {l b : Addr} {us vs : Array Value} {e : Nat → Bool} {Q : Value → Shared → Prop} (hl : s.heap.IsTuple l us) (hb : s.heap.IsTuple b vs) (hu : A.units < cLine)
    (hel : ∀ j (h1 : j < us.size) (h2 : j < vs.size), EqP prog w A.in1 s us[j] vs[j] (e j)) (q : Q (.bool (!((List.range (min us.size vs.size)).all e && us.size == vs.size))) s) : wpAny (model prog w) A (richCompare .NotEq (.ref l) (.ref b)) Q E s := by
  obtain ⟨⟨c1, d1, dt1, z1⟩, o1, h1, n, e1⟩ := id hl
  obtain ⟨⟨c2, d2, dt2, z2⟩, o2, h2, n2, e2⟩ := id hb
  simp only at h1 e1 h2 e2
  subst h1 e1 h2 e2
  exact wpAny_richCompare_same_room (T := "tuple") (op := .NotEq) ⟨_, o1, rfl⟩ ⟨_, o2, rfl⟩ PySem.F.slot_tuple_ne (call_meetsIn PySem.F.slot_tuple_ne ⟨_, o1, rfl⟩ PySem.F.entry_tuple_ne (PySem.F.args_tuple_ne_2 _ _) (tup_ne l b us vs n n2 d1 d2 z1 z2 e)
    ⟨o1, o2, hel, show Value.bool (!((List.range (min us.size vs.size)).all e && us.size == vs.size)) ≠ Value.notImplemented ∧ Q (.bool (!((List.range (min us.size vs.size)).all e && us.size == vs.size))) s from ⟨(fun x => nomatch x), q⟩⟩) hu
theorem rclt_tuples {l b : Addr} {us vs : Array Value} {k : Bool} {Q : Value → Shared → Prop} (hl : s.heap.IsTuple l us) (hb : s.heap.IsTuple b vs) (hu : A.units < cLine)
    (row : RowV prog w .Lt (fun i j => decide (i < j)) A.in1 s us.toList vs.toList k) (q : Q (.bool k) s) : wpAny (model prog w) A (richCompare .Lt (.ref l) (.ref b)) Q E s := by
  obtain ⟨⟨c1, d1, dt1, z1⟩, o1, h1, n, e1⟩ := id hl
  obtain ⟨⟨c2, d2, dt2, z2⟩, o2, h2, n2, e2⟩ := id hb
  simp only at h1 e1 h2 e2
  subst h1 e1 h2 e2
  exact wpAny_richCompare_same_room (T := "tuple") (op := .Lt) ⟨_, o1, rfl⟩ ⟨_, o2, rfl⟩ PySem.F.slot_tuple_lt (call_meetsIn PySem.F.slot_tuple_lt ⟨_, o1, rfl⟩ PySem.F.entry_tuple_lt (PySem.F.args_tuple_lt_2 _ _) (tup_lt_row l b us vs n n2 d1 d2 z1 z2 k)
    ⟨o1, o2, row, show Value.bool k ≠ Value.notImplemented ∧ Q (.bool k) s from ⟨(fun x => nomatch x), q⟩⟩) hu
theorem rcgt_tuples {l b : Addr} {us vs : Array Value} {k : Bool} {Q : Value → Shared → Prop} (hl : s.heap.IsTuple l us) (hb : s.heap.IsTuple b vs) (hu : A.units < cLine)
    (row : RowV prog w .Gt (fun i j => decide (i > j)) A.in1 s us.toList vs.toList k) (q : Q (.bool k) s) : wpAny (model prog w) A (richCompare .Gt (.ref l) (.ref b)) Q E s := by
  obtain ⟨⟨c1, d1, dt1, z1⟩, o1, h1, n, e1⟩ := id hl
  obtain ⟨⟨c2, d2, dt2, z2⟩, o2, h2, n2, e2⟩ := id hb
  simp only at h1 e1 h2 e2
  subst h1 e1 h2 e2
  exact wpAny_richCompare_same_room (T := "tuple") (op := .Gt) ⟨_, o1, rfl⟩ ⟨_, o2, rfl⟩ PySem.F.slot_tuple_gt (call_meetsIn PySem.F.slot_tuple_gt ⟨_, o1, rfl⟩ PySem.F.entry_tuple_gt (PySem.F.args_tuple_gt_2 _ _) (tup_gt_row l b us vs n n2 d1 d2 z1 z2 k)
    ⟨o1, o2, row, show Value.bool k ≠ Value.notImplemented ∧ Q (.bool k) s from ⟨(fun x => nomatch x), q⟩⟩) hu
end
end MP

namespace MP
open PySem L2
open PySem.SeqAt (EqP EqAt)

/-! ### comparisons of values that hold nothing else -/
def eqA : T → T → Option Bool
  | .non, .non => some true
  | .non, .bl _ => some false
  | .non, .int _ => some false
  | .non, .str _ => some false
  | .bl _, .non => some false
  | .bl a, .bl b => some (a == b)
  | .bl a, .int b => some ((if a then 1 else 0) == b)
  | .bl _, .str _ => some false
  | .int _, .non => some false
  | .int a, .bl b => some (a == (if b then 1 else 0))
  | .int a, .int b => some (a == b)
  | .int _, .str _ => some false
  | .str _, .non => some false
  | .str _, .bl _ => some false
  | .str _, .int _ => some false
  | .str a, .str b => some (a == b)
  | _, _ => none
def ltA : T → T → Option Bool
  | .int a, .int b => some (decide (a < b))
  | .bl a, .bl b => some (!a && b)
  | .str a, .str b => some (ltS a b)
  | _, _ => none
def gtA (a b : T) : Option Bool := ltA b a
/-- two rows in order -/
def rowL (f g : T → T → Option Bool) (sz : Nat → Nat → Bool) : List T → List T → Option Bool
  | [], [] => some (sz 0 0)
  | [], _ :: _ => some (sz 0 1)
  | _ :: _, [] => some (sz 1 0)
  | t :: ts, u :: us => match f t u with
    | some true => rowL f g sz ts us
    | some false => g t u
    | none => none
section
variable {C : Ctx} {X : Cx} {pins : List (Addr × Obj)} {σ : L2.St} {H : Hp} {s : Shared}
theorem eqA_at (A : Around) : ∀ {a b : T} {x y : V} {v u : Value} {k : Bool}, eqA a b = some k → Rep C H a x → Rep C H b y → RelV x v → RelV y u → EqAt A s v u k
  | .non, .non, _, _, _, _, _, h, r1, r2, rx, ry => by
    cases h; rw [Rep] at r1; rw [Rep] at r2; subst r1 r2; cases rx; cases ry; exact EqAt.same _
  | .non, .bl b, _, _, _, _, _, h, r1, r2, rx, ry => by
    cases h; rw [Rep] at r1; rw [Rep] at r2; subst r1 r2; cases rx; cases ry; exact EqAt.none_bool _
  | .non, .int b, _, _, _, _, _, h, r1, r2, rx, ry => by
    cases h; rw [Rep] at r1; rw [Rep] at r2; subst r1 r2; cases rx; obtain ⟨t2, rfl⟩ := ry; exact EqAt.none_int _ _
  | .non, .str b, _, _, _, _, _, h, r1, r2, rx, ry => by
    cases h; rw [Rep] at r1; rw [Rep] at r2; subst r1 r2; cases rx; obtain ⟨t2, rfl⟩ := ry; exact EqAt.none_str _ _
  | .bl a, .non, _, _, _, _, _, h, r1, r2, rx, ry => by
    cases h; rw [Rep] at r1; rw [Rep] at r2; subst r1 r2; cases rx; cases ry; exact EqAt.bool_none _
  | .bl a, .bl b, _, _, _, _, _, h, r1, r2, rx, ry => by
    cases h; rw [Rep] at r1; rw [Rep] at r2; subst r1 r2; cases rx; cases ry; exact EqAt.bool_bool _ _
  | .bl a, .int b, _, _, _, _, _, h, r1, r2, rx, ry => by
    cases h; rw [Rep] at r1; rw [Rep] at r2; subst r1 r2; cases rx; obtain ⟨t2, rfl⟩ := ry; exact EqAt.bool_int _ _ _
  | .bl a, .str b, _, _, _, _, _, h, r1, r2, rx, ry => by
    cases h; rw [Rep] at r1; rw [Rep] at r2; subst r1 r2; cases rx; obtain ⟨t2, rfl⟩ := ry; exact EqAt.bool_str _ _ _
  | .int a, .non, _, _, _, _, _, h, r1, r2, rx, ry => by
    cases h; rw [Rep] at r1; rw [Rep] at r2; subst r1 r2; obtain ⟨t1, rfl⟩ := rx; cases ry; exact EqAt.int_none _ _
  | .int a, .bl b, _, _, _, _, _, h, r1, r2, rx, ry => by
    cases h; rw [Rep] at r1; rw [Rep] at r2; subst r1 r2; obtain ⟨t1, rfl⟩ := rx; cases ry; exact EqAt.int_bool _ _ _
  | .int a, .int b, _, _, _, _, _, h, r1, r2, rx, ry => by
    cases h; rw [Rep] at r1; rw [Rep] at r2; subst r1 r2; obtain ⟨t1, rfl⟩ := rx; obtain ⟨t2, rfl⟩ := ry; exact EqAt.int_int _ _ _ _
  | .int a, .str b, _, _, _, _, _, h, r1, r2, rx, ry => by
    cases h; rw [Rep] at r1; rw [Rep] at r2; subst r1 r2; obtain ⟨t1, rfl⟩ := rx; obtain ⟨t2, rfl⟩ := ry; exact EqAt.int_str _ _ _ _
  | .str a, .non, _, _, _, _, _, h, r1, r2, rx, ry => by
    cases h; rw [Rep] at r1; rw [Rep] at r2; subst r1 r2; obtain ⟨t1, rfl⟩ := rx; cases ry; exact EqAt.str_none _ _
  | .str a, .bl b, _, _, _, _, _, h, r1, r2, rx, ry => by
    cases h; rw [Rep] at r1; rw [Rep] at r2; subst r1 r2; obtain ⟨t1, rfl⟩ := rx; cases ry; exact EqAt.str_bool _ _ _
  | .str a, .int b, _, _, _, _, _, h, r1, r2, rx, ry => by
    cases h; rw [Rep] at r1; rw [Rep] at r2; subst r1 r2; obtain ⟨t1, rfl⟩ := rx; obtain ⟨t2, rfl⟩ := ry; exact EqAt.str_int _ _ _ _
  | .str a, .str b, _, _, _, _, _, h, r1, r2, rx, ry => by
    cases h; rw [Rep] at r1; rw [Rep] at r2; subst r1 r2; obtain ⟨t1, rfl⟩ := rx; obtain ⟨t2, rfl⟩ := ry; exact EqAt.str_str _ _ _ _
  | .nd _ _ _, b, _, _, _, _, _, h, _, _, _, _ => by simp [eqA] at h
  | .fn _, b, _, _, _, _, _, h, _, _, _, _ => by simp [eqA] at h
  | .non, .nd _ _ _, _, _, _, _, _, h, _, _, _, _ => by cases h
  | .non, .fn _, _, _, _, _, _, h, _, _, _, _ => by cases h
  | .bl a, .nd _ _ _, _, _, _, _, _, h, _, _, _, _ => by cases h
  | .bl a, .fn _, _, _, _, _, _, h, _, _, _, _ => by cases h
  | .int a, .nd _ _ _, _, _, _, _, _, h, _, _, _, _ => by cases h
  | .int a, .fn _, _, _, _, _, _, h, _, _, _, _ => by cases h
  | .str a, .nd _ _ _, _, _, _, _, _, h, _, _, _, _ => by cases h
  | .str a, .fn _, _, _, _, _, _, h, _, _, _, _ => by cases h
theorem ltA_rc {a b : T} {x y : V} {v u : Value} {k : Bool} {P : Program} {w : World} {A : Around} (h : ltA a b = some k) (r1 : Rep C H a x) (r2 : Rep C H b y) (rx : RelV x v) (ry : RelV y u) (E Q : Value → Shared → Prop) (q : Q (.bool k) s) :
    wpAny (model P w) A (compareOp .Lt v u) Q E s := by
  unfold ltA at h
  split at h
  · cases h
    simp only [Rep] at r1 r2; subst r1 r2
    obtain ⟨t1, rfl⟩ := rx; obtain ⟨t2, rfl⟩ := ry
    exact PyProof.Rows.lt_int q
  · rename_i a b
    cases h
    simp only [Rep] at r1 r2; subst r1 r2
    simp only [RelV] at rx ry; subst rx ry
    refine PyProof.Rows.lt_bool ?_
    have e : decide (PyProof.Rows.b2i a < PyProof.Rows.b2i b) = (!a && b) := by cases a <;> cases b <;> decide
    rw [e]; exact q
  · rename_i a b
    cases h
    simp only [Rep] at r1 r2; subst r1 r2
    obtain ⟨t1, rfl⟩ := rx; obtain ⟨t2, rfl⟩ := ry
    refine PyProof.Rows.lt_str ?_
    rw [PyProof.Rows.lt_meets]
    exact q
  · cases h
theorem rowL_row {f : T → T → Option Bool} {g : T → T → Option Bool} {sz : Nat → Nat → Bool} {P : Program} {w : World} {op : CmpOp} {A : Around}
    (hf : ∀ {a b : T} {x y : V} {v u : Value} {k : Bool}, f a b = some k → Rep C H a x → Rep C H b y → RelV x v → RelV y u → EqP P w A s v u k)
    (hg : ∀ {a b : T} {x y : V} {v u : Value} {k : Bool}, g a b = some k → Rep C H a x → Rep C H b y → RelV x v → RelV y u → ∀ E Q : Value → Shared → Prop, Q (.bool k) s → wpAny (model P w) A (richCompare op v u) Q E s) :
    ∀ {ts us : List T} {xs ys : List V} {vs ws : List Value} {k : Bool}, rowL f g sz ts us = some k → Reps C H ts xs → Reps C H us ys → Vals xs vs → Vals ys ws → RowV P w op sz A s vs ws k
  | [], [], xs, ys, vs, ws, k, h, r1, r2, v1, v2 => by
    rw [Reps] at r1 r2; subst r1 r2; cases v1; cases v2
    rw [rowL] at h; cases h; exact .nn
  | [], _ :: _, xs, ys, vs, ws, k, h, r1, r2, v1, v2 => by
    rw [Reps] at r1
    subst r1
    rw [Reps] at r2
    obtain ⟨y, r, rfl, _, _⟩ := r2
    cases v1
    cases v2
    rw [rowL] at h; cases h; exact .nc
  | _ :: _, [], xs, ys, vs, ws, k, h, r1, r2, v1, v2 => by
    rw [Reps] at r2
    subst r2
    rw [Reps] at r1
    obtain ⟨y, r, rfl, _, _⟩ := r1
    cases v1
    cases v2
    rw [rowL] at h; cases h; exact .cn
  | t :: ts, u :: us, xs, ys, vs, ws, k, h, r1, r2, v1, v2 => by
    rw [Reps] at r1 r2
    obtain ⟨x, xr, rfl, a1, a2⟩ := r1
    obtain ⟨y, yr, rfl, b1, b2⟩ := r2
    cases v1 with
    | cons p1 p2 =>
      cases v2 with
      | cons q1 q2 =>
        rw [rowL] at h
        split at h
        · rename_i e; exact .same (hf e a1 b1 p1 q1) (rowL_row hf hg h a2 b2 p2 q2)
        · rename_i e; exact .diff (hf e a1 b1 p1 q1) (hg h a1 b1 p1 q1)
        · cases h
end
/-! ### < and > -/
def ltT : T → T → Option Bool
  | .nd _ .tup ts, .nd _ .tup us => rowL eqA ltA (fun i j => decide (i < j)) ts us
  | a, b => ltA a b
def gtT : T → T → Option Bool
  | .nd _ .tup ts, .nd _ .tup us => rowL eqA gtA (fun i j => decide (i > j)) ts us
  | a, b => gtA a b
theorem gtA_rc {C : Ctx} {H : Hp} {s : Shared} {a b : T} {x y : V} {v u : Value} {k : Bool} {P : Program} {w : World} {A : Around} (h : gtA a b = some k) (r1 : Rep C H a x) (r2 : Rep C H b y) (rx : RelV x v) (ry : RelV y u) (E Q : Value → Shared → Prop) (q : Q (.bool k) s) :
    wpAny (model P w) A (compareOp .Gt v u) Q E s := by
  unfold gtA ltA at h
  split at h
  · cases h
    rw [Rep] at r1 r2; subst r1 r2
    obtain ⟨t1, rfl⟩ := rx; obtain ⟨t2, rfl⟩ := ry
    exact PyProof.Rows.gt_int q
  · rename_i a b
    cases h
    rw [Rep] at r1 r2; subst r1 r2
    cases rx; cases ry
    refine PyProof.Rows.gt_bool ?_
    have e : ∀ c d : Bool, decide (PyProof.Rows.b2i c > PyProof.Rows.b2i d) = (!d && c) := by intro c d; cases c <;> cases d <;> decide
    rw [e]; exact q
  · cases h
    rw [Rep] at r1 r2; subst r1 r2
    obtain ⟨t1, rfl⟩ := rx; obtain ⟨t2, rfl⟩ := ry
    refine PySem.P.gt_str ?_
    rw [PyProof.Rows.gt_meets]
    exact q
  · cases h
section
variable {C : Ctx} {X : Cx}
theorem fin_b {pins : List (Addr × Obj)} {σ : L2.St} {H : Hp} {s : Shared} {Q : VK} {k : Bool} (I : L2.Inv X pins σ H s) (q : Q (.bl k) H) : EP X pins σ Q (.bool k) s := ⟨.bl k, H, I, rfl, q⟩
theorem op_ltTop (hK : C.K = X.K) (hu : X.A.units < cLine) : OpR X (compareOp .Lt) (rC C ltT) := by
  intro pins s σ H x y v u Q I rx ry h
  obtain ⟨tx, ty, k, r1, r2, hg, q⟩ := h
  unfold ltT at hg
  split at hg
  · rw [Rep] at r1 r2
    obtain ⟨_, a, xs, rfl, n1, e1⟩ := r1
    obtain ⟨_, b, ys, rfl, n2, e2⟩ := r2
    obtain ⟨us, v1, p1, _⟩ := I.tuple (show SqT X.K H a xs from hK ▸ n1)
    obtain ⟨ws, v2, p2, _⟩ := I.tuple (show SqT X.K H b ys from hK ▸ n2)
    cases rx; cases ry
    refine rclt_tuples p1 p2 hu ?_ (fin_b I q)
    exact rowL_row (fun h a b c d => (eqA_at X.A.in1 h a b c d).eqP) (fun h a b c d E Q q => ltA_rc h a b c d E Q q) hg e1 e2 v1 v2
  · exact ltA_rc hg r1 r2 rx ry _ _ (fin_b I q)
theorem op_gtTop (hK : C.K = X.K) (hu : X.A.units < cLine) : OpR X (compareOp .Gt) (rC C gtT) := by
  intro pins s σ H x y v u Q I rx ry h
  obtain ⟨tx, ty, k, r1, r2, hg, q⟩ := h
  unfold gtT at hg
  split at hg
  · rw [Rep] at r1 r2
    obtain ⟨_, a, xs, rfl, n1, e1⟩ := r1
    obtain ⟨_, b, ys, rfl, n2, e2⟩ := r2
    obtain ⟨us, v1, p1, _⟩ := I.tuple (show SqT X.K H a xs from hK ▸ n1)
    obtain ⟨ws, v2, p2, _⟩ := I.tuple (show SqT X.K H b ys from hK ▸ n2)
    cases rx; cases ry
    refine rcgt_tuples p1 p2 hu ?_ (fin_b I q)
    exact rowL_row (fun h a b c d => (eqA_at X.A.in1 h a b c d).eqP) (fun h a b c d E Q q => gtA_rc h a b c d E Q q) hg e1 e2 v1 v2
  · exact gtA_rc hg r1 r2 rx ry _ _ (fin_b I q)
def leT : T → T → Option Bool
  | .int a, .int b => some (decide (a ≤ b))
  | _, _ => none
def geT : T → T → Option Bool
  | .int a, .int b => some (decide (b ≤ a))
  | _, _ => none
theorem op_leTop : OpR X (compareOp .LtE) (rC C leT) := by
  intro pins s σ H x y v u Q I rx ry h
  obtain ⟨tx, ty, k, r1, r2, hg, q⟩ := h
  unfold leT at hg
  split at hg
  · cases hg
    rw [Rep] at r1 r2; subst r1 r2
    exact op_le pins s σ H _ _ v u Q I rx ry ⟨_, _, rfl, rfl, q⟩
  · cases hg
theorem op_geTop : OpR X (compareOp .GtE) (rC C geT) := by
  intro pins s σ H x y v u Q I rx ry h
  obtain ⟨tx, ty, k, r1, r2, hg, q⟩ := h
  unfold geT at hg
  split at hg
  · cases hg
    rw [Rep] at r1 r2; subst r1 r2
    exact op_ge pins s σ H _ _ v u Q I rx ry ⟨_, _, rfl, rfl, q⟩
  · cases hg
/-! ### ==, != of values that hold nothing else -/
def mixed : T → T → Bool
  | .bl _, .int _ => true
  | .int _, .bl _ => true
  | _, _ => false
def eqS (a b : T) : Option Bool := if mixed a b = true then none else eqA a b
theorem eqS_scal {H : Hp} {a b : T} {x y : V} {k : Bool} (h : eqS a b = some k) (r1 : Rep C H a x) (r2 : Rep C H b y) : scal x y = true ∧ decide (x = y) = k := by
  unfold eqS at h
  split at h
  · cases h
  · rename_i hm
    unfold eqA at h
    split at h
    all_goals first
      | (cases h; done)
      | (exact absurd rfl hm)
      | (cases h; rw [Rep] at r1; rw [Rep] at r2; subst r1 r2; refine ⟨rfl, ?_⟩; first | rfl | (simp; done) | exact dec_int | exact dec_bl | exact dec_str)
theorem op_eqTop : OpR X (compareOp .Eq) (rC C eqS) := by
  intro pins s σ H x y v u Q I rx ry h
  obtain ⟨tx, ty, k, r1, r2, hg, q⟩ := h
  obtain ⟨h1, h2⟩ := eqS_scal hg r1 r2
  exact op_eq pins s σ H _ _ v u Q I rx ry ⟨h1, by rw [h2]; exact q⟩
def neS (a b : T) : Option Bool := match eqS a b with
  | some k => some (!k)
  | none => none
theorem op_neTop : OpR X (compareOp .NotEq) (rC C neS) := by
  intro pins s σ H x y v u Q I rx ry h
  obtain ⟨tx, ty, k, r1, r2, hg, q⟩ := h
  unfold neS at hg
  split at hg
  · rename_i k' he
    cases hg
    obtain ⟨h1, h2⟩ := eqS_scal he r1 r2
    exact op_ne pins s σ H _ _ v u Q I rx ry ⟨h1, by rw [h2]; exact q⟩
  · cases hg
/-! ### in, not in -/
def inT : T → T → Option Bool
  | .str x, .str z => match x.cps.toList with
    | [c] => some (decide (c ∈ z.cps.toList))
    | _ => none
  | k, .nd _ (.dct ks) ts => match keyT k with
    | some k => if ks.length = ts.length then some (lkT ks ts k).isSome else none
    | none => none
  | a, .nd _ .lst ts => inL a ts
  | a, .nd _ .tup ts => inL a ts
  | _, _ => none
where
  inL (a : T) : List T → Option Bool
  | [] => if atomT a = true then some false else none
  | t :: ts => match eqS t a, inL a ts with
    | some x, some y => some (x || y)
    | _, _ => none
end
end MP

namespace MP
open PySem L2

/-! ### builtins of values that are frozen -/
def rKn (C : Ctx) (g : List T → Option T) : List V → Hp → VK → Prop := fun vs H Q => ∃ F ts u, Same F H ∧ Reps C F ts vs ∧ g ts = some u ∧ NewQ C F H u Q
def dUn (g : List T → Option T) (d : DA) : DR := bnd d fun ts ρ => match g ts with
  | some t => some (.ok (.tv t) ρ)
  | none => none
section
variable {C : Ctx} {X : Cx} {E : XW} {p : Bool} {a b : Expr} {es : List Expr} {d : DA} {pos px : Pos} {x : Str} {id : String} {g : List T → Option T}
theorem R_biN (hc : CallR X (.builtin id) (rKn C g)) (hg : Gl X x) (hm : X.mg x = none) (hv : bootBuiltins x = some (.builtin id)) (ha : PA X (a :: es) (tAr C E p d)) (hs : (a :: es).all noStar = true) (hn : x ≠ "__name__") (hdb : (x == ("__debug__" : Str)) = false) :
    PE X (.Call (.Name x px) (a :: es) [] pos) (tR C E p (dUn g d)) := by
  have hs' := hs
  simp only [List.all_cons, Bool.and_eq_true] at hs'
  exact PE_imp (pe_callB hc hg hm hv ha hn hdb (star_cons hs'.1) (star_any hs'.2)) fun σ H Q ⟨F, ρ, As, o, env, hd, post⟩ => by
    refine seqA env hd post.xx fun ts ρ1 hd vs F1 H1 As1 env1 st1 pu1 r1 => ?_
    split at hd
    · rename_i u hu
      cases hd
      exact ⟨F1, ts, u, env1.sub, r1, hu, end_new env1 st1 pu1 post⟩
    · cases hd
theorem R_tyN {T' : String} (hc : CallR X (.type T') (rKn C g)) (hg : Gl X x) (hm : X.mg x = none) (hv : bootBuiltins x = some (.type T')) (ha : PA X (a :: es) (tAr C E p d)) (hs : (a :: es).all noStar = true) (hn : x ≠ "__name__") (hdb : (x == ("__debug__" : Str)) = false) :
    PE X (.Call (.Name x px) (a :: es) [] pos) (tR C E p (dUn g d)) := by
  have hs' := hs
  simp only [List.all_cons, Bool.and_eq_true] at hs'
  exact PE_imp (pe_callTy hc hg hm hv ha hn hdb (star_cons hs'.1) (star_any hs'.2)) fun σ H Q ⟨F, ρ, As, o, env, hd, post⟩ => by
    refine seqA env hd post.xx fun ts ρ1 hd vs F1 H1 As1 env1 st1 pu1 r1 => ?_
    split at hd
    · rename_i u hu
      cases hd
      exact ⟨F1, ts, u, env1.sub, r1, hu, end_new env1 st1 pu1 post⟩
    · cases hd
def max2T : List T → Option T
  | [.int i, .int j] => some (.int (if j > i then j else i))
  | _ => none
def min2T : List T → Option T
  | [.int i, .int j] => some (.int (if j < i then j else i))
  | _ => none
theorem call_max2T (hc : X.calm = true) : CallR X (.builtin "max") (rKn C max2T) := by
  intro pins s σ H xs us Q I r h
  obtain ⟨F, ts, u, sm, rp, hg, q⟩ := h
  unfold max2T at hg
  split at hg
  · cases hg
    obtain ⟨v, w, rfl, r1, r2⟩ := reps2 rp
    rw [Rep] at r1 r2; subst r1 r2
    exact call_max2 hc pins s σ H _ us Q I r ⟨_, _, rfl, q.atom sm (Rep.int.mpr rfl)⟩
  · cases hg
theorem call_min2T (hc : X.calm = true) : CallR X (.builtin "min") (rKn C min2T) := by
  intro pins s σ H xs us Q I r h
  obtain ⟨F, ts, u, sm, rp, hg, q⟩ := h
  unfold min2T at hg
  split at hg
  · cases hg
    obtain ⟨v, w, rfl, r1, r2⟩ := reps2 rp
    rw [Rep] at r1 r2; subst r1 r2
    exact call_min2 hc pins s σ H _ us Q I r ⟨_, _, rfl, q.atom sm (Rep.int.mpr rfl)⟩
  · cases hg
def listT : List T → Option T
  | [.nd _ .lst ts] => some (.nd true .lst ts)
  | [.nd _ .tup ts] => some (.nd true .lst ts)
  | _ => none
theorem call_listT (hK : C.K = X.K) : CallR X (.type "list") (rKn C listT) := by
  intro pins s σ H xs us Q I r h
  obtain ⟨F, ts, u, sm, rp, hg, q⟩ := h
  unfold listT at hg
  split at hg
  · cases hg
    obtain ⟨v, rfl, r1⟩ := reps1 rp
    rw [Rep] at r1
    obtain ⟨_, a, xs, rfl, hn, hr⟩ := r1
    exact call_list_of pins s σ H _ us Q I r ⟨a, xs, rfl, .inl (SqL.of (sm _ _ hn)), fun l hl => q.lst sm hl hr⟩
  · cases hg
    obtain ⟨v, rfl, r1⟩ := reps1 rp
    rw [Rep] at r1
    obtain ⟨_, a, xs, rfl, hn, hr⟩ := r1
    exact call_list_of pins s σ H _ us Q I r ⟨a, xs, rfl, .inr (hK ▸ NodeR.mono (C := C) (k := .tup) sm hn), fun l hl => q.lst sm hl hr⟩
  · cases hg
def tupleT : List T → Option T
  | [.nd _ .lst ts] => some (.tup ts)
  | [.nd _ .tup ts] => some (.tup ts)
  | _ => none
theorem call_tupleT' (hK : C.K = X.K) : CallR X (.type "tuple") (rKn C tupleT) := by
  intro pins s σ H xs us Q I r h
  obtain ⟨F, ts, u, sm, rp, hg, q⟩ := h
  unfold tupleT at hg
  split at hg
  · cases hg
    obtain ⟨v, rfl, r1⟩ := reps1 rp
    rw [Rep] at r1
    obtain ⟨_, a, xs, rfl, hn, hr⟩ := r1
    exact call_tuple_of pins s σ H _ us Q I r ⟨a, xs, rfl, .inl ⟨SqL.of (sm _ _ hn), fun l hl => q.tup sm hl hr⟩⟩
  · cases hg
    obtain ⟨v, rfl, r1⟩ := reps1 rp
    rw [Rep] at r1
    obtain ⟨_, a, xs, rfl, hn, hr⟩ := r1
    exact call_tuple_of pins s σ H _ us Q I r ⟨a, xs, rfl, .inr ⟨hK ▸ NodeR.mono (C := C) (k := .tup) sm hn, q.atom sm (Rep.nd.mpr ⟨rfl, a, xs, rfl, hn, hr⟩)⟩⟩
  · cases hg
def dictT : List T → Option T
  | [.nd _ (.dct ks) ts] => if ks.length = ts.length then some (.nd true (.dct ks) ts) else none
  | _ => none
theorem call_dictT : CallR X (.type "dict") (rKn C dictT) := by
  intro pins s σ H xs us Q I r h
  obtain ⟨F, ts, u, sm, rp, hg, q⟩ := h
  unfold dictT at hg
  split at hg
  · split at hg
    · rename_i hl
      cases hg
      obtain ⟨v, rfl, r1⟩ := reps1 rp
      rw [Rep] at r1
      obtain ⟨_, a, xs, rfl, ⟨hl2, hn⟩, hr⟩ := r1
      exact call_dictD pins s σ H _ us Q I r ⟨a, _, rfl, same_rd sm hn, fun l hn' => q.dct sm hn' hl hr⟩
    · cases hg
  · cases hg

/-! ### isinstance -/
inductive Nt where
  | int | str | list | dict | tuple | bool
  deriving DecidableEq
def Nt.nm : Nt → String
  | .int => "int" | .str => "str" | .list => "list" | .dict => "dict" | .tuple => "tuple" | .bool => "bool"
def ntOf : T → Option (Option Nt)
  | .non => some none
  | .bl _ => some (some .bool)
  | .int _ => some (some .int)
  | .str _ => some (some .str)
  | .nd _ .lst _ => some (some .list)
  | .nd _ .tup _ => some (some .tuple)
  | .nd _ (.dct _) _ => some (some .dict)
  | _ => none
def isiT (n : Nt) (t : T) : Option T := match ntOf t with
  | some (some m) => some (.bl (decide (m = n) || (decide (m = .bool) && decide (n = .int))))
  | some none => some (.bl false)
  | none => none
theorem kit_nt (K : PySem.W.Frag) (m n : Nt) : PySem.W.kitOne K (.type m.nm) (.type n.nm) = some (decide (m = n) || (decide (m = .bool) && decide (n = .int))) := by
  cases m <;> cases n <;> exact kit_ty (by decide +kernel)
theorem kit_non (K : PySem.W.Frag) (n : Nt) : PySem.W.kitOne K (.type "NoneType") (.type n.nm) = some false := by
  cases n <;> exact kit_ty (by decide +kernel)
theorem tyx_of (hK : C.K = X.K) {H : Hp} {t : T} {v : V} (r : Rep C H t v) : ∀ m, ntOf t = some m → match m with
    | some m => TyX X.K H v (.type m.nm)
    | none => TyX X.K H v (.type "NoneType") := by
  intro m h
  unfold ntOf at h
  split at h <;> (first | (cases h; done) | cases h)
  · rw [Rep] at r; subst r; exact .base .non
  · rw [Rep] at r; subst r; exact .base (.bl _)
  · rw [Rep] at r; subst r; exact .base (.int _)
  · rw [Rep] at r; subst r; exact .base (.str _)
  · rw [Rep] at r; obtain ⟨_, a, xs, rfl, hn, _⟩ := r; exact .base (.lst hn)
  · rw [Rep] at r
    obtain ⟨_, a, xs, rfl, hn, _⟩ := r
    rcases (show SqT X.K H a xs from hK ▸ hn) with (h | ⟨o, h⟩) | ⟨o, its, n, h1, h2, _⟩
    · exact .base (.tup h)
    · exact .fTuple h
    · exact .kTuple h1 h2
  · rw [Rep] at r
    obtain ⟨_, a, xs, rfl, ⟨_, hn⟩, _⟩ := r
    rcases hn with h | ⟨o, h⟩
    · exact .base (.dK h)
    · exact .fDict h
theorem boot_nt (n : Nt) : bootBuiltins (Str.ofString n.nm) = some (.type n.nm) := by
  cases n <;> decide +kernel
theorem V_isi {n : Nt} {dv : DV} {y : Str} {py : Pos} (hK : C.K = X.K) (hx : x = "isinstance") (hg : Gl X x) (hm : X.mg x = none) (hy : y = Str.ofString n.nm) (hgy : Gl X y) (hmy : X.mg y = none) (ha : PE X a (tH C E p dv)) (hs : noStar a = true) :
    PE X (.Call (.Name x px) [a, .Name y py] [] pos) (tV C E p (dU (isiT n) dv)) := by
  subst hx hy
  have hty : PE X (.Name (Str.ofString n.nm) py) (tC (.ty n.nm)) := pe_bltn hgy hmy (boot_nt n) rfl (by cases n <;> decide) (by cases n <;> decide)
  refine PE_imp (pe_callB call_isi hg hm PyProof.Rows.boot_isinstance (pa_cons ha (pa_cons hty pa_nil rfl) (star_cons hs)) (by decide) (by decide) (star_cons hs) rfl) fun σ H Q ⟨F, ρ, As, o, env, hd, post⟩ => ?_
  have hd2 : bnd dv (fun t ρ => match isiT n t with | some u => some (Out.ok u ρ) | none => none) ρ = some o := hd
  have h1 : tH C E p dv σ H (fun v H1 => tCons (tC (.ty n.nm)) tNil σ H1 (fun xs H2 => rIsi X.K (v :: xs) H2 Q)) := by
    refine seqH env hd2 post.xx fun t ρ1 hd v F1 H1 As1 env1 st1 pu1 r1 => ?_
    split at hd
    · rename_i u hu
      cases hd
      unfold isiT at hu
      have ty := tyx_of hK r1
      split at hu
      · rename_i m hm
        cases hu
        exact ⟨v, .ty n.nm, .type m.nm, .type n.nm, _, rfl, .ty _, ty _ hm, kit_nt X.K m n, post _ F1 H1 As1 env1 st1 pu1 (Rep.bl.mpr rfl)⟩
      · rename_i hm
        cases hu
        exact ⟨v, .ty n.nm, .type "NoneType", .type n.nm, _, rfl, .ty _, ty _ hm, kit_non X.K n, post _ F1 H1 As1 env1 st1 pu1 (Rep.bl.mpr rfl)⟩
      · cases hu
    · cases hd
  exact h1
end

/-! ### slices -/
abbrev DO := Rho → Option (Out (Option Int))
def PostO (C : Ctx) (E : XW) (p : Bool) (σ : L2.St) (F H : Hp) (ρ : Rho) (As : Ads) (Q : Option Int → Hp → Prop) : Out (Option Int) → Prop
  | .ok i ρ' => ∀ F' H' As', Env C F' H' σ ρ' As' → Step F H (Ow As) F' H' (Ow As') → Pur p ρ ρ' As As' H H' → Q i H'
  | .exc x ρ' => PostX C E σ F H As x ρ'
def tO (C : Ctx) (E : XW) (p : Bool) (d : DO) : TO := fun σ H Q => ∃ F ρ As o, Env C F H σ ρ As ∧ d ρ = some o ∧ PostO C E p σ F H ρ As Q o
def dONone : DO := fun ρ => some (.ok none ρ)
def dOSome (d : DV) : DO := bnd d fun t ρ => match t with
  | .int i => some (.ok (some i) ρ)
  | _ => none
def cutT (ts : List T) (lo hi : Option Int) : List T := (ts.drop (HT.sIx ts.length 0 lo)).take (HT.sIx ts.length ts.length hi - HT.sIx ts.length 0 lo)
def slcT (t : T) (lo hi : Option Int) : Option T := match t with
  | .nd _ .lst ts => some (.nd true .lst (cutT ts lo hi))
  | .str z => if z.length ≤ sizeLine then some (.str (cutS z lo hi)) else none
  | .nd _ .tup ts => if HT.sIx ts.length 0 lo = 0 ∧ HT.sIx ts.length ts.length hi = ts.length then none else some (.tup (cutT ts lo hi))
  | _ => none
def dSlc (d : DV) (l h : DO) : DR := bnd d fun t => bnd l fun i => bnd h fun j ρ => match slcT t i j with
  | some u => some (.ok (.tv u) ρ)
  | none => none
section
variable {C : Ctx} {X : Cx} {E : XW} {p : Bool} {a : Expr} {lo hi : Option Expr} {d : DV} {l h : DO} {pos p2 : Pos}
theorem PO_imp {X : Cx} {e : Option Expr} {t t' : TO} (h : PO X e t) (i : ∀ σ H Q, t' σ H Q → t σ H Q) : PO X e t' := ⟨fun pins s σ H Q I q => h.run pins s σ H Q I (i σ H Q q)⟩
theorem O_none : PO X none (tO C E p dONone) := PO_imp po_none fun σ H Q ⟨F, ρ, As, o, env, hd, post⟩ => by
  cases hd
  exact post F H As env Step.refl Pur.refl
theorem O_some {e : Expr} (h : PE X e (tV C E p d)) : PO X (some e) (tO C E p (dOSome d)) := PO_imp (po_some h) fun σ H Q ⟨F, ρ, As, o, env, hd, post⟩ => by
  have hx : ∀ x ρ', o = .exc x ρ' → PostX C E σ F H As x ρ' := fun x ρ' e => by subst e; exact post
  refine seqV env hd hx fun t ρ1 hd v F1 H1 As1 env1 st1 pu1 r1 => ?_
  split at hd
  · cases hd
    rw [Rep] at r1
    exact ⟨_, r1, post F1 H1 As1 env1 st1 pu1⟩
  · cases hd
theorem seqO {β : Type} {σ : L2.St} {F H : Hp} {ρ : Rho} {As : Ads} {k : Option Int → Rho → Option (Out β)} {o : Out β} {Q : Option Int → Hp → Prop} (env : Env C F H σ ρ As) (hd : bnd l k ρ = some o) (hx : ∀ x ρ', o = .exc x ρ' → PostX C E σ F H As x ρ')
    (hk : ∀ i ρ1, k i ρ1 = some o → ∀ F1 H1 As1, Env C F1 H1 σ ρ1 As1 → Step F H (Ow As) F1 H1 (Ow As1) → Pur p ρ ρ1 As As1 H H1 → Q i H1) : tO C E p l σ H Q := by
  rcases bnd_cases hd with ⟨b, ρ', q1, hd⟩ | ⟨x, ρ', q1, rfl⟩
  · exact ⟨F, ρ, As, _, env, q1, hk b ρ' hd⟩
  · exact ⟨F, ρ, As, _, env, q1, hx x ρ' rfl⟩
/-- what a slice of a frozen value is -/
def rSlc (C : Ctx) : V → Option Int → Option Int → Hp → VK → Prop := fun x i j H Q => ∃ F t u, Same F H ∧ Rep C F t x ∧ slcT t i j = some u ∧ NewQ C F H u Q
theorem cut_reps {F : Hp} {ts : List T} {xs : List V} (r : Reps C F ts xs) (i j : Option Int) : Reps C F (cutT ts i j) (cutV xs i j) := by
  unfold cutT cutV
  rw [r.length]
  exact (r.drop _).take _
theorem sl_T (hK : C.K = X.K) : SlR X (rSlc C) := by
  intro pins s σ H x v vl vu i j sl Q I rx hs pl pu h
  obtain ⟨F, t, u, sm, r, hg, q⟩ := h
  unfold slcT at hg
  split at hg
  · cases hg
    rw [Rep] at r
    obtain ⟨_, a, xs, rfl, hn, hr⟩ := r
    exact sl_list pins s σ H _ v vl vu i j sl Q I rx hs pl pu ⟨a, xs, rfl, SqL.of (sm _ _ hn), fun p hp => q.lst sm hp (cut_reps hr i j)⟩
  · split at hg
    · rename_i hz
      cases hg
      rw [Rep] at r; subst r
      exact sl_str pins s σ H _ v vl vu i j sl Q I rx hs pl pu ⟨_, rfl, hz, q.atom sm (Rep.str.mpr rfl)⟩
    · cases hg
  · split at hg
    · cases hg
    · rename_i hw
      cases hg
      rw [Rep] at r
      obtain ⟨_, a, xs, rfl, hn, hr⟩ := r
      exact sl_tup pins s σ H _ v vl vu i j sl Q I rx hs pl pu ⟨a, xs, rfl, hK ▸ NodeR.mono (C := C) (k := .tup) sm hn, by rw [← hr.length]; exact hw, fun p hp => q.tup sm hp (cut_reps hr i j)⟩
  · cases hg
theorem R_slc (hK : C.K = X.K) (ha : PE X a (tV C E p d)) (hl : PO X lo (tO C E p l)) (hh : PO X hi (tO C E p h)) : PE X (.Subscript a (.Slice lo hi none p2) pos) (tR C E p (dSlc d l h)) :=
  PE_imp (pe_slice (sl_T hK) ha hl hh) fun σ H Q ⟨F, ρ, As, o, env, hd, post⟩ => by
    refine seqV env hd post.xx fun t ρ1 hd v F1 H1 As1 env1 st1 pu1 r1 => seqO env1 hd (fun e ρ' h => (post.xx e ρ' h).later st1) fun i ρ2 hd F2 H2 As2 env2 st2 pu2 => seqO env2 hd (fun e ρ' h => (post.xx e ρ' h).later (st1.trans st2)) fun j ρ3 hd F3 H3 As3 env3 st3 pu3 => ?_
    split at hd
    · rename_i u hu
      cases hd
      exact ⟨F3, t, u, env3.sub, r1.mono (st2.ff.trans st3.ff), hu, end_new env3 (st1.trans (st2.trans st3)) (pu1.trans (pu2.trans pu3)) post⟩
    · cases hd
end
end MP

namespace MP
open PySem L2

/-! ### dict displays with constant names -/
abbrev DPr := Rho → Option (Out (List T))
def dPr : List DV → DPr
  | [] => fun ρ => some (.ok [] ρ)
  | d :: r => bnd d fun t => bnd (dPr r) fun ts ρ => some (.ok (t :: ts) ρ)
def dDct (ks : List Str) (ds : List DV) : DR := bnd (dPr ds) fun ts ρ => some (.ok (.tv (.nd true (.dct (ks.map Sum.inr)) ts)) ρ)
def trsOf (C : Ctx) (E : XW) (p : Bool) : List Str → List DV → List (TE × TE)
  | k :: ks, d :: ds => (tC (.str k), tV C E p d) :: trsOf C E p ks ds
  | _, _ => []
section
variable {C : Ctx} {X : Cx} {E : XW} {p : Bool} {pos : Pos}
theorem pr_ok {σ : L2.St} : ∀ {ks : List Str} {ds : List DV} {F H : Hp} {ρ : Rho} {As : Ads} {o : Out (List T)} {R : List (V × V) → Hp → Prop}, ks.length = ds.length → Env C F H σ ρ As → dPr ds ρ = some o →
    (∀ x ρ', o = .exc x ρ' → PostX C E σ F H As x ρ') →
    (∀ ts ρ' xs F' H' As', o = .ok ts ρ' → Env C F' H' σ ρ' As' → Step F H (Ow As) F' H' (Ow As') → Pur p ρ ρ' As As' H H' → Reps C F' ts xs → ts.length = ks.length → R ((ks.zip xs).map fun kx => (.str kx.1, kx.2)) H') → tPairs (trsOf C E p ks ds) σ H R
  | [], [], F, H, ρ, As, o, R, _, env, hd, hx, hk => by
    cases hd
    exact hk [] ρ [] F H As rfl env Step.refl Pur.refl (by rw [Reps]) rfl
  | [], _ :: _, _, _, _, _, _, _, h, _, _, _, _ => by simp at h
  | _ :: _, [], _, _, _, _, _, _, h, _, _, _, _ => by simp at h
  | k :: ks, d :: ds, F, H, ρ, As, o, R, hl, env, hd, hx, hk => by
    show tV C E p d σ H _
    refine seqV env hd hx fun t ρ1 hd v F1 H1 As1 env1 st1 pu1 r1 => ?_
    rcases bnd_cases hd with ⟨ts, ρ2, q1, hd⟩ | ⟨x, ρ2, q1, rfl⟩
    · cases hd
      refine pr_ok (by simpa using hl) env1 q1 (fun x ρ' e => by cases e) fun ts' ρ' xs F2 H2 As2 e env2 st2 pu2 r2 hl2 => ?_
      cases e
      exact hk (t :: ts) ρ2 (v :: xs) F2 H2 As2 rfl env2 (st1.trans st2) (pu1.trans pu2) (by rw [Reps]; exact ⟨v, xs, rfl, r1.mono st2.ff, r2⟩) (by simp [hl2])
    · exact pr_ok (by simpa using hl) env1 q1 (fun y ρ' e => by cases e; exact (hx _ _ rfl).later st1) fun ts' ρ' xs F2 H2 As2 e => by cases e
theorem putK_new {κ : Type} [DecidableEq κ] {k : κ} {v : V} {kvs : List (κ × V)} (h : k ∉ kvs.map (·.1)) : putK kvs k v = kvs ++ [(k, v)] := by
  unfold putK
  rw [if_neg]
  intro q
  simp only [List.any_eq_true, decide_eq_true_eq] at q
  obtain ⟨x, hx, rfl⟩ := q
  exact h (List.mem_map_of_mem hx)
theorem mergeK_new : ∀ {more kvs : List (Key × V)}, (kvs.map (·.1) ++ more.map (·.1)).Nodup → mergeK kvs more = kvs ++ more
  | [], kvs, _ => by simp [mergeK]
  | (k, v) :: r, kvs, h => by
    have h1 : k ∉ kvs.map (·.1) := fun q => by
      rw [List.nodup_append] at h
      exact h.2.2 k q k (by simp) rfl
    show mergeK (putK kvs k v) r = _
    rw [putK_new h1, mergeK_new (by simpa using h)]
    simp
theorem nodup_inr : ∀ {ks : List Str}, ks.Nodup → (ks.map (Sum.inr : Str → Key)).Nodup
  | [], _ => by simp
  | k :: ks, h => by
    rw [List.nodup_cons] at h
    rw [List.map_cons, List.nodup_cons]
    refine ⟨fun q => ?_, nodup_inr h.2⟩
    obtain ⟨x, hx, e⟩ := List.mem_map.mp q
    cases e
    exact h.1 hx
theorem R_dct {keys : List (Option Expr)} {values : List Expr} {ks : List Str} {ds : List DV} (h : PPs X pos keys values (trsOf C E p ks ds)) (hl : ks.length = ds.length) (nd : ks.Nodup) (hall : keys.all (·.isSome) = true) (hl2 : keys.length = values.length) (h0 : keys ≠ []) (h15 : keys.length ≤ 15) (h3 : ks.length ≤ 15) :
    PE X (.Dict keys values pos) (tR C E p (dDct ks ds)) := PE_imp (pe_disp h hall hl2 h0 h15) fun σ H Q ⟨F, ρ, As, o, env, hd, post⟩ => fun q nq => by
  have g := Grow.fresh (q := q) (o := .dK []) env.sub nq
  have e1 := g.env env
  have st0 : Step F H (Ow As) F (upd H q (.dK [])) (Ow As) := g.step
  have nO : ¬ Ow As q := fun ⟨i, hi⟩ => by
    obtain ⟨_, u, hu⟩ := env.has hi
    rw [nq] at hu; cases hu
  rcases bnd_cases hd with ⟨ts, ρ2, q1, hd⟩ | ⟨x, ρ2, q1, rfl⟩
  · cases hd
    refine pr_ok hl e1 q1 (fun x ρ' e => by cases e) fun ts' ρ' xs F2 H2 As2 e env2 st2 pu2 r2 hl2 => ?_
    cases e
    obtain ⟨k1, k2⟩ := st2.keep q _ upd_same nO fun ps z => by cases z
    have fq : F2 q = none := by
      rw [k2]
      cases z : F q with
      | none => rfl
      | some u => rw [env.sub _ _ z] at nq; cases nq
    have nO2 : ¬ Ow As2 q := fun z => by
      rcases st2.own q z with y | y
      · exact nO y
      · rw [upd_same] at y; cases y
    have hlx : xs.length = ks.length := by rw [← r2.length, hl2]
    refine ⟨k1, (ks.map (Sum.inr : Str → Key)).zip xs, ?_, by simp [hlx]; omega, ?_⟩
    · simp only [List.zip_map_left, List.map_map]
      rfl
    · have hm : mergeK [] ((ks.map (Sum.inr : Str → Key)).zip xs) = (ks.map (Sum.inr : Str → Key)).zip xs := by
        rw [mergeK_new]
        · rfl
        · simp only [List.map_nil, List.nil_append]
          rw [List.map_fst_zip (by simp [hlx])]
          exact nodup_inr nd
      rw [hm]
      have s2 : Same F2 (upd H2 q (.dK ((ks.map (Sum.inr : Str → Key)).zip xs))) := fun b u hb => by
        rw [upd_ne (by intro z; subst z; rw [fq] at hb; cases hb)]
        exact env2.sub _ _ hb
      refine post _ F2 _ As2 (env2.grow (Same.refl F2) s2 (fun i a ha => ⟨upd_ne (fun z => nO2 ⟨i, z ▸ ha⟩), (env2.has ha).1⟩) (env2.ht.upd fun ps z => by rw [k1] at z; cases z)) ?_ ?_ ?_
      · refine ⟨st2.ff, fun b u hb hn hu => ?_, fun b hb => ?_, fun b ps hb => ?_⟩
        · have hbq : b ≠ q := fun z => by rw [z, nq] at hb; cases hb
          obtain ⟨w1, w2⟩ := st2.keep b u (by rw [upd_ne hbq]; exact hb) hn hu
          exact ⟨by rw [upd_ne hbq]; exact w1, w2⟩
        · rcases st2.own b hb with y | y
          · exact .inl y
          · refine .inr ?_
            by_cases hbq : b = q
            · rw [hbq]; exact nq
            · rw [upd_ne hbq] at y; exact y
        · have hbq : b ≠ q := fun z => by rw [z, nq] at hb; cases hb
          obtain ⟨ps', w1, w2⟩ := st2.tab b ps (by rw [upd_ne hbq]; exact hb)
          exact ⟨ps', by rw [upd_ne hbq]; exact w1, w2⟩
      · intro hp
        obtain ⟨w1, w2⟩ := pu2 hp
        refine ⟨w1, fun b u hb hu => ?_⟩
        have hbq : b ≠ q := fun z => by rw [z, nq] at hb; cases hb
        rw [upd_ne hbq]
        exact w2 _ _ (by rw [upd_ne hbq]; exact hb) hu
      · refine ⟨[q], ?_, by simp, fun a ha => ?_⟩
        · rw [Own]
          refine ⟨q, [], xs, _, rfl, rfl, fq, upd_same, ⟨by simp [hlx], rfl⟩, Owns.of_reps r2⟩
        · simp only [List.mem_singleton] at ha
          subst ha
          exact ⟨nO2, .inr nq⟩
  · exact pr_ok hl e1 q1 (fun y ρ' e => by cases e; exact PostX.later post st0) fun ts' ρ' xs F2 H2 As2 e => by cases e
end

/-! ### a program's defs -/
structure Fam (ι : Type) where
  nm : ι → Str
  st : ι → Stmt
  ps : ι → List Str
  io : ι → Option Nat
  nb : List Str
structure FamTop {ι : Type} (D : Fam ι) (K : PySem.W.Frag) (mg : Str → Option Value) (ad : ι → Addr) (fdt : ι → FuncData) : Prop where
  fn : ∀ i, Fun K (D.nm i) (D.nm i) (D.st i) (ad i) (fdt i)
  mgf : ∀ i, mg (D.nm i) = some (.ref (ad i))
  bn : ∀ i, Binds K (fdt i) (D.ps i) []
  nob : ∀ x ∈ D.nb, mg x = none
structure FamOk {ι : Type} (D : Fam ι) (P : Program) (w : World) (K : PySem.W.Frag) (mg : Str → Option Value) (base : Heap) (C : Ctx) (ad : ι → Addr) (fdt : ι → FuncData) (k : Nat) (den : ι → DR) : Prop where
  ok : ∀ i, FnOk P w K mg base (L2.CX P w) k (ad i) (fdt i) (D.ps i) (spD C ⟨(D.ps i).length, D.io i, den i⟩)
theorem FamOk.zero {ι : Type} {D : Fam ι} {P : Program} {w : World} {K : PySem.W.Frag} {mg : Str → Option Value} {base : Heap} {C : Ctx} {ad : ι → Addr} {fdt : ι → FuncData} : FamOk D P w K mg base C ad fdt 0 (fun _ _ => none) := by
  refine ⟨fun i => ⟨fun vs H Q E h => h.1, fun A outer s H args us vs Q E _ _ _ _ h => ?_⟩⟩
  obtain ⟨_, F, ρ, As, o, _, hd, _⟩ := h
  cases hd
def dLev {ι : Type} (stp : (ι → DR) → ι → DR) : Nat → ι → DR
  | 0 => fun _ _ => none
  | k + 1 => stp (dLev stp k)
theorem FamOk.lev {ι : Type} {D : Fam ι} {P : Program} {w : World} {K : PySem.W.Frag} {mg : Str → Option Value} {base : Heap} {C : Ctx} {ad : ι → Addr} {fdt : ι → FuncData} {stp : (ι → DR) → ι → DR}
    (h : ∀ k r, FamOk D P w K mg base C ad fdt k r → FamOk D P w K mg base C ad fdt (k + 1) (stp r)) : ∀ k, FamOk D P w K mg base C ad fdt k (dLev stp k)
  | 0 => FamOk.zero
  | k + 1 => h k _ (FamOk.lev h k)

def dArgs (p : Bool) (io : Option Nat) : Nat → List DR → DAo
  | _, [] => doNil
  | k, d :: r => doCons (dArg p (io == some k) d) (dArgs p io (k + 1) r)
def dVs : List DV → DA
  | [] => dNil
  | d :: r => dCons d (dVs r)

def dSs : List DS → DS
  | [] => dNx
  | d :: r => dSeq d (dSs r)
theorem ru1 {k : Nat} {A : Around} (h : Room k A) : A.units + 1 < cLine := by have := h.un; omega
theorem ru0 {k : Nat} {A : Around} (h : Room k A) : A.units < cLine := by have := h.un; omega
theorem px_top {P : Program} {w : World} {K : PySem.W.Frag} {mg : Str → Option Value} {base : Heap} {N : List Str} {qual : Str} {sc : Scope} {f : Addr} {cdv : Value} {A : Around} {outer : List PySem.Env} {s : Shared} {H : Hp} {E : XK} :
    ∀ σ, PassesAt (L2.CX P w) (cxOf (L2.CX P w) P w K mg base N qual sc f cdv A outer s H E) σ (WE (fun e d _ H' => E e d H') σ) := fun σ => passAt (takes_of rfl rfl rfl rfl) σ
theorem Ts_one {C : Ctx} {X : Cx} {E : XW} {p : Bool} {a : Expr} {c : DT} (h : PT X a (tT C E p c)) : PTs X [a] (tT C E p c) := pts_one h
/-- the store without the tables of codes -/
def noTab (H : Hp) : Hp := fun b => match H b with
  | some (.tbl _) => none
  | u => u
theorem noTab_sub {H : Hp} : Same (noTab H) H := fun b u h => by
  unfold noTab at h
  split at h
  · cases h
  · exact h
theorem noTab_n {H : Hp} : SameN H (noTab H) := fun b u h n => by
  unfold noTab
  rw [h]
  split
  · rename_i ps z; cases z; exact absurd rfl (n ps)
  · rfl
theorem noTab_ne {H : Hp} : ∀ b ps, noTab H b ≠ some (.tbl ps) := fun b ps h => by
  unfold noTab at h
  split at h
  · cases h
  · rename_i n; exact n ps h
/-- what law(script) promises -/
def spLaw (K : PySem.W.Frag) (tb : Addr → Prop := fun _ => False) : Sp := fun vs H Q _ => (∀ P, tb P → GxR.TabG H P) ∧ ∃ (a : Addr) (ns : List Int), vs = [.ref a] ∧ SqL K H a (ns.map V.int) ∧ ns.length ≤ 63 ∧ ∀ H', Q (.bl true) H'
theorem law_sp {C : Ctx} {d : DR} (h : ∀ ns : List Int, ns.length ≤ 63 → ∃ ρ', d [some (.nd false .scr (ns.map T.int))] = some (.ok (.tv (.bl true)) ρ')) (vs : List V) (H : Hp) (Q : VK) (E : XK) (hs : spLaw C.K C.tb vs H Q E) : spD C ⟨1, none, d⟩ vs H Q E := by
  obtain ⟨ht, a, ns, rfl, hS, hl, q⟩ := hs
  obtain ⟨ρ', hd⟩ := h ns hl
  refine ⟨rfl, noTab H, _, fun _ => [], _, ⟨noTab_sub, rfl, fun i t hi => ?_, fun i _ => rfl, fun _ => List.nodup_nil, fun i j a ha => (by cases ha), ⟨noTab_ne, ht⟩⟩, hd, fun v F' H' As' env st pu r => ?_⟩
  · cases i with
    | zero =>
      simp at hi
      subst hi
      refine ⟨.ref a, rfl, Own.of_rep (Rep.monoN (F := H) noTab_n ?_)⟩
      rw [Rep]
      exact ⟨rfl, a, _, rfl, hS, reps_ints ns⟩
    | succ i => simp at hi
  · obtain ⟨A, ho, _, _⟩ := r
    rw [Own] at ho
    rw [Rep.bl.mp ho.2]
    exact q H'
/-- no exception leaves a block -/
theorem px_blk {X : Cx} {s : Shared} {H : Hp} {sc : Scope} {e : PySem.Env} {fp : List Addr} {σ : L2.St} : PassesAt (L2.CX X.prog X.w) (X.blk s H sc e fp) σ (WE E0 σ) := fun pins H' s1 e1 s' I h => by
  obtain ⟨a, B, H2, cls, d, _, _, _, _, _, _, _, h⟩ := h
  exact h.elim

/-! ### built-ins by their names -/
section
variable {C : Ctx} {X : Cx} {E : XW} {p : Bool} {a b : Expr} {es : List Expr} {d : DV} {ds : DA} {pos px : Pos}
theorem b_len (hK : C.K = X.K) (hg : Gl X "len") (hm : X.mg "len" = none) (ha : PE X a (tH C E p d)) (hs : noStar a = true) : PE X (.Call (.Name "len" px) [a] [] pos) (tR C E p (dU1 lenT d)) := R_bi1 (call_lenT hK) hg hm rfl ha hs (by decide +kernel) (by decide +kernel)
theorem b_int (hg : Gl X "int") (hm : X.mg "int" = none) (ha : PE X a (tH C E p d)) (hs : noStar a = true) : PE X (.Call (.Name "int" px) [a] [] pos) (tR C E p (dU1 intT d)) := R_ty1 call_intT hg hm rfl ha hs (by decide +kernel) (by decide +kernel)
theorem b_str (hg : Gl X "str") (hm : X.mg "str" = none) (ha : PE X a (tH C E p d)) (hs : noStar a = true) : PE X (.Call (.Name "str" px) [a] [] pos) (tR C E p (dU1 strT d)) := R_ty1 call_strT hg hm rfl ha hs (by decide +kernel) (by decide +kernel)
theorem b_abs (hg : Gl X "abs") (hm : X.mg "abs" = none) (ha : PE X a (tH C E p d)) (hs : noStar a = true) : PE X (.Call (.Name "abs" px) [a] [] pos) (tR C E p (dU1 absT d)) := R_bi1 call_absT hg hm rfl ha hs (by decide +kernel) (by decide +kernel)
theorem b_sum (hc : X.calm = true) (hg : Gl X "sum") (hm : X.mg "sum" = none) (ha : PE X a (tH C E p d)) (hs : noStar a = true) : PE X (.Call (.Name "sum" px) [a] [] pos) (tR C E p (dU1 sumT d)) := R_bi1 (call_sumT hc) hg hm rfl ha hs (by decide +kernel) (by decide +kernel)
theorem b_sorted (hc : X.calm = true) (hg : Gl X "sorted") (hm : X.mg "sorted" = none) (ha : PE X a (tH C E p d)) (hs : noStar a = true) : PE X (.Call (.Name "sorted" px) [a] [] pos) (tR C E p (dU1 sortedT d)) := R_bi1 (call_sortedT hc) hg hm rfl ha hs (by decide +kernel) (by decide +kernel)
theorem b_max1 (hc : X.calm = true) (hg : Gl X "max") (hm : X.mg "max" = none) (ha : PE X a (tH C E p d)) (hs : noStar a = true) : PE X (.Call (.Name "max" px) [a] [] pos) (tR C E p (dU1 (mxT maxZ) d)) := R_bi1 (call_max1T hc) hg hm rfl ha hs (by decide +kernel) (by decide +kernel)
theorem b_min1 (hc : X.calm = true) (hg : Gl X "min") (hm : X.mg "min" = none) (ha : PE X a (tH C E p d)) (hs : noStar a = true) : PE X (.Call (.Name "min" px) [a] [] pos) (tR C E p (dU1 (mxT minZ) d)) := R_bi1 (call_min1T hc) hg hm rfl ha hs (by decide +kernel) (by decide +kernel)
theorem b_max2 (hc : X.calm = true) (hg : Gl X "max") (hm : X.mg "max" = none) (ha : PA X [a, b] (tAr C E p ds)) (hs : [a, b].all noStar = true) : PE X (.Call (.Name "max" px) [a, b] [] pos) (tR C E p (dUn max2T ds)) := R_biN (call_max2T hc) hg hm rfl ha hs (by decide +kernel) (by decide +kernel)
theorem b_min2 (hc : X.calm = true) (hg : Gl X "min") (hm : X.mg "min" = none) (ha : PA X [a, b] (tAr C E p ds)) (hs : [a, b].all noStar = true) : PE X (.Call (.Name "min" px) [a, b] [] pos) (tR C E p (dUn min2T ds)) := R_biN (call_min2T hc) hg hm rfl ha hs (by decide +kernel) (by decide +kernel)
theorem b_list (hK : C.K = X.K) (hg : Gl X "list") (hm : X.mg "list" = none) (ha : PA X (a :: es) (tAr C E p ds)) (hs : (a :: es).all noStar = true) : PE X (.Call (.Name "list" px) (a :: es) [] pos) (tR C E p (dUn listT ds)) := R_tyN (call_listT hK) hg hm rfl ha hs (by decide +kernel) (by decide +kernel)
theorem b_tuple (hK : C.K = X.K) (hg : Gl X "tuple") (hm : X.mg "tuple" = none) (ha : PA X (a :: es) (tAr C E p ds)) (hs : (a :: es).all noStar = true) : PE X (.Call (.Name "tuple" px) (a :: es) [] pos) (tR C E p (dUn tupleT ds)) := R_tyN (call_tupleT' hK) hg hm rfl ha hs (by decide +kernel) (by decide +kernel)
theorem b_dict (hg : Gl X "dict") (hm : X.mg "dict" = none) (ha : PA X (a :: es) (tAr C E p ds)) (hs : (a :: es).all noStar = true) : PE X (.Call (.Name "dict" px) (a :: es) [] pos) (tR C E p (dUn dictT ds)) := R_tyN call_dictT hg hm rfl ha hs (by decide +kernel) (by decide +kernel)
end
end MP

namespace MP
open PySem L2
open PySem.SeqAt (EqP EqAt EqIn RcAt RcNeAt)
open PySem.W (EqTree)

/-! ### a dict against a value of another kind -/
section
open PySem.AutoSeq1 (wpAny_loadPart')
open PySem.MeetsSeq PySem.MeetsSeq2 PySem.MeetsSeq3 PySem.SeqRoads2 PySem.SeqAt
abbrev DctAt (h : Heap) (a : Addr) (es : Array DictEntry) (n : Nat) (d : Option Addr) (z : Array (Option Value)) : Prop := h.get? a = some { cls := .type "dict", dict := d, data := .dict es n, slots := z }
def IsDct (h : Heap) (a : Addr) : Prop := ∃ es n d z, DctAt h a es n d z
theorem IsDct.ty {s : Shared} {a : Addr} (h : IsDct s.heap a) : s.TypeIs (.ref a) "dict" := by
  obtain ⟨es, n, d, z, h⟩ := h
  exact ⟨_, h, rfl⟩
theorem IsDct.of {prog : Program} {w : World} {K : Type} [DecidableEq K] {knd : KeyKind prog w K} {h : Heap} {a : Addr} {kvs : List (K × Value)} (d : h.DictOf knd a kvs) : IsDct h a := by
  obtain ⟨⟨c, dd, dt, z⟩, es, ep, h1, h2, h3, _⟩ := d
  have h2 : c = .type "dict" := by first | exact h2.1 | exact h2 | simpa using h2
  simp only at h3
  subst h2 h3
  exact ⟨_, _, _, _, h1⟩

theorem dct_eq_decl {prog : Program} {w : World} {A : Around} {E : Value → Shared → Prop} {s : Shared} {d : Addr} {x : Value} {T : String} {Q : Value → Shared → Prop} (hd : IsDct s.heap d) (hx : s.TypeIs x T) (hs : isSubtype (.type T) (.type "dict") = pure false) (hq : Q .notImplemented s) :
    wpAny (model prog w) A (call (.builtin "dict.__eq__") [.ref d, x]) Q E s := by
  refine wpAny_call_entry PySem.F.slot_dict_eq hd.ty PySem.F.entry_dict_eq ?_ (PySem.F.args_dict_eq_2 _ _)
  show wpAny _ _ (Builtin.Dict.dictSlotArgs "__eq__" ⟨[.ref d, x], []⟩ >>= _) _ _ s
  refine wpAny_bind ?_
  unfold Builtin.Dict.dictSlotArgs
  refine wpAny_bind (wpAny_notOrdered_dict hd.ty ?_)
  show wpAny _ _ (pure (Value.ref d, x)) _ _ s
  refine wpAny_pure ?_
  refine wpAny_bind (wpAny_isInstance hx hs ?_)
  simp only [Bool.not_false, if_true]
  refine wpAny_bind (wpAny_rule ?_)
  first
    | exact wpAny_pure ⟨_, rfl, hq⟩
    | exact wpAny_bind (wpAny_pure (wpAny_pure ⟨_, rfl, hq⟩))
    | exact wpAny_bind (wpAny_pure ⟨_, rfl, hq⟩)
theorem bool_eq_dct (b : Bool) (l : Addr) (es : Array DictEntry) (n : Nat) (dd : Option Addr) (sl : Array (Option Value)) :
    Meets (Builtin.«int.__eq__» ⟨[.bool b, .ref l], []⟩) (fun _ R s => DctAt s.heap l es n dd sl ∧ R (.ok (.ret .notImplemented)) s) :=
  .of_wp fun prog w A R s h => by obtain ⟨hp, g, d, tk, os⟩ := s; obtain ⟨hl, h⟩ := h; wp_walk using wpAny_loadPart' hl, wpAny_load hl; exact ⟨_, rfl, h⟩
theorem int_eq_dct (b : Int) (u : Tok) (l : Addr) (es : Array DictEntry) (n : Nat) (dd : Option Addr) (sl : Array (Option Value)) :
    Meets (Builtin.«int.__eq__» ⟨[.int b u, .ref l], []⟩) (fun _ R s => DctAt s.heap l es n dd sl ∧ R (.ok (.ret .notImplemented)) s) :=
  .of_wp fun prog w A R s h => by obtain ⟨hp, g, d, tk, os⟩ := s; obtain ⟨hl, h⟩ := h; wp_walk using wpAny_loadPart' hl, wpAny_load hl; exact ⟨_, rfl, h⟩
theorem str_eq_dct (b : Str) (u : Tok) (l : Addr) (es : Array DictEntry) (n : Nat) (dd : Option Addr) (sl : Array (Option Value)) :
    Meets (Builtin.«str.__eq__» ⟨[.str b u, .ref l], []⟩) (fun _ R s => DctAt s.heap l es n dd sl ∧ R (.ok (.ret .notImplemented)) s) :=
  .of_wp fun prog w A R s h => by obtain ⟨hp, g, d, tk, os⟩ := s; obtain ⟨hl, h⟩ := h; wp_walk using wpAny_loadPart' hl, wpAny_load hl; exact ⟨_, rfl, h⟩
theorem list_eq_dct (l b : Addr) (items : Array Value) (n n2 : Nat) (dd dd2 : Option Addr) (sl sl2 : Array (Option Value)) (es : Array DictEntry) :
    Meets (Builtin.«list.__eq__» ⟨[.ref l, .ref b], []⟩) (fun _ R s => s.heap.get? l = some { cls := .type "list", dict := dd, data := .seq items n, slots := sl } ∧ DctAt s.heap b es n2 dd2 sl2 ∧ R (.ok (.ret .notImplemented)) s) :=
  .of_wp fun prog w A R s h => by obtain ⟨hp, g, d, tk, os⟩ := s; obtain ⟨hl, hb, h⟩ := h; have f1 := F.sub_dict_list; wp_walk using wpAny_loadPart' hl, wpAny_loadPart' hb; exact ⟨_, rfl, h⟩
theorem tuple_eq_dct (l b : Addr) (items : Array Value) (n n2 : Nat) (dd dd2 : Option Addr) (sl sl2 : Array (Option Value)) (es : Array DictEntry) :
    Meets (Builtin.«tuple.__eq__» ⟨[.ref l, .ref b], []⟩) (fun _ R s => s.heap.get? l = some { cls := .type "tuple", dict := dd, data := .seq items n, slots := sl } ∧ DctAt s.heap b es n2 dd2 sl2 ∧ R (.ok (.ret .notImplemented)) s) :=
  .of_wp fun prog w A R s h => by obtain ⟨hp, g, d, tk, os⟩ := s; obtain ⟨hl, hb, h⟩ := h; have f1 := F.sub_dict_tuple; wp_walk using wpAny_loadPart' hl, wpAny_loadPart' hb; exact ⟨_, rfl, h⟩
section
variable {A : Around} {s : Shared}
theorem dct_none_eq {l : Addr}  (hd : IsDct s.heap l) (hu : A.units < cLine) : RcAt A s (.ref l) .none false := fun prog w E Q h => by
  have hd' := hd
  obtain ⟨es, n, dd, sl, hd⟩ := hd
  exact rc_eq_decline_or (k := false) hd'.ty rfl (by decide) F.sub_NoneType_dict F.slot_dict_eq F.slot_NoneType_eq_refl
    (fun _ hq => dct_eq_decl hd' rfl F.sub_NoneType_dict hq)
    (fun _ hq => call_gives F.slot_NoneType_eq_refl rfl F.entry_NoneType_eq (F.args_NoneType_eq_2 _ _) (NoneType___eq___none_ref_0 l) hq)
    (fun _ hq => wpAny_of_eq (rfl : isSame (.ref l) .none = pure false) hq) (.inr hu) h
theorem none_dct_eq {l : Addr}  (hd : IsDct s.heap l) (hu : A.units < cLine) : RcAt A s .none (.ref l) false := fun prog w E Q h => by
  have hd' := hd
  obtain ⟨es, n, dd, sl, hd⟩ := hd
  exact rc_eq_decline_or (k := false) rfl hd'.ty (by decide) F.sub_dict_NoneType F.slot_NoneType_eq F.slot_dict_eq_refl
    (fun _ hq => call_gives F.slot_NoneType_eq rfl F.entry_NoneType_eq (F.args_NoneType_eq_2 _ _) (NoneType___eq___none_ref_0 l) hq)
    (fun _ hq => dct_eq_decl hd' rfl F.sub_NoneType_dict hq)
    (fun _ hq => wpAny_of_eq (rfl : isSame .none (.ref l) = pure false) hq) (.inr hu) h
theorem dct_bool_eq {l : Addr} (b : Bool) (hd : IsDct s.heap l) (hu : A.units < cLine) : RcAt A s (.ref l) (.bool b) false := fun prog w E Q h => by
  have hd' := hd
  obtain ⟨es, n, dd, sl, hd⟩ := hd
  exact rc_eq_decline_or (k := false) hd'.ty rfl (by decide) F.sub_bool_dict F.slot_dict_eq F.slot_bool_eq_refl
    (fun _ hq => dct_eq_decl hd' rfl F.sub_bool_dict hq)
    (fun _ hq => call_meets F.slot_bool_eq_refl rfl F.entry_int_eq (F.args_int_eq_2 _ _) (bool_eq_dct b l es n dd sl) ⟨hd, hq⟩)
    (fun _ hq => wpAny_of_eq (rfl : isSame (.ref l) (.bool b) = pure false) hq) (.inr hu) h
theorem bool_dct_eq {l : Addr} (b : Bool) (hd : IsDct s.heap l) (hu : A.units < cLine) : RcAt A s (.bool b) (.ref l) false := fun prog w E Q h => by
  have hd' := hd
  obtain ⟨es, n, dd, sl, hd⟩ := hd
  exact rc_eq_decline_or (k := false) rfl hd'.ty (by decide) F.sub_dict_bool F.slot_bool_eq F.slot_dict_eq_refl
    (fun _ hq => call_meets F.slot_bool_eq rfl F.entry_int_eq (F.args_int_eq_2 _ _) (bool_eq_dct b l es n dd sl) ⟨hd, hq⟩)
    (fun _ hq => dct_eq_decl hd' rfl F.sub_bool_dict hq)
    (fun _ hq => wpAny_of_eq (rfl : isSame (.bool b) (.ref l) = pure false) hq) (.inr hu) h
theorem dct_int_eq {l : Addr} (b : Int) (u : Tok) (hd : IsDct s.heap l) (hu : A.units < cLine) : RcAt A s (.ref l) (.int b u) false := fun prog w E Q h => by
  have hd' := hd
  obtain ⟨es, n, dd, sl, hd⟩ := hd
  exact rc_eq_decline_or (k := false) hd'.ty (typeIs_int s b u) (by decide) F.sub_int_dict F.slot_dict_eq F.slot_int_eq_refl
    (fun _ hq => dct_eq_decl hd' (typeIs_int s b u) F.sub_int_dict hq)
    (fun _ hq => call_meets F.slot_int_eq_refl (typeIs_int s b u) F.entry_int_eq (F.args_int_eq_2 _ _) (int_eq_dct b u l es n dd sl) ⟨hd, hq⟩)
    (fun _ hq => wpAny_of_eq (rfl : isSame (.ref l) (.int b u) = pure false) hq) (.inr hu) h
theorem int_dct_eq {l : Addr} (b : Int) (u : Tok) (hd : IsDct s.heap l) (hu : A.units < cLine) : RcAt A s (.int b u) (.ref l) false := fun prog w E Q h => by
  have hd' := hd
  obtain ⟨es, n, dd, sl, hd⟩ := hd
  exact rc_eq_decline_or (k := false) (typeIs_int s b u) hd'.ty (by decide) F.sub_dict_int F.slot_int_eq F.slot_dict_eq_refl
    (fun _ hq => call_meets F.slot_int_eq (typeIs_int s b u) F.entry_int_eq (F.args_int_eq_2 _ _) (int_eq_dct b u l es n dd sl) ⟨hd, hq⟩)
    (fun _ hq => dct_eq_decl hd' (typeIs_int s b u) F.sub_int_dict hq)
    (fun _ hq => wpAny_of_eq (rfl : isSame (.int b u) (.ref l) = pure false) hq) (.inr hu) h
theorem dct_str_eq {l : Addr} (b : Str) (u : Tok) (hd : IsDct s.heap l) (hu : A.units < cLine) : RcAt A s (.ref l) (.str b u) false := fun prog w E Q h => by
  have hd' := hd
  obtain ⟨es, n, dd, sl, hd⟩ := hd
  exact rc_eq_decline_or (k := false) hd'.ty (typeIs_str s b u) (by decide) F.sub_str_dict F.slot_dict_eq F.slot_str_eq_refl
    (fun _ hq => dct_eq_decl hd' (typeIs_str s b u) F.sub_str_dict hq)
    (fun _ hq => call_meets F.slot_str_eq_refl (typeIs_str s b u) F.entry_str_eq (F.args_str_eq_2 _ _) (str_eq_dct b u l es n dd sl) ⟨hd, hq⟩)
    (fun _ hq => wpAny_of_eq (rfl : isSame (.ref l) (.str b u) = pure false) hq) (.inr hu) h
theorem str_dct_eq {l : Addr} (b : Str) (u : Tok) (hd : IsDct s.heap l) (hu : A.units < cLine) : RcAt A s (.str b u) (.ref l) false := fun prog w E Q h => by
  have hd' := hd
  obtain ⟨es, n, dd, sl, hd⟩ := hd
  exact rc_eq_decline_or (k := false) (typeIs_str s b u) hd'.ty (by decide) F.sub_dict_str F.slot_str_eq F.slot_dict_eq_refl
    (fun _ hq => call_meets F.slot_str_eq (typeIs_str s b u) F.entry_str_eq (F.args_str_eq_2 _ _) (str_eq_dct b u l es n dd sl) ⟨hd, hq⟩)
    (fun _ hq => dct_eq_decl hd' (typeIs_str s b u) F.sub_str_dict hq)
    (fun _ hq => wpAny_of_eq (rfl : isSame (.str b u) (.ref l) = pure false) hq) (.inr hu) h
theorem dct_list_eq {l b : Addr} {items : Array Value} (hd : IsDct s.heap l) (hb : s.heap.IsList b items) (hu : A.units < cLine) : RcAt A s (.ref l) (.ref b) false := fun prog w E Q h => by
  have hd' := hd
  obtain ⟨es, n, dd, sl, hd⟩ := hd
  obtain ⟨⟨cls2, dd2, data2, sl2⟩, ho2, hc2, n2, hd2⟩ := id hb
  simp only at hc2 hd2
  subst hc2 hd2
  have hne : l ≠ b := fun e => by subst e; have hd : s.heap.get? l = _ := hd; rw [hd] at ho2; simp at ho2
  exact rc_eq_decline_or (k := false) hd'.ty ⟨_, ho2, rfl⟩ (by decide) F.sub_list_dict F.slot_dict_eq F.slot_list_eq_refl
    (fun _ hq => dct_eq_decl hd' ⟨_, ho2, rfl⟩ F.sub_list_dict hq)
    (fun _ hq => call_meets F.slot_list_eq_refl ⟨_, ho2, rfl⟩ F.entry_list_eq (F.args_list_eq_2 _ _) (list_eq_dct b l items n2 n dd2 dd sl2 sl es) ⟨ho2, hd, hq⟩)
    (fun _ hq => wpAny_isSame_ref_other hne hd ho2 (by simp) hq) (.inr hu) h
theorem list_dct_eq {l b : Addr} {items : Array Value} (hd : IsDct s.heap l) (hb : s.heap.IsList b items) (hu : A.units < cLine) : RcAt A s (.ref b) (.ref l) false := fun prog w E Q h => by
  have hd' := hd
  obtain ⟨es, n, dd, sl, hd⟩ := hd
  obtain ⟨⟨cls2, dd2, data2, sl2⟩, ho2, hc2, n2, hd2⟩ := id hb
  simp only at hc2 hd2
  subst hc2 hd2
  have hne : b ≠ l := fun e => by subst e; have hd : s.heap.get? b = _ := hd; rw [hd] at ho2; simp at ho2
  exact rc_eq_decline_or (k := false) ⟨_, ho2, rfl⟩ hd'.ty (by decide) F.sub_dict_list F.slot_list_eq F.slot_dict_eq_refl
    (fun _ hq => call_meets F.slot_list_eq ⟨_, ho2, rfl⟩ F.entry_list_eq (F.args_list_eq_2 _ _) (list_eq_dct b l items n2 n dd2 dd sl2 sl es) ⟨ho2, hd, hq⟩)
    (fun _ hq => dct_eq_decl hd' ⟨_, ho2, rfl⟩ F.sub_list_dict hq)
    (fun _ hq => wpAny_isSame_ref_other' hne ho2 hd (by simp) hq) (.inr hu) h
theorem dct_tuple_eq {l b : Addr} {items : Array Value} (hd : IsDct s.heap l) (hb : s.heap.IsTuple b items) (hu : A.units < cLine) : RcAt A s (.ref l) (.ref b) false := fun prog w E Q h => by
  have hd' := hd
  obtain ⟨es, n, dd, sl, hd⟩ := hd
  obtain ⟨⟨cls2, dd2, data2, sl2⟩, ho2, hc2, n2, hd2⟩ := id hb
  simp only at hc2 hd2
  subst hc2 hd2
  have hne : l ≠ b := fun e => by subst e; have hd : s.heap.get? l = _ := hd; rw [hd] at ho2; simp at ho2
  exact rc_eq_decline_or (k := false) hd'.ty ⟨_, ho2, rfl⟩ (by decide) F.sub_tuple_dict F.slot_dict_eq F.slot_tuple_eq_refl
    (fun _ hq => dct_eq_decl hd' ⟨_, ho2, rfl⟩ F.sub_tuple_dict hq)
    (fun _ hq => call_meets F.slot_tuple_eq_refl ⟨_, ho2, rfl⟩ F.entry_tuple_eq (F.args_tuple_eq_2 _ _) (tuple_eq_dct b l items n2 n dd2 dd sl2 sl es) ⟨ho2, hd, hq⟩)
    (fun _ hq => wpAny_isSame_ref_other hne hd ho2 (by simp) hq) (.inr hu) h
theorem tuple_dct_eq {l b : Addr} {items : Array Value} (hd : IsDct s.heap l) (hb : s.heap.IsTuple b items) (hu : A.units < cLine) : RcAt A s (.ref b) (.ref l) false := fun prog w E Q h => by
  have hd' := hd
  obtain ⟨es, n, dd, sl, hd⟩ := hd
  obtain ⟨⟨cls2, dd2, data2, sl2⟩, ho2, hc2, n2, hd2⟩ := id hb
  simp only at hc2 hd2
  subst hc2 hd2
  have hne : b ≠ l := fun e => by subst e; have hd : s.heap.get? b = _ := hd; rw [hd] at ho2; simp at ho2
  exact rc_eq_decline_or (k := false) ⟨_, ho2, rfl⟩ hd'.ty (by decide) F.sub_dict_tuple F.slot_tuple_eq F.slot_dict_eq_refl
    (fun _ hq => call_meets F.slot_tuple_eq ⟨_, ho2, rfl⟩ F.entry_tuple_eq (F.args_tuple_eq_2 _ _) (tuple_eq_dct b l items n2 n dd2 dd sl2 sl es) ⟨ho2, hd, hq⟩)
    (fun _ hq => dct_eq_decl hd' ⟨_, ho2, rfl⟩ F.sub_tuple_dict hq)
    (fun _ hq => wpAny_isSame_ref_other' hne ho2 hd (by simp) hq) (.inr hu) h
end
theorem dct_ne_decl {prog : Program} {w : World} {A : Around} {E : Value → Shared → Prop} {s : Shared} {d : Addr} {x : Value} {T : String} {Q : Value → Shared → Prop} (hd : IsDct s.heap d) (hx : s.TypeIs x T) (hs : isSubtype (.type T) (.type "dict") = pure false) (hq : Q .notImplemented s) :
    wpAny (model prog w) A (call (.builtin "dict.__ne__") [.ref d, x]) Q E s := by
  refine wpAny_call_entry PySem.F.slot_dict_ne hd.ty PySem.F.entry_dict_ne ?_ (PySem.F.args_dict_ne_2 _ _)
  show wpAny _ _ (Builtin.Dict.dictSlotArgs "__ne__" ⟨[.ref d, x], []⟩ >>= _) _ _ s
  refine wpAny_bind ?_
  unfold Builtin.Dict.dictSlotArgs
  refine wpAny_bind (wpAny_notOrdered_dict hd.ty ?_)
  show wpAny _ _ (pure (Value.ref d, x)) _ _ s
  refine wpAny_pure ?_
  refine wpAny_bind (wpAny_isInstance hx hs ?_)
  simp only [Bool.not_false, if_true]
  refine wpAny_bind (wpAny_rule ?_)
  first
    | exact wpAny_pure ⟨_, rfl, hq⟩
    | exact wpAny_bind (wpAny_pure (wpAny_pure ⟨_, rfl, hq⟩))
    | exact wpAny_bind (wpAny_pure ⟨_, rfl, hq⟩)
theorem bool_ne_dct (b : Bool) (l : Addr) (es : Array DictEntry) (n : Nat) (dd : Option Addr) (sl : Array (Option Value)) :
    Meets (Builtin.«int.__ne__» ⟨[.bool b, .ref l], []⟩) (fun _ R s => DctAt s.heap l es n dd sl ∧ R (.ok (.ret .notImplemented)) s) :=
  .of_wp fun prog w A R s h => by obtain ⟨hp, g, d, tk, os⟩ := s; obtain ⟨hl, h⟩ := h; wp_walk using wpAny_loadPart' hl, wpAny_load hl; exact ⟨_, rfl, h⟩
theorem int_ne_dct (b : Int) (u : Tok) (l : Addr) (es : Array DictEntry) (n : Nat) (dd : Option Addr) (sl : Array (Option Value)) :
    Meets (Builtin.«int.__ne__» ⟨[.int b u, .ref l], []⟩) (fun _ R s => DctAt s.heap l es n dd sl ∧ R (.ok (.ret .notImplemented)) s) :=
  .of_wp fun prog w A R s h => by obtain ⟨hp, g, d, tk, os⟩ := s; obtain ⟨hl, h⟩ := h; wp_walk using wpAny_loadPart' hl, wpAny_load hl; exact ⟨_, rfl, h⟩
theorem str_ne_dct (b : Str) (u : Tok) (l : Addr) (es : Array DictEntry) (n : Nat) (dd : Option Addr) (sl : Array (Option Value)) :
    Meets (Builtin.«str.__ne__» ⟨[.str b u, .ref l], []⟩) (fun _ R s => DctAt s.heap l es n dd sl ∧ R (.ok (.ret .notImplemented)) s) :=
  .of_wp fun prog w A R s h => by obtain ⟨hp, g, d, tk, os⟩ := s; obtain ⟨hl, h⟩ := h; wp_walk using wpAny_loadPart' hl, wpAny_load hl; exact ⟨_, rfl, h⟩
theorem list_ne_dct (l b : Addr) (items : Array Value) (n n2 : Nat) (dd dd2 : Option Addr) (sl sl2 : Array (Option Value)) (es : Array DictEntry) :
    Meets (Builtin.«list.__ne__» ⟨[.ref l, .ref b], []⟩) (fun _ R s => s.heap.get? l = some { cls := .type "list", dict := dd, data := .seq items n, slots := sl } ∧ DctAt s.heap b es n2 dd2 sl2 ∧ R (.ok (.ret .notImplemented)) s) :=
  .of_wp fun prog w A R s h => by obtain ⟨hp, g, d, tk, os⟩ := s; obtain ⟨hl, hb, h⟩ := h; have f1 := F.sub_dict_list; wp_walk using wpAny_loadPart' hl, wpAny_loadPart' hb; exact ⟨_, rfl, h⟩
theorem tuple_ne_dct (l b : Addr) (items : Array Value) (n n2 : Nat) (dd dd2 : Option Addr) (sl sl2 : Array (Option Value)) (es : Array DictEntry) :
    Meets (Builtin.«tuple.__ne__» ⟨[.ref l, .ref b], []⟩) (fun _ R s => s.heap.get? l = some { cls := .type "tuple", dict := dd, data := .seq items n, slots := sl } ∧ DctAt s.heap b es n2 dd2 sl2 ∧ R (.ok (.ret .notImplemented)) s) :=
  .of_wp fun prog w A R s h => by obtain ⟨hp, g, d, tk, os⟩ := s; obtain ⟨hl, hb, h⟩ := h; have f1 := F.sub_dict_tuple; wp_walk using wpAny_loadPart' hl, wpAny_loadPart' hb; exact ⟨_, rfl, h⟩
section
variable {A : Around} {s : Shared}
theorem dct_none_ne {l : Addr}  (hd : IsDct s.heap l) (hu : A.units < cLine) : RcNeAt A s (.ref l) .none true := fun prog w E Q h => by
  have hd' := hd
  obtain ⟨es, n, dd, sl, hd⟩ := hd
  exact rc_ne_decline_or (k := false) hd'.ty rfl (by decide) F.sub_NoneType_dict F.slot_dict_ne F.slot_NoneType_ne_refl
    (fun _ hq => dct_ne_decl hd' rfl F.sub_NoneType_dict hq)
    (fun _ hq => call_gives F.slot_NoneType_ne_refl rfl F.entry_NoneType_ne (F.args_NoneType_ne_2 _ _) (NoneType___ne___none_ref_0 l) hq)
    (fun _ hq => wpAny_of_eq (rfl : isSame (.ref l) .none = pure false) hq) (.inr hu) h
theorem none_dct_ne {l : Addr}  (hd : IsDct s.heap l) (hu : A.units < cLine) : RcNeAt A s .none (.ref l) true := fun prog w E Q h => by
  have hd' := hd
  obtain ⟨es, n, dd, sl, hd⟩ := hd
  exact rc_ne_decline_or (k := false) rfl hd'.ty (by decide) F.sub_dict_NoneType F.slot_NoneType_ne F.slot_dict_ne_refl
    (fun _ hq => call_gives F.slot_NoneType_ne rfl F.entry_NoneType_ne (F.args_NoneType_ne_2 _ _) (NoneType___ne___none_ref_0 l) hq)
    (fun _ hq => dct_ne_decl hd' rfl F.sub_NoneType_dict hq)
    (fun _ hq => wpAny_of_eq (rfl : isSame .none (.ref l) = pure false) hq) (.inr hu) h
theorem dct_bool_ne {l : Addr} (b : Bool) (hd : IsDct s.heap l) (hu : A.units < cLine) : RcNeAt A s (.ref l) (.bool b) true := fun prog w E Q h => by
  have hd' := hd
  obtain ⟨es, n, dd, sl, hd⟩ := hd
  exact rc_ne_decline_or (k := false) hd'.ty rfl (by decide) F.sub_bool_dict F.slot_dict_ne F.slot_bool_ne_refl
    (fun _ hq => dct_ne_decl hd' rfl F.sub_bool_dict hq)
    (fun _ hq => call_meets F.slot_bool_ne_refl rfl F.entry_int_ne (F.args_int_ne_2 _ _) (bool_ne_dct b l es n dd sl) ⟨hd, hq⟩)
    (fun _ hq => wpAny_of_eq (rfl : isSame (.ref l) (.bool b) = pure false) hq) (.inr hu) h
theorem bool_dct_ne {l : Addr} (b : Bool) (hd : IsDct s.heap l) (hu : A.units < cLine) : RcNeAt A s (.bool b) (.ref l) true := fun prog w E Q h => by
  have hd' := hd
  obtain ⟨es, n, dd, sl, hd⟩ := hd
  exact rc_ne_decline_or (k := false) rfl hd'.ty (by decide) F.sub_dict_bool F.slot_bool_ne F.slot_dict_ne_refl
    (fun _ hq => call_meets F.slot_bool_ne rfl F.entry_int_ne (F.args_int_ne_2 _ _) (bool_ne_dct b l es n dd sl) ⟨hd, hq⟩)
    (fun _ hq => dct_ne_decl hd' rfl F.sub_bool_dict hq)
    (fun _ hq => wpAny_of_eq (rfl : isSame (.bool b) (.ref l) = pure false) hq) (.inr hu) h
theorem dct_int_ne {l : Addr} (b : Int) (u : Tok) (hd : IsDct s.heap l) (hu : A.units < cLine) : RcNeAt A s (.ref l) (.int b u) true := fun prog w E Q h => by
  have hd' := hd
  obtain ⟨es, n, dd, sl, hd⟩ := hd
  exact rc_ne_decline_or (k := false) hd'.ty (typeIs_int s b u) (by decide) F.sub_int_dict F.slot_dict_ne F.slot_int_ne_refl
    (fun _ hq => dct_ne_decl hd' (typeIs_int s b u) F.sub_int_dict hq)
    (fun _ hq => call_meets F.slot_int_ne_refl (typeIs_int s b u) F.entry_int_ne (F.args_int_ne_2 _ _) (int_ne_dct b u l es n dd sl) ⟨hd, hq⟩)
    (fun _ hq => wpAny_of_eq (rfl : isSame (.ref l) (.int b u) = pure false) hq) (.inr hu) h
theorem int_dct_ne {l : Addr} (b : Int) (u : Tok) (hd : IsDct s.heap l) (hu : A.units < cLine) : RcNeAt A s (.int b u) (.ref l) true := fun prog w E Q h => by
  have hd' := hd
  obtain ⟨es, n, dd, sl, hd⟩ := hd
  exact rc_ne_decline_or (k := false) (typeIs_int s b u) hd'.ty (by decide) F.sub_dict_int F.slot_int_ne F.slot_dict_ne_refl
    (fun _ hq => call_meets F.slot_int_ne (typeIs_int s b u) F.entry_int_ne (F.args_int_ne_2 _ _) (int_ne_dct b u l es n dd sl) ⟨hd, hq⟩)
    (fun _ hq => dct_ne_decl hd' (typeIs_int s b u) F.sub_int_dict hq)
    (fun _ hq => wpAny_of_eq (rfl : isSame (.int b u) (.ref l) = pure false) hq) (.inr hu) h
theorem dct_str_ne {l : Addr} (b : Str) (u : Tok) (hd : IsDct s.heap l) (hu : A.units < cLine) : RcNeAt A s (.ref l) (.str b u) true := fun prog w E Q h => by
  have hd' := hd
  obtain ⟨es, n, dd, sl, hd⟩ := hd
  exact rc_ne_decline_or (k := false) hd'.ty (typeIs_str s b u) (by decide) F.sub_str_dict F.slot_dict_ne F.slot_str_ne_refl
    (fun _ hq => dct_ne_decl hd' (typeIs_str s b u) F.sub_str_dict hq)
    (fun _ hq => call_meets F.slot_str_ne_refl (typeIs_str s b u) F.entry_str_ne (F.args_str_ne_2 _ _) (str_ne_dct b u l es n dd sl) ⟨hd, hq⟩)
    (fun _ hq => wpAny_of_eq (rfl : isSame (.ref l) (.str b u) = pure false) hq) (.inr hu) h
theorem str_dct_ne {l : Addr} (b : Str) (u : Tok) (hd : IsDct s.heap l) (hu : A.units < cLine) : RcNeAt A s (.str b u) (.ref l) true := fun prog w E Q h => by
  have hd' := hd
  obtain ⟨es, n, dd, sl, hd⟩ := hd
  exact rc_ne_decline_or (k := false) (typeIs_str s b u) hd'.ty (by decide) F.sub_dict_str F.slot_str_ne F.slot_dict_ne_refl
    (fun _ hq => call_meets F.slot_str_ne (typeIs_str s b u) F.entry_str_ne (F.args_str_ne_2 _ _) (str_ne_dct b u l es n dd sl) ⟨hd, hq⟩)
    (fun _ hq => dct_ne_decl hd' (typeIs_str s b u) F.sub_str_dict hq)
    (fun _ hq => wpAny_of_eq (rfl : isSame (.str b u) (.ref l) = pure false) hq) (.inr hu) h
theorem dct_list_ne {l b : Addr} {items : Array Value} (hd : IsDct s.heap l) (hb : s.heap.IsList b items) (hu : A.units < cLine) : RcNeAt A s (.ref l) (.ref b) true := fun prog w E Q h => by
  have hd' := hd
  obtain ⟨es, n, dd, sl, hd⟩ := hd
  obtain ⟨⟨cls2, dd2, data2, sl2⟩, ho2, hc2, n2, hd2⟩ := id hb
  simp only at hc2 hd2
  subst hc2 hd2
  have hne : l ≠ b := fun e => by subst e; have hd : s.heap.get? l = _ := hd; rw [hd] at ho2; simp at ho2
  exact rc_ne_decline_or (k := false) hd'.ty ⟨_, ho2, rfl⟩ (by decide) F.sub_list_dict F.slot_dict_ne F.slot_list_ne_refl
    (fun _ hq => dct_ne_decl hd' ⟨_, ho2, rfl⟩ F.sub_list_dict hq)
    (fun _ hq => call_meets F.slot_list_ne_refl ⟨_, ho2, rfl⟩ F.entry_list_ne (F.args_list_ne_2 _ _) (list_ne_dct b l items n2 n dd2 dd sl2 sl es) ⟨ho2, hd, hq⟩)
    (fun _ hq => wpAny_isSame_ref_other hne hd ho2 (by simp) hq) (.inr hu) h
theorem list_dct_ne {l b : Addr} {items : Array Value} (hd : IsDct s.heap l) (hb : s.heap.IsList b items) (hu : A.units < cLine) : RcNeAt A s (.ref b) (.ref l) true := fun prog w E Q h => by
  have hd' := hd
  obtain ⟨es, n, dd, sl, hd⟩ := hd
  obtain ⟨⟨cls2, dd2, data2, sl2⟩, ho2, hc2, n2, hd2⟩ := id hb
  simp only at hc2 hd2
  subst hc2 hd2
  have hne : b ≠ l := fun e => by subst e; have hd : s.heap.get? b = _ := hd; rw [hd] at ho2; simp at ho2
  exact rc_ne_decline_or (k := false) ⟨_, ho2, rfl⟩ hd'.ty (by decide) F.sub_dict_list F.slot_list_ne F.slot_dict_ne_refl
    (fun _ hq => call_meets F.slot_list_ne ⟨_, ho2, rfl⟩ F.entry_list_ne (F.args_list_ne_2 _ _) (list_ne_dct b l items n2 n dd2 dd sl2 sl es) ⟨ho2, hd, hq⟩)
    (fun _ hq => dct_ne_decl hd' ⟨_, ho2, rfl⟩ F.sub_list_dict hq)
    (fun _ hq => wpAny_isSame_ref_other' hne ho2 hd (by simp) hq) (.inr hu) h
theorem dct_tuple_ne {l b : Addr} {items : Array Value} (hd : IsDct s.heap l) (hb : s.heap.IsTuple b items) (hu : A.units < cLine) : RcNeAt A s (.ref l) (.ref b) true := fun prog w E Q h => by
  have hd' := hd
  obtain ⟨es, n, dd, sl, hd⟩ := hd
  obtain ⟨⟨cls2, dd2, data2, sl2⟩, ho2, hc2, n2, hd2⟩ := id hb
  simp only at hc2 hd2
  subst hc2 hd2
  have hne : l ≠ b := fun e => by subst e; have hd : s.heap.get? l = _ := hd; rw [hd] at ho2; simp at ho2
  exact rc_ne_decline_or (k := false) hd'.ty ⟨_, ho2, rfl⟩ (by decide) F.sub_tuple_dict F.slot_dict_ne F.slot_tuple_ne_refl
    (fun _ hq => dct_ne_decl hd' ⟨_, ho2, rfl⟩ F.sub_tuple_dict hq)
    (fun _ hq => call_meets F.slot_tuple_ne_refl ⟨_, ho2, rfl⟩ F.entry_tuple_ne (F.args_tuple_ne_2 _ _) (tuple_ne_dct b l items n2 n dd2 dd sl2 sl es) ⟨ho2, hd, hq⟩)
    (fun _ hq => wpAny_isSame_ref_other hne hd ho2 (by simp) hq) (.inr hu) h
theorem tuple_dct_ne {l b : Addr} {items : Array Value} (hd : IsDct s.heap l) (hb : s.heap.IsTuple b items) (hu : A.units < cLine) : RcNeAt A s (.ref b) (.ref l) true := fun prog w E Q h => by
  have hd' := hd
  obtain ⟨es, n, dd, sl, hd⟩ := hd
  obtain ⟨⟨cls2, dd2, data2, sl2⟩, ho2, hc2, n2, hd2⟩ := id hb
  simp only at hc2 hd2
  subst hc2 hd2
  have hne : b ≠ l := fun e => by subst e; have hd : s.heap.get? b = _ := hd; rw [hd] at ho2; simp at ho2
  exact rc_ne_decline_or (k := false) ⟨_, ho2, rfl⟩ hd'.ty (by decide) F.sub_dict_tuple F.slot_tuple_ne F.slot_dict_ne_refl
    (fun _ hq => call_meets F.slot_tuple_ne ⟨_, ho2, rfl⟩ F.entry_tuple_ne (F.args_tuple_ne_2 _ _) (tuple_ne_dct b l items n2 n dd2 dd sl2 sl es) ⟨ho2, hd, hq⟩)
    (fun _ hq => dct_ne_decl hd' ⟨_, ho2, rfl⟩ F.sub_tuple_dict hq)
    (fun _ hq => wpAny_isSame_ref_other' hne ho2 hd (by simp) hq) (.inr hu) h
end
end
end MP

namespace MP
open PySem L2
open PySem.SeqAt (EqP EqAt EqIn RcAt RcNeAt)

/-! ### == on trees -/
mutual
def eqB : T → T → Bool
  | .nd _ k ts, b => match b with
    | .nd _ l us => match k, l with
      | .lst, .lst => eqBs ts us
      | .tup, .tup => eqBs ts us
      | .dct ks, .dct ls => ks.length == ls.length && eqBd ls us ks ts
      | _, _ => false
    | _ => false
  | .non, b => match b with
    | .non => true
    | _ => false
  | .bl a, b => match b with
    | .bl b => a == b
    | .int b => (if a then 1 else 0) == b
    | _ => false
  | .int a, b => match b with
    | .bl b => a == (if b then 1 else 0)
    | .int b => a == b
    | _ => false
  | .str a, b => match b with
    | .str b => a == b
    | _ => false
  | .fn _, _ => false
def eqBs : List T → List T → Bool
  | [], us => us.isEmpty
  | t :: ts, us => match us with
    | [] => false
    | u :: us => eqB t u && eqBs ts us
def eqBd (ls : List Key) (us : List T) : List Key → List T → Bool
  | ks, [] => true
  | ks, t :: ts => match ks with
    | [] => true
    | k :: ks => (match lkT ls us k with
      | some u => eqB t u
      | none => false) && eqBd ls us ks ts
end
def okK : Kd → Nat → Bool
  | .lst, _ => true
  | .tup, _ => true
  | .dct ks, n => decide ks.Nodup && ks.length == n
  | _, _ => false
mutual
def okT : Nat → T → Bool
  | n, .nd _ k ts => match n with
    | 0 => false
    | n + 1 => okK k ts.length && okTs n ts
  | _, .fn _ => false
  | _, .non => true
  | _, .bl _ => true
  | _, .int _ => true
  | _, .str _ => true
def okTs : Nat → List T → Bool
  | _, [] => true
  | n, t :: ts => okT n t && okTs n ts
end
theorem okTs_mem : ∀ {n : Nat} {ts : List T}, okTs n ts = true → ∀ t ∈ ts, okT n t = true
  | n, [], _, t, h => by cases h
  | n, u :: ts, h, t, ht => by
    rw [okTs, Bool.and_eq_true] at h
    rcases List.mem_cons.mp ht with rfl | ht
    · exact h.1
    · exact okTs_mem h.2 t ht
theorem eqBs_iff : ∀ {ts us : List T}, eqBs ts us = true ↔ ts.length = us.length ∧ ∀ (j : Nat) (t u : T), ts[j]? = some t → us[j]? = some u → eqB t u = true
  | [], [] => by simp [eqBs]
  | [], _ :: _ => by simp [eqBs]
  | _ :: _, [] => by simp [eqBs]
  | t :: ts, u :: us => by
    rw [eqBs, Bool.and_eq_true, eqBs_iff (ts := ts) (us := us)]
    constructor
    · rintro ⟨h1, h2, h3⟩
      refine ⟨by simp [h2], fun j a b ha hb => ?_⟩
      cases j with
      | zero => simp at ha hb; subst ha hb; exact h1
      | succ j => simp at ha hb; exact h3 j a b ha hb
    · rintro ⟨h1, h2⟩
      exact ⟨h2 0 t u rfl rfl, by simpa using h1, fun j a b ha hb => h2 (j + 1) a b (by simpa using ha) (by simpa using hb)⟩
theorem eqBd_iff {ls : List Key} {us : List T} : ∀ {ks : List Key} {ts : List T}, eqBd ls us ks ts = true ↔ ∀ (j : Nat) (k : Key) (t : T), ks[j]? = some k → ts[j]? = some t → ∃ u, lkT ls us k = some u ∧ eqB t u = true
  | ks, [] => by cases ks <;> simp [eqBd]
  | [], t :: ts => by simp [eqBd]
  | k :: ks, t :: ts => by
    rw [eqBd, Bool.and_eq_true, eqBd_iff (ks := ks) (ts := ts)]
    constructor
    · rintro ⟨h1, h2⟩ j a b ha hb
      cases j with
      | zero =>
        simp at ha hb; subst ha hb
        split at h1
        · exact ⟨_, by assumption, h1⟩
        · cases h1
      | succ j => simp at ha hb; exact h2 j a b ha hb
    · intro h
      refine ⟨?_, fun j a b ha hb => h (j + 1) a b (by simpa using ha) (by simpa using hb)⟩
      obtain ⟨u, hu, e⟩ := h 0 k t rfl rfl
      rw [hu]; exact e
theorem lkT_self {κ : Type} [DecidableEq κ] {ks : List κ} {ts : List T} {j : Nat} {k : κ} {t : T} : ks.Nodup → ks[j]? = some k → ts[j]? = some t → lkT ks ts k = some t := by
  intro hn h1 h2
  induction ks generalizing ts j with
  | nil => simp at h1
  | cons k' ks ih =>
    cases ts with
    | nil => simp at h2
    | cons t' ts =>
      rw [List.nodup_cons] at hn
      cases j with
      | zero => simp at h1 h2; subst h1 h2; rw [lkT, if_pos rfl]
      | succ j =>
        simp at h1 h2
        rw [lkT, if_neg (fun e => hn.1 (by rw [e]; exact List.mem_of_getElem? h1))]
        exact ih hn.2 h1 h2
theorem rd_inj {H : Hp} {p : Addr} {xs ys : List (Key × V)} (h : Rd H p (.dK xs)) (h' : Rd H p (.dK ys)) : xs = ys := by
  rcases h with h | ⟨o, h⟩ <;> rcases h' with h' | ⟨o', h'⟩ <;> rw [h] at h' <;> cases h' <;> rfl
theorem zip_inj2 {ks ls : List Key} {xs ys : List V} (h1 : ks.length = xs.length) (h2 : ls.length = ys.length) (e : ks.zip xs = ls.zip ys) : ks = ls ∧ xs = ys := by
  have a1 := congrArg (List.map Prod.fst) e
  have a2 := congrArg (List.map Prod.snd) e
  rw [List.map_fst_zip (by omega), List.map_fst_zip (by omega)] at a1
  rw [List.map_snd_zip (by omega), List.map_snd_zip (by omega)] at a2
  exact ⟨a1, a2⟩
section
variable {C : Ctx} {X : Cx} {pins : List (Addr × Obj)} {σ : L2.St} {H : Hp} {s : Shared}
mutual
/-- one value by two trees: they are equal -/
theorem eqB_same (hK : C.K = X.K) (I : L2.Inv X pins σ H s) : ∀ {n : Nat} {a b : T} {v : V}, okT n a = true → okT n b = true → Rep C H a v → Rep C H b v → eqB a b = true
  | n, .non, b, v, oa, ob, ra, rb => by
    rw [Rep] at ra; subst ra
    cases b <;> first | rfl | (rw [Rep] at rb; first | cases rb; done | (obtain ⟨_, _, _, h, _⟩ := rb; cases h) | (obtain ⟨_, _, h⟩ := rb; cases h))
  | n, .bl a, b, v, oa, ob, ra, rb => by
    rw [Rep] at ra; subst ra
    cases b <;> rw [Rep] at rb <;> first | (cases rb; simp [eqB]; done) | (cases rb; done) | (obtain ⟨_, _, _, h, _⟩ := rb; cases h) | (obtain ⟨_, _, h⟩ := rb; cases h)
  | n, .int a, b, v, oa, ob, ra, rb => by
    rw [Rep] at ra; subst ra
    cases b <;> rw [Rep] at rb <;> first | (cases rb; simp [eqB]; done) | (cases rb; done) | (obtain ⟨_, _, _, h, _⟩ := rb; cases h) | (obtain ⟨_, _, h⟩ := rb; cases h)
  | n, .str a, b, v, oa, ob, ra, rb => by
    rw [Rep] at ra; subst ra
    cases b <;> rw [Rep] at rb <;> first | (cases rb; simp [eqB]; done) | (cases rb; done) | (obtain ⟨_, _, _, h, _⟩ := rb; cases h) | (obtain ⟨_, _, h⟩ := rb; cases h)
  | n, .fn _, b, v, oa, ob, ra, rb => by cases n <;> cases oa
  | 0, .nd _ k ts, b, v, oa, ob, ra, rb => by cases oa
  | n + 1, .nd m k ts, b, v, oa, ob, ra, rb => by
    rw [Rep] at ra
    obtain ⟨_, p, xs, rfl, na, ra⟩ := ra
    cases b with
    | nd m' l us =>
      rw [Rep] at rb
      obtain ⟨_, p', ys, e, nb, rb⟩ := rb
      cases e
      rw [okT, Bool.and_eq_true] at oa ob
      cases k with
      | lst =>
        have na : H p = some (.lst xs) := na
        cases l with
        | lst =>
          have nb : H p = some (.lst ys) := nb
          rw [na] at nb; cases nb
          exact eqBs_same hK I oa.2 ob.2 ra rb
        | tup =>
          obtain ⟨_, _, ⟨o, _, h1, h2, _⟩, _⟩ := I.list (SqL.of na)
          obtain ⟨_, _, ⟨o', h1', h2', _⟩, _⟩ := I.tuple (show SqT X.K H p ys from hK ▸ nb)
          rw [h1] at h1'; cases h1'; rw [h2] at h2'; simp at h2'
        | dct ls =>
          rcases nb.2 with h | ⟨o, h⟩ <;> rw [na] at h <;> cases h
        | _ => cases ob.1
      | tup =>
        have na : SqT X.K H p xs := hK ▸ na
        cases l with
        | lst =>
          have nb : H p = some (.lst ys) := nb
          obtain ⟨_, _, ⟨o, _, h1, h2, _⟩, _⟩ := I.list (SqL.of nb)
          obtain ⟨_, _, ⟨o', h1', h2', _⟩, _⟩ := I.tuple na
          rw [h1] at h1'; cases h1'; rw [h2] at h2'; simp at h2'
        | tup =>
          cases I.tuple_inj na (show SqT X.K H p ys from hK ▸ nb)
          exact eqBs_same hK I oa.2 ob.2 ra rb
        | dct ls =>
          obtain ⟨_, _, _, _, d⟩ := dk_rd I.hok nb.2
          obtain ⟨es, n2, dd, z, d⟩ := IsDct.of d
          obtain ⟨_, _, ⟨o', h1', h2', _⟩, _⟩ := I.tuple na
          have d : s.heap.get? p = _ := d
          rw [h1'] at d; cases d; simp at h2'
        | _ => cases ob.1
      | dct ks =>
        obtain ⟨na1, na2⟩ := na
        cases l with
        | lst =>
          have nb : H p = some (.lst ys) := nb
          rcases na2 with h | ⟨o, h⟩ <;> rw [nb] at h <;> cases h
        | tup =>
          obtain ⟨_, _, _, _, d⟩ := dk_rd I.hok na2
          obtain ⟨es, n2, dd, z, d⟩ := IsDct.of d
          obtain ⟨_, _, ⟨o', h1', h2', _⟩, _⟩ := I.tuple (show SqT X.K H p ys from hK ▸ nb)
          have d : s.heap.get? p = _ := d
          rw [h1'] at d; cases d; simp at h2'
        | dct ls =>
          obtain ⟨nb1, nb2⟩ := nb
          obtain ⟨rfl, rfl⟩ := zip_inj2 na1 nb1 (rd_inj na2 nb2)
          have q := eqBs_iff.mp (eqBs_same hK I oa.2 ob.2 ra rb)
          have nd : ks.Nodup := by have := oa.1; simp [okK] at this; exact this.1
          show (ks.length == ks.length && eqBd ks us ks ts) = true
          rw [beq_self_eq_true, Bool.true_and, eqBd_iff]
          intro j k t hk ht
          obtain ⟨u, hu⟩ : ∃ u, us[j]? = some u := by
            have hj : j < us.length := by
              have := (List.getElem?_eq_some_iff.mp ht).1
              omega
            exact ⟨_, List.getElem?_eq_getElem hj⟩
          exact ⟨u, lkT_self nd hk hu, q.2 j t u ht hu⟩
        | _ => cases ob.1
      | _ => cases oa.1
    | _ => rw [Rep] at rb; first | (cases rb; done) | (obtain ⟨_, h1, h2⟩ := rb; cases h2; cases ob)
theorem eqBs_same (hK : C.K = X.K) (I : L2.Inv X pins σ H s) : ∀ {n : Nat} {ts us : List T} {xs : List V}, okTs n ts = true → okTs n us = true → Reps C H ts xs → Reps C H us xs → eqBs ts us = true
  | n, [], us, xs, oa, ob, ra, rb => by
    rw [Reps] at ra; subst ra
    cases us with
    | nil => rfl
    | cons u us => rw [Reps] at rb; obtain ⟨_, _, h, _⟩ := rb; cases h
  | n, t :: ts, us, xs, oa, ob, ra, rb => by
    rw [Reps] at ra
    obtain ⟨x, r, rfl, a1, a2⟩ := ra
    cases us with
    | nil => rw [Reps] at rb; cases rb
    | cons u us =>
      rw [Reps] at rb
      obtain ⟨x', r', e, b1, b2⟩ := rb
      cases e
      rw [okTs, Bool.and_eq_true] at oa ob
      rw [eqBs, eqB_same hK I oa.1 ob.1 a1 b1, eqBs_same hK I oa.2 ob.2 a2 b2]
      rfl
end

/-! ### how a value stands -/
inductive Vw (C : Ctx) (X : Cx) (H : Hp) (s : Shared) (n : Nat) : T → Value → Prop
  | non : Vw C X H s n .non .none
  | bl (b : Bool) : Vw C X H s n (.bl b) (.bool b)
  | int (i : Int) (t : Tok) : Vw C X H s n (.int i) (.int i t)
  | str (z : Str) (t : Tok) : Vw C X H s n (.str z) (.str z t)
  | lst {m : Bool} {p : Addr} {ts : List T} {xs : List V} {its : List Value} : s.heap.IsList p its.toArray → Reps C H ts xs → Vals xs its → okTs n ts = true → Vw C X H s n (.nd m .lst ts) (.ref p)
  | tup {m : Bool} {p : Addr} {ts : List T} {xs : List V} {its : List Value} : s.heap.IsTuple p its.toArray → Reps C H ts xs → Vals xs its → okTs n ts = true → Vw C X H s n (.nd m .tup ts) (.ref p)
  | dct {m : Bool} {p : Addr} {ks : List Key} {ts : List T} {xs : List V} {vs : List (Key × Value)} : ks.Nodup → ks.length = ts.length → Reps C H ts xs → KV (ks.zip xs) vs → (p == sysModules) = false → s.heap.DictOf (mixKind X.prog X.w) p vs → okTs n ts = true → Vw C X H s n (.nd m (.dct ks) ts) (.ref p)
theorem vw_of (hK : C.K = X.K) (I : L2.Inv X pins σ H s) {n : Nat} {a : T} {x : V} {v : Value} (oa : okT (n + 1) a = true) (ra : Rep C H a x) (rx : RelV x v) : Vw C X H s n a v := by
  cases a with
  | non => rw [Rep] at ra; subst ra; cases rx; exact .non
  | bl b => rw [Rep] at ra; subst ra; cases rx; exact .bl b
  | int b => rw [Rep] at ra; subst ra; obtain ⟨t, rfl⟩ := rx; exact .int b t
  | str b => rw [Rep] at ra; subst ra; obtain ⟨t, rfl⟩ := rx; exact .str b t
  | fn f => cases oa
  | nd m k ts =>
    rw [Rep] at ra
    obtain ⟨_, p, xs, rfl, na, ra⟩ := ra
    cases rx
    rw [okT, Bool.and_eq_true] at oa
    cases k with
    | lst =>
      obtain ⟨its, r, pl, _⟩ := I.list (SqL.of (show H p = some (.lst xs) from na))
      exact .lst pl.isList ra r oa.2
    | tup =>
      obtain ⟨its, r, pl, _⟩ := I.tuple (show SqT X.K H p xs from hK ▸ na)
      exact .tup pl ra r oa.2
    | dct ks =>
      obtain ⟨_, h1, vs, h2, h3⟩ := dk_rd I.hok na.2
      have o1 := oa.1
      simp [okK] at o1
      exact .dct o1.1 o1.2 ra h2 h1 h3 oa.2
    | _ => cases oa.1
/-- items by places -/
theorem items_of {ts : List T} {xs : List V} {its : List Value} {j : Nat} (r : Reps C H ts xs) (v : Vals xs its) (h : j < its.toArray.size) : ∃ t x, ts[j]? = some t ∧ xs[j]? = some x ∧ Rep C H t x ∧ RelV x its.toArray[j] := by
  have h1 : j < its.length := by simpa using h
  have h2 : j < xs.length := by have := v.length; omega
  obtain ⟨u, hu, rv⟩ := v.get (List.getElem?_eq_getElem h2)
  obtain ⟨t, ht, rt⟩ := r.getV (List.getElem?_eq_getElem h2)
  refine ⟨t, xs[j], ht, List.getElem?_eq_getElem h2, rt, ?_⟩
  rw [List.getElem?_eq_getElem h1] at hu
  cases hu
  simpa using rv
def eqJ (ts us : List T) (j : Nat) : Bool := match ts[j]?, us[j]? with
  | some t, some u => eqB t u
  | _, _ => false
theorem eqJ_all {ts us : List T} (h : ts.length = us.length) : (List.range ts.length).all (eqJ ts us) = eqBs ts us := by
  rw [Bool.eq_iff_iff, eqBs_iff, List.all_eq_true]
  constructor
  · intro q
    refine ⟨h, fun j t u ht hu => ?_⟩
    have := q j (List.mem_range.mpr (List.getElem?_eq_some_iff.mp ht).1)
    rw [eqJ, ht, hu] at this
    exact this
  · rintro ⟨_, q⟩ j hj
    have hj := List.mem_range.mp hj
    have hj' : j < us.length := by omega
    rw [eqJ, List.getElem?_eq_getElem hj, List.getElem?_eq_getElem hj']
    exact q j _ _ (List.getElem?_eq_getElem hj) (List.getElem?_eq_getElem hj')
theorem eqJ_min {ts us : List T} : ((List.range (min ts.length us.length)).all (eqJ ts us) && ts.length == us.length) = eqBs ts us := by
  by_cases h : ts.length = us.length
  · rw [h, Nat.min_self, ← h, eqJ_all h, h]; simp
  · have e : eqBs ts us = false := by
      cases q : eqBs ts us with
      | false => rfl
      | true => exact absurd (eqBs_iff.mp q).1 h
    rw [e]; simp [h]
def eqK (ks : List Key) (ts : List T) (ls : List Key) (us : List T) (k : Key) : Bool := match lkT ks ts k, lkT ls us k with
  | some t, some u => eqB t u
  | _, _ => false
theorem kv_at {kvs : List (Key × V)} {vs : List (Key × Value)} (r : KV kvs vs) {k : Key} {v : Value} (h : (k, v) ∈ vs) : ∃ (j : Nat) (x : V), kvs[j]? = some (k, x) ∧ RelV x v := by
  unfold KV at r
  induction r with
  | nil => cases h
  | @cons a b l m r t ih =>
    rcases List.mem_cons.mp h with e | h
    · refine ⟨0, a.2, ?_, ?_⟩
      · have : a.1 = k := by rw [r.1, ← e]
        rw [← this]; rfl
      · have := r.2; rw [← e] at this; exact this
    · obtain ⟨j, x, h1, h2⟩ := ih h
      exact ⟨j + 1, x, by simpa using h1, h2⟩
theorem zip_at {ks : List Key} {xs : List V} {j : Nat} {k : Key} {x : V} (h : (ks.zip xs)[j]? = some (k, x)) : ks[j]? = some k ∧ xs[j]? = some x := by
  rw [List.getElem?_zip_eq_some] at h
  exact h
theorem kv_some {ls : List Key} {us : List T} {ys : List V} {vs : List (Key × Value)} (hl : ls.length = us.length) (rb : Reps C H us ys) (r : KV (ls.zip ys) vs) (k : Key) : (valueAt vs k).isSome = (lkT ls us k).isSome ∧ ∀ y, valueAt vs k = some y → ∃ u z, lkT ls us k = some u ∧ Rep C H u z ∧ RelV z y := by
  have q := lkT_ok (k := k) rb (ks := ls) (by rw [hl, rb.length])
  have w := r.val k
  cases e : lkT ls us k with
  | none =>
    rw [q.2 e] at w
    have := RelO.none_of w
    exact ⟨by rw [this]; rfl, fun y hy => by rw [this] at hy; cases hy⟩
  | some u =>
    obtain ⟨z, hz, rz⟩ := q.1 u e
    rw [hz] at w
    obtain ⟨y, hy, ry⟩ := RelO.some_of w
    exact ⟨by rw [hy]; rfl, fun y' hy' => by rw [hy] at hy'; cases hy'; exact ⟨u, z, rfl, rz, ry⟩⟩
theorem dct_ans {ks ls : List Key} {ts us : List T} {xs ys : List V} {va vb : List (Key × Value)} (nd : ks.Nodup) (hk : ks.length = ts.length) (hl : ls.length = us.length) (ra : Reps C H ts xs) (rb : Reps C H us ys) (r1 : KV (ks.zip xs) va) (r2 : KV (ls.zip ys) vb) :
    (va.length == vb.length && va.all fun p => (valueAt vb p.1).isSome && eqK ks ts ls us p.1) = (ks.length == ls.length && eqBd ls us ks ts) := by
  have l1 : va.length = ks.length := by rw [← r1.length, List.length_zip, ← ra.length]; omega
  have l2 : vb.length = ls.length := by rw [← r2.length, List.length_zip, ← rb.length]; omega
  rw [l1, l2]
  congr 1
  have e : va.map (·.1) = ks := by rw [← r1.keys, List.map_fst_zip (by rw [← ra.length]; omega)]
  have e2 : (va.all fun p => (valueAt vb p.1).isSome && eqK ks ts ls us p.1) = ks.all fun k => (valueAt vb k).isSome && eqK ks ts ls us k := by
    rw [← e, List.all_map]; rfl
  rw [e2, Bool.eq_iff_iff, eqBd_iff, List.all_eq_true]
  constructor
  · intro q j k t h1 h2
    have w := q k (List.mem_of_getElem? h1)
    rw [(kv_some hl rb r2 k).1, eqK, lkT_self nd h1 h2] at w
    cases e3 : lkT ls us k with
    | none => rw [e3] at w; cases w
    | some u => rw [e3] at w; exact ⟨u, rfl, by simpa using w⟩
  · intro q k h
    obtain ⟨j, h1⟩ := List.getElem?_of_mem h
    obtain ⟨hj, h1'⟩ := List.getElem?_eq_some_iff.mp h1
    have h2 : ts[j]? = some ts[j] := List.getElem?_eq_getElem (by omega)
    obtain ⟨u, h3, h4⟩ := q j k _ h1 h2
    rw [(kv_some hl rb r2 k).1, eqK, lkT_self nd h1 h2, h3]
    simpa using h4
end
theorem rcne_dicts {prog : Program} {w : World} {K : Type} [DecidableEq K] {knd : KeyKind prog w K} {A : Around} {E : Value → Shared → Prop} {s : Shared} {a b : Addr} {ka kb : List (K × Value)} {r : Bool} {Q : Value → Shared → Prop} (ha : (a == sysModules) = false) (hb : (b == sysModules) = false)
    (da : s.heap.DictOf knd a ka) (db : s.heap.DictOf knd b kb) (hu : A.units < cLine) (hits : ka.length = kb.length → PySem.W.KeqHitsIn prog w A.in1 s kb ka r) (h : Q (.bool (!(ka.length == kb.length && r))) s) :
    wpAny (model prog w) A (compareOp .NotEq (.ref a) (.ref b)) Q E s := by
  refine wpAny_richCompare_same_room (op := .NotEq) da.typeIs db.typeIs PySem.F.slot_dict_ne (wpAny_call_entry PySem.F.slot_dict_ne da.typeIs PySem.F.entry_dict_ne ?_ (PySem.F.args_dict_ne_2 _ _)) hu
  show wpAny _ _ (Builtin.Dict.dictSlotArgs "__ne__" ⟨[.ref a, .ref b], []⟩ >>= _) _ _ s
  refine wpAny_bind ?_
  unfold Builtin.Dict.dictSlotArgs
  refine wpAny_bind (wpAny_notOrdered_dict da.typeIs ?_)
  show wpAny _ _ (pure (Value.ref a, Value.ref b)) _ _ s
  refine wpAny_pure ?_
  refine wpAny_bind (wpAny_isInstance (T := "dict") db.typeIs PySem.F.sub_dict_dict ?_)
  simp only [Bool.not_true, Bool.false_eq_true, if_false]
  refine wpAny_bind (wpAny_pure (wpAny_bind (wpAny_pure ?_)))
  refine wpAny_bind (PySem.W.keq_samePairsIn ha hb da db hits ?_)
  refine wpAny_pure ⟨_, rfl, ?_, ?_⟩
  · exact fun x => nomatch x
  · simpa using h
section
variable {C : Ctx} {X : Cx} {pins : List (Addr × Obj)} {σ : L2.St} {H : Hp} {s : Shared}
/-- the items' comparisons -/
abbrev ItemsEq (C : Ctx) (X : Cx) (H : Hp) (s : Shared) (A : Around) (n : Nat) : Prop := ∀ {a b : T} {x y : V} {v u : Value}, okT n a = true → okT n b = true → Rep C H a x → Rep C H b y → RelV x v → RelV y u → EqIn X.prog X.w A.in1 s v u (eqB a b)
theorem eqJ_in {A : Around} {n : Nat} (ih : ItemsEq C X H s A n) {ts us : List T} {xs ys : List V} {its jts : List Value} (r1 : Reps C H ts xs) (r2 : Reps C H us ys) (v1 : Vals xs its) (v2 : Vals ys jts) (o1 : okTs n ts = true) (o2 : okTs n us = true) :
    ∀ j (h1 : j < its.toArray.size) (h2 : j < jts.toArray.size), EqIn X.prog X.w A.in1 s its.toArray[j] jts.toArray[j] (eqJ ts us j) := fun j h1 h2 => by
  obtain ⟨t, x, a1, _, a3, a4⟩ := items_of r1 v1 h1
  obtain ⟨u, y, b1, _, b3, b4⟩ := items_of r2 v2 h2
  rw [eqJ, a1, b1]
  exact ih (okTs_mem o1 t (List.mem_of_getElem? a1)) (okTs_mem o2 u (List.mem_of_getElem? b1)) a3 b3 a4 b4
theorem hits_in {A : Around} {n : Nat} (ih : ItemsEq C X H s A n) {ks ls : List Key} {ts us : List T} {xs ys : List V} {va vb : List (Key × Value)} (nd : ks.Nodup) (hk : ks.length = ts.length) (hl : ls.length = us.length) (ra : Reps C H ts xs) (rb : Reps C H us ys) (r1 : KV (ks.zip xs) va) (r2 : KV (ls.zip ys) vb) (o1 : okTs n ts = true) (o2 : okTs n us = true) :
    PySem.W.KeqHitsIn X.prog X.w A.in1 s vb va (va.all fun p => (valueAt vb p.1).isSome && eqK ks ts ls us p.1) :=
  PySem.W.KeqHitsIn.of va fun k v y hm hv => by
    obtain ⟨j, x, h1, rv⟩ := kv_at r1 hm
    obtain ⟨h2, h3⟩ := zip_at h1
    obtain ⟨t, h4, rt⟩ := ra.getV h3
    obtain ⟨u, z, h5, h6, h7⟩ := (kv_some hl rb r2 k).2 y hv
    have hu : u ∈ us := by
      clear hm hv h7 h6 h1 h2 r1 r2 rb o2 o1
      induction ls generalizing us with
      | nil => simp [lkT] at h5
      | cons l ls ihl =>
        cases us with
        | nil => simp at hl
        | cons w us =>
          rw [lkT] at h5
          split at h5
          · cases h5; simp
          · exact List.mem_cons_of_mem _ (ihl (by simpa using hl) h5)
    rw [eqK, lkT_self nd h2 h4, h5]
    exact ih (okTs_mem o1 t (List.mem_of_getElem? h4)) (okTs_mem o2 u hu) rt h6 rv h7
theorem sz_eq {ts : List T} {xs : List V} {its : List Value} (r1 : Reps C H ts xs) (v1 : Vals xs its) : its.toArray.size = ts.length := by
  rw [List.size_toArray, ← v1.length, ← r1.length]
theorem rc_eq_of (hK : C.K = X.K) (I : L2.Inv X pins σ H s) {A : Around} {n : Nat} (hu : A.units < cLine) (ih : ItemsEq C X H s A n) {a b : T} {x y : V} {v u : Value} (oa : okT (n + 1) a = true) (ob : okT (n + 1) b = true) (ra : Rep C H a x) (rb : Rep C H b y) (rx : RelV x v) (ry : RelV y u) (E Q : Value → Shared → Prop) (q : Q (.bool (eqB a b)) s) :
    wpAny (model X.prog X.w) A (richCompare .Eq v u) Q E s := by
  have va := vw_of hK I oa ra rx
  have vb := vw_of hK I ob rb ry
  clear oa ob ra rb rx ry
  cases va with
  | non =>
    cases vb with
    | non => exact RcAt.none_none   X.prog X.w E Q q
    | bl c => exact RcAt.none_bool  c X.prog X.w E Q q
    | int j u => exact RcAt.none_int  j u X.prog X.w E Q q
    | str y u => exact RcAt.none_str  y u X.prog X.w E Q q
    | lst g1 g2 g3 g4 => exact RcAt.none_list  g1 hu X.prog X.w E Q q
    | tup g1 g2 g3 g4 => exact RcAt.none_tuple  g1 hu X.prog X.w E Q q
    | dct g1 g2 g3 g4 g5 g6 g7 => exact none_dct_eq  (IsDct.of g6) hu X.prog X.w E Q q
  | bl b =>
    cases vb with
    | non => exact RcAt.bool_none b  X.prog X.w E Q q
    | bl c => exact RcAt.bool_bool b c X.prog X.w E Q q
    | int j u => exact RcAt.bool_int b j u X.prog X.w E Q q
    | str y u => exact RcAt.bool_str b y u X.prog X.w E Q q
    | lst g1 g2 g3 g4 => exact RcAt.bool_list b g1 hu X.prog X.w E Q q
    | tup g1 g2 g3 g4 => exact RcAt.bool_tuple b g1 hu X.prog X.w E Q q
    | dct g1 g2 g3 g4 g5 g6 g7 => exact bool_dct_eq b (IsDct.of g6) hu X.prog X.w E Q q
  | int i t =>
    cases vb with
    | non => exact RcAt.int_none i t  X.prog X.w E Q q
    | bl c => exact RcAt.int_bool i t c X.prog X.w E Q q
    | int j u => exact RcAt.int_int i t j u X.prog X.w E Q q
    | str y u => exact RcAt.int_str i t y u X.prog X.w E Q q
    | lst g1 g2 g3 g4 => exact RcAt.int_list i t g1 hu X.prog X.w E Q q
    | tup g1 g2 g3 g4 => exact RcAt.int_tuple i t g1 hu X.prog X.w E Q q
    | dct g1 g2 g3 g4 g5 g6 g7 => exact int_dct_eq i t (IsDct.of g6) hu X.prog X.w E Q q
  | str z t =>
    cases vb with
    | non => exact RcAt.str_none z t  X.prog X.w E Q q
    | bl c => exact RcAt.str_bool z t c X.prog X.w E Q q
    | int j u => exact RcAt.str_int z t j u X.prog X.w E Q q
    | str y u => exact RcAt.str_str z t y u X.prog X.w E Q q
    | lst g1 g2 g3 g4 => exact RcAt.str_list z t g1 hu X.prog X.w E Q q
    | tup g1 g2 g3 g4 => exact RcAt.str_tuple z t g1 hu X.prog X.w E Q q
    | dct g1 g2 g3 g4 g5 g6 g7 => exact str_dct_eq z t (IsDct.of g6) hu X.prog X.w E Q q
  | lst h1 h2 h3 h4 =>
    cases vb with
    | non => exact RcAt.list_none  h1 hu X.prog X.w E Q q
    | bl c => exact RcAt.list_bool c h1 hu X.prog X.w E Q q
    | int j u => exact RcAt.list_int j u h1 hu X.prog X.w E Q q
    | str y u => exact RcAt.list_str y u h1 hu X.prog X.w E Q q
    | lst g1 g2 g3 g4 =>
      have e1 := sz_eq h2 h3
      have e2 := sz_eq g2 g3
      rename_i ts _ _ _ _ us _ _
      by_cases hl : ts.length = us.length
      · exact PySem.SeqAt.rcIn_lists (e := eqJ ts us) h1 g1 (by rw [e1, e2, hl]) hu (eqJ_in ih h2 g2 h3 g3 h4 g4) (by rw [e1, eqJ_all hl]; exact q)
      · have e3 : eqBs ts us = false := by
          cases z : eqBs ts us with
          | false => rfl
          | true => exact absurd (eqBs_iff.mp z).1 hl
        refine RcAt.lists_lengths h1 g1 (by rw [e1, e2]; simpa using hl) hu X.prog X.w E Q ?_
        have q : Q (.bool (eqBs ts us)) s := q
        rw [e3] at q
        exact q
    | tup g1 g2 g3 g4 => exact RcAt.list_tuple h1 g1 hu X.prog X.w E Q q
    | dct g1 g2 g3 g4 g5 g6 g7 => exact list_dct_eq (IsDct.of g6) h1 hu X.prog X.w E Q q
  | tup h1 h2 h3 h4 =>
    cases vb with
    | non => exact RcAt.tuple_none  h1 hu X.prog X.w E Q q
    | bl c => exact RcAt.tuple_bool c h1 hu X.prog X.w E Q q
    | int j u => exact RcAt.tuple_int j u h1 hu X.prog X.w E Q q
    | str y u => exact RcAt.tuple_str y u h1 hu X.prog X.w E Q q
    | lst g1 g2 g3 g4 => exact RcAt.tuple_list h1 g1 hu X.prog X.w E Q q
    | tup g1 g2 g3 g4 =>
      have e1 := sz_eq h2 h3
      have e2 := sz_eq g2 g3
      rename_i ts _ _ _ _ us _ _
      refine PySem.SeqAt.rcIn_tuples (e := eqJ ts us) h1 g1 hu (eqJ_in ih h2 g2 h3 g3 h4 g4) ?_
      rw [e1, e2, eqJ_min]
      exact q
    | dct g1 g2 g3 g4 g5 g6 g7 => exact tuple_dct_eq (IsDct.of g6) h1 hu X.prog X.w E Q q
  | dct h1 h2 h3 h4 h5 h6 h7 =>
    cases vb with
    | non => exact dct_none_eq  (IsDct.of h6) hu X.prog X.w E Q q
    | bl c => exact dct_bool_eq c (IsDct.of h6) hu X.prog X.w E Q q
    | int j u => exact dct_int_eq j u (IsDct.of h6) hu X.prog X.w E Q q
    | str y u => exact dct_str_eq y u (IsDct.of h6) hu X.prog X.w E Q q
    | lst g1 g2 g3 g4 => exact dct_list_eq (IsDct.of h6) g1 hu X.prog X.w E Q q
    | tup g1 g2 g3 g4 => exact dct_tuple_eq (IsDct.of h6) g1 hu X.prog X.w E Q q
    | dct g1 g2 g3 g4 g5 g6 g7 =>
      refine PySem.W.keq_eqIn h5 g5 h6 g6 hu (fun _ => hits_in ih h1 h2 g2 h3 g3 h4 g4 h7 g7) ?_
      rw [dct_ans h1 h2 g2 h3 g3 h4 g4]
      exact q
theorem rc_ne_of (hK : C.K = X.K) (I : L2.Inv X pins σ H s) {A : Around} {n : Nat} (hu : A.units < cLine) (ih : ItemsEq C X H s A n) {a b : T} {x y : V} {v u : Value} (oa : okT (n + 1) a = true) (ob : okT (n + 1) b = true) (ra : Rep C H a x) (rb : Rep C H b y) (rx : RelV x v) (ry : RelV y u) (E Q : Value → Shared → Prop) (q : Q (.bool (!eqB a b)) s) :
    wpAny (model X.prog X.w) A (richCompare .NotEq v u) Q E s := by
  have va := vw_of hK I oa ra rx
  have vb := vw_of hK I ob rb ry
  clear oa ob ra rb rx ry
  cases va with
  | non =>
    cases vb with
    | non => exact RcNeAt.none_none   X.prog X.w E Q q
    | bl c => exact RcNeAt.none_bool  c X.prog X.w E Q q
    | int j u => exact RcNeAt.none_int  j u X.prog X.w E Q q
    | str y u => exact RcNeAt.none_str  y u X.prog X.w E Q q
    | lst g1 g2 g3 g4 => exact RcNeAt.none_list  g1 hu X.prog X.w E Q q
    | tup g1 g2 g3 g4 => exact RcNeAt.none_tuple  g1 hu X.prog X.w E Q q
    | dct g1 g2 g3 g4 g5 g6 g7 => exact none_dct_ne  (IsDct.of g6) hu X.prog X.w E Q q
  | bl b =>
    cases vb with
    | non => exact RcNeAt.bool_none b  X.prog X.w E Q q
    | bl c => exact RcNeAt.bool_bool b c X.prog X.w E Q q
    | int j u => exact RcNeAt.bool_int b j u X.prog X.w E Q q
    | str y u => exact RcNeAt.bool_str b y u X.prog X.w E Q q
    | lst g1 g2 g3 g4 => exact RcNeAt.bool_list b g1 hu X.prog X.w E Q q
    | tup g1 g2 g3 g4 => exact RcNeAt.bool_tuple b g1 hu X.prog X.w E Q q
    | dct g1 g2 g3 g4 g5 g6 g7 => exact bool_dct_ne b (IsDct.of g6) hu X.prog X.w E Q q
  | int i t =>
    cases vb with
    | non => exact RcNeAt.int_none i t  X.prog X.w E Q q
    | bl c => exact RcNeAt.int_bool i t c X.prog X.w E Q q
    | int j u => exact RcNeAt.int_int i t j u X.prog X.w E Q q
    | str y u => exact RcNeAt.int_str i t y u X.prog X.w E Q q
    | lst g1 g2 g3 g4 => exact RcNeAt.int_list i t g1 hu X.prog X.w E Q q
    | tup g1 g2 g3 g4 => exact RcNeAt.int_tuple i t g1 hu X.prog X.w E Q q
    | dct g1 g2 g3 g4 g5 g6 g7 => exact int_dct_ne i t (IsDct.of g6) hu X.prog X.w E Q q
  | str z t =>
    cases vb with
    | non => exact RcNeAt.str_none z t  X.prog X.w E Q q
    | bl c => exact RcNeAt.str_bool z t c X.prog X.w E Q q
    | int j u => exact RcNeAt.str_int z t j u X.prog X.w E Q q
    | str y u => exact RcNeAt.str_str z t y u X.prog X.w E Q q
    | lst g1 g2 g3 g4 => exact RcNeAt.str_list z t g1 hu X.prog X.w E Q q
    | tup g1 g2 g3 g4 => exact RcNeAt.str_tuple z t g1 hu X.prog X.w E Q q
    | dct g1 g2 g3 g4 g5 g6 g7 => exact str_dct_ne z t (IsDct.of g6) hu X.prog X.w E Q q
  | lst h1 h2 h3 h4 =>
    cases vb with
    | non => exact RcNeAt.list_none  h1 hu X.prog X.w E Q q
    | bl c => exact RcNeAt.list_bool c h1 hu X.prog X.w E Q q
    | int j u => exact RcNeAt.list_int j u h1 hu X.prog X.w E Q q
    | str y u => exact RcNeAt.list_str y u h1 hu X.prog X.w E Q q
    | lst g1 g2 g3 g4 =>
      have e1 := sz_eq h2 h3
      have e2 := sz_eq g2 g3
      rename_i ts _ _ _ _ us _ _
      by_cases hl : ts.length = us.length
      · exact rcne_lists (e := eqJ ts us) h1 g1 (by rw [e1, e2, hl]) hu (eqJ_in ih h2 g2 h3 g3 h4 g4) (by rw [e1, eqJ_all hl]; exact q)
      · have e3 : eqBs ts us = false := by
          cases z : eqBs ts us with
          | false => rfl
          | true => exact absurd (eqBs_iff.mp z).1 hl
        refine RcNeAt.lists_lengths h1 g1 (by rw [e1, e2]; simpa using hl) hu X.prog X.w E Q ?_
        have q : Q (.bool (!eqBs ts us)) s := q
        rw [e3] at q
        exact q
    | tup g1 g2 g3 g4 => exact RcNeAt.list_tuple h1 g1 hu X.prog X.w E Q q
    | dct g1 g2 g3 g4 g5 g6 g7 => exact list_dct_ne (IsDct.of g6) h1 hu X.prog X.w E Q q
  | tup h1 h2 h3 h4 =>
    cases vb with
    | non => exact RcNeAt.tuple_none  h1 hu X.prog X.w E Q q
    | bl c => exact RcNeAt.tuple_bool c h1 hu X.prog X.w E Q q
    | int j u => exact RcNeAt.tuple_int j u h1 hu X.prog X.w E Q q
    | str y u => exact RcNeAt.tuple_str y u h1 hu X.prog X.w E Q q
    | lst g1 g2 g3 g4 => exact RcNeAt.tuple_list h1 g1 hu X.prog X.w E Q q
    | tup g1 g2 g3 g4 =>
      have e1 := sz_eq h2 h3
      have e2 := sz_eq g2 g3
      rename_i ts _ _ _ _ us _ _
      refine rcne_tuples (e := eqJ ts us) h1 g1 hu (eqJ_in ih h2 g2 h3 g3 h4 g4) ?_
      rw [e1, e2, eqJ_min]
      exact q
    | dct g1 g2 g3 g4 g5 g6 g7 => exact tuple_dct_ne (IsDct.of g6) h1 hu X.prog X.w E Q q
  | dct h1 h2 h3 h4 h5 h6 h7 =>
    cases vb with
    | non => exact dct_none_ne  (IsDct.of h6) hu X.prog X.w E Q q
    | bl c => exact dct_bool_ne c (IsDct.of h6) hu X.prog X.w E Q q
    | int j u => exact dct_int_ne j u (IsDct.of h6) hu X.prog X.w E Q q
    | str y u => exact dct_str_ne y u (IsDct.of h6) hu X.prog X.w E Q q
    | lst g1 g2 g3 g4 => exact dct_list_ne (IsDct.of h6) g1 hu X.prog X.w E Q q
    | tup g1 g2 g3 g4 => exact dct_tuple_ne (IsDct.of h6) g1 hu X.prog X.w E Q q
    | dct g1 g2 g3 g4 g5 g6 g7 =>
      refine rcne_dicts h5 g5 h6 g6 hu (fun _ => hits_in ih h1 h2 g2 h3 g3 h4 g4 h7 g7) ?_
      rw [dct_ans h1 h2 g2 h3 g3 h4 g4]
      exact q
/-- == of two values that holds within others -/
theorem items_eq (hK : C.K = X.K) (I : L2.Inv X pins σ H s) : ∀ (n : Nat) (A : Around), A.units + n + 1 < cLine → ItemsEq C X H s A n
  | n, A, hu, a, b, x, y, v, u, oa, ob, ra, rb, rx, ry => by
    have atoms : ∀ k : Bool, eqA a b = some k → eqB a b = k → EqIn X.prog X.w A.in1 s v u (eqB a b) := fun k h1 h2 => by
      rw [h2]
      exact (eqA_at A.in1 h1 ra rb rx ry).inModel X.prog X.w
    by_cases same : v = u
    · subst same
      by_cases ht : ∃ m k ts, a = .nd m k ts
      · obtain ⟨m, k, ts, rfl⟩ := ht
        rw [Rep] at ra
        obtain ⟨hm, p, xs, rfl, na, ra⟩ := ra
        cases rx
        have hy : y = .ref p := by cases y <;> first | (cases ry; rfl) | (obtain ⟨_, h⟩ := ry; cases h) | cases ry
        subst hy
        rw [eqB_same hK I oa ob (Rep.nd.mpr ⟨hm, p, xs, rfl, na, ra⟩) rb]
        exact (PySem.SeqAt.EqAt.same _).inModel X.prog X.w
      · have hat : ∃ k, eqA a b = some k ∧ eqB a b = k := by
          cases a with
          | nd m k ts => exact absurd ⟨m, k, ts, rfl⟩ ht
          | fn f => cases n <;> cases oa
          | _ =>
            rw [Rep] at ra; subst ra
            cases b with
            | nd m k ts =>
              rw [Rep] at rb
              obtain ⟨hm, p, xs, rfl, nb, rb⟩ := rb
              cases ry
              first | (cases rx; done) | (obtain ⟨_, h⟩ := rx; cases h)
            | fn f => cases n <;> cases ob
            | _ => exact ⟨_, rfl, rfl⟩
        obtain ⟨k, h1, h2⟩ := hat
        exact atoms k h1 h2
    · cases n with
      | zero =>
        have hat : ∃ k, eqA a b = some k ∧ eqB a b = k := by
          cases a with
          | nd m k ts => cases oa
          | fn f => cases oa
          | _ =>
            cases b with
            | nd m k ts => cases ob
            | fn f => cases ob
            | _ => exact ⟨_, rfl, rfl⟩
        obtain ⟨k, h1, h2⟩ := hat
        exact atoms k h1 h2
      | succ n =>
        intro E Q hq
        unfold eqBool
        refine wpAny_holding ?_
        refine wpAny_ite_split (fun hab => absurd (eq_of_beq hab) same) (fun _ => ?_)
        have fin := fun Q' q' => rc_eq_of hK I (A := A.in1) (by show A.units + 1 < cLine; omega) (items_eq hK I n A.in1 (by show A.units + 1 + n + 1 < cLine; omega)) oa ob ra rb rx ry E Q' q'
        have vv := vw_of hK I oa ra rx
        cases vv <;> exact wpAny_bind (fin _ (wpAny_truthy_bool hq))
end
def eqT (a b : T) : Option Bool := if okT 60 a && okT 60 b then some (eqB a b) else none
def neT (a b : T) : Option Bool := if okT 60 a && okT 60 b then some (!eqB a b) else none
section
variable {C : Ctx} {X : Cx}
theorem op_eqTt (hK : C.K = X.K) (hu : X.A.units + 64 < cLine) : OpR X (compareOp .Eq) (rC C eqT) := by
  intro pins s σ H x y v u Q I rx ry h
  obtain ⟨tx, ty, k, r1, r2, hg, q⟩ := h
  unfold eqT at hg
  split at hg
  · rename_i hc
    rw [Bool.and_eq_true] at hc
    cases hg
    exact rc_eq_of hK I (A := X.A) (by omega) (items_eq hK I 59 X.A (by omega)) hc.1 hc.2 r1 r2 rx ry _ _ (fin_b I q)
  · cases hg
theorem op_neTt (hK : C.K = X.K) (hu : X.A.units + 64 < cLine) : OpR X (compareOp .NotEq) (rC C neT) := by
  intro pins s σ H x y v u Q I rx ry h
  obtain ⟨tx, ty, k, r1, r2, hg, q⟩ := h
  unfold neT at hg
  split at hg
  · rename_i hc
    rw [Bool.and_eq_true] at hc
    cases hg
    exact rc_ne_of hK I (A := X.A) (by omega) (items_eq hK I 59 X.A (by omega)) hc.1 hc.2 r1 r2 rx ry _ _ (fin_b I q)
  · cases hg
theorem ru64 {k : Nat} {A : Around} (h : Room k A) : A.units + 64 < cLine := by have := h.un; omega
end
end MP

namespace MP
open PySem L2
open PySem.SeqAt (EqP EqAt EqIn RcAt RcNeAt)

/-! ### in, not in -/
section
open PySem.SeqAt
open PySem.AutoSeq1 (wpAny_loadPart')
open PySem.MeetsSeq PySem.MeetsSeq2 PySem.MeetsSeq3 PySem.SeqRoads2
variable {prog : Program} {w : World}
theorem lst_has_loop (l : Addr) (us : Array Value) (n : Nat) (d : Option Addr) (z : Array (Option Value)) (x : Value) (e : Nat → Bool) (k : Nat) :
    ∀ i : Nat, us.size - i = k → MeetsIn prog w (Builtin.«list.__contains__.loop» ⟨[.ref l, x, rawInt i], []⟩)
      (fun A R s => LstAt s.heap l us n d z ∧ (∀ j (h1 : j < us.size), EqIn prog w A.in1 s us[j] x (e j)) ∧ R (.ok (.ret (.bool (((List.range us.size).drop i).any e)))) s) := by
  induction k with
  | zero =>
    intro i hk A R s hyp
    obtain ⟨hp, gg, dd, tk, os⟩ := s
    obtain ⟨hl, hel, hR⟩ := hyp
    wp_walk using wpAny_loadPart' hl
    have no1 : us[((i : Nat) : Int).toNat]? = none := by simp; omega
    have nil : (List.range us.size).drop i = [] := by simp; omega
    rw [nil] at hR
    rw [no1]
    wp_walk
    exact hR
  | succ k ih =>
    intro i hk A R s hyp
    obtain ⟨hp, gg, dd, tk, os⟩ := s
    obtain ⟨hl, hel, hR⟩ := hyp
    wp_walk using wpAny_loadPart' hl
    have lt1 : i < us.size := by omega
    have at1 : us[((i : Nat) : Int).toNat]? = some us[i] := by simp [lt1]
    have more : (List.range us.size).drop i = i :: (List.range us.size).drop (i + 1) := by simp [List.drop_eq_getElem_cons, lt1]
    have cast1 : ((i : Int) + 1) = ((i + 1 : Nat) : Int) := by push_cast; rfl
    rw [more, List.any_cons] at hR
    rw [at1]
    refine wpAny_bind (hel i lt1 _ _ ?_)
    cases hbi : e i with
    | true =>
      rw [hbi] at hR
      wp_walk
      exact hR
    | false =>
      rw [hbi] at hR
      wp_walk
      rw [cast1]
      refine ⟨plainId_quiet plain_contains_loop _, codeAny_builtin entry_contains_loop ?_⟩
      rw [Around.under_plainId plain_contains_loop _]
      exact ih (i + 1) (by omega) A R _ ⟨hl, hel, by simpa using hR⟩
theorem lst_has (l : Addr) (us : Array Value) (n : Nat) (d : Option Addr) (z : Array (Option Value)) (x : Value) (e : Nat → Bool) :
    MeetsIn prog w (Builtin.«list.__contains__» ⟨[.ref l, x], []⟩)
      (fun A R s => LstAt s.heap l us n d z ∧ (∀ j (h1 : j < us.size), EqIn prog w A.in1 s us[j] x (e j)) ∧ R (.ok (.ret (.bool ((List.range us.size).any e)))) s) := by
  intro A R s hyp
  obtain ⟨hp, gg, dd, tk, os⟩ := s
  obtain ⟨hl, hel, hR⟩ := hyp
  wp_walk using wpAny_loadPart' hl
  refine ⟨plainId_quiet plain_contains_loop _, codeAny_builtin entry_contains_loop ?_⟩
  rw [Around.under_plainId plain_contains_loop _]
  exact lst_has_loop l us n d z x e _ 0 rfl A R _ ⟨hl, hel, by simpa using hR⟩
theorem tup_has (l : Addr) (us : Array Value) (n : Nat) (d : Option Addr) (z : Array (Option Value)) (x : Value) (e : Nat → Bool) :
    MeetsIn prog w (Builtin.«tuple.__contains__» ⟨[.ref l, x], []⟩)
      (fun A R s => s.heap.get? l = some { cls := .type "tuple", dict := d, data := .seq us n, slots := z } ∧ (∀ j (h1 : j < us.size), EqIn prog w A.in1 s us[j] x (e j)) ∧ R (.ok (.ret (.bool ((List.range us.size).any e)))) s) :=
  .of_wp fun A R s hyp => by
    obtain ⟨hp, gg, dd, tk, os⟩ := s
    obtain ⟨hl, hel, hR0⟩ := hyp
    wp_walk using wpAny_loadPart' hl, wpAny_forIn_array _ (fun rest b s' => b.1 = none ∧ s' = ⟨hp, gg, dd, tk, os⟩ ∧ ∃ i, rest = us.toList.drop i ∧ R (.ok (.ret (.bool (((List.range us.size).drop i).any e)))) ⟨hp, gg, dd, tk, os⟩) _
    case turn =>
      rintro y rest b s' ⟨hb, rfl, i, hz, hR⟩
      have lt1 : i < us.size := by
        rcases Nat.lt_or_ge i us.size with q | q
        · exact q
        · rw [List.drop_of_length_le (by simpa using q)] at hz; cases hz
      rw [List.drop_eq_getElem_cons (by simpa using lt1)] at hz
      injection hz with hy hrest
      have hy : y = us[i] := by simpa using hy
      subst hy
      have more : (List.range us.size).drop i = i :: (List.range us.size).drop (i + 1) := by simp [List.drop_eq_getElem_cons, lt1]
      rw [more, List.any_cons] at hR
      refine wpAny_bind (hel i lt1 _ _ ?_)
      cases hbi : e i with
      | true =>
        rw [hbi] at hR
        wp_walk
        exact ⟨_, rfl, by simpa using hR⟩
      | false =>
        rw [hbi] at hR
        wp_walk
        exact ⟨rfl, rfl, i + 1, hrest, by simpa using hR⟩
    case fin =>
      rintro ⟨b1, b2⟩ s' ⟨hb, rfl, i, hz, hR⟩
      simp only at hb
      subst hb
      have ge : us.size ≤ i := by
        rcases Nat.lt_or_ge i us.size with q | q
        · rw [List.drop_eq_getElem_cons (by simpa using q)] at hz; cases hz
        · exact q
      rw [List.drop_of_length_le (by simpa using ge)] at hR
      wp_walk
      exact ⟨_, rfl, by simpa using hR⟩
    case h =>
      exact ⟨rfl, rfl, 0, rfl, by simpa using hR0⟩
theorem in_meetsIn {A : Around} {E : Value → Shared → Prop} {s : Shared} {neg : Bool} {T id : String} {B : Builtin} {c x : Value} {S : Spec} {Q : Value → Shared → Prop} (hT : s.TypeIs c T) (slot : Slot T "__contains__" id)
    (entry : entryFor table id = some B) (args : argsOk id ⟨[c, x], []⟩) (g : MeetsIn prog w (B ⟨[c, x], []⟩) S)
    (h : S A (wants (fun v s' => ∃ b, v = .bool b ∧ Q (.bool (if neg = true then !b else b)) s') E) s) : wpAny (model prog w) A (compareOp (if neg = true then .NotIn else .In) x c) Q E s := by
  cases neg with
  | false =>
    show wpAny _ A (do return .bool (← contains c x)) Q E s
    refine wpAny_bind (wpAny_contains_slot hT slot (wpAny_mono (call_meetsIn slot hT entry args g h) (fun v s' hv => ?_) fun _ _ e => e))
    obtain ⟨b, rfl, hq⟩ := hv
    exact wpAny_truthy_bool (wpAny_pure hq)
  | true =>
    show wpAny _ A (do return .bool (!(← contains c x))) Q E s
    refine wpAny_bind (wpAny_contains_slot hT slot (wpAny_mono (call_meetsIn slot hT entry args g h) (fun v s' hv => ?_) fun _ _ e => e))
    obtain ⟨b, rfl, hq⟩ := hv
    exact wpAny_truthy_bool (wpAny_pure hq)
end
section
variable {C : Ctx} {X : Cx}
def memL (x : T) (ts : List T) : Bool := ts.any fun t => eqB t x
/-- x in c -/
def memT (x c : T) : Option Bool := match c with
  | .str z => match x with
    | .str y => match y.cps.toList with
      | [c] => some (decide (c ∈ z.cps.toList))
      | _ => none
    | _ => none
  | .nd _ (.dct ks) ts => match x with
    | .non => some false
    | .int i => if ks.length = ts.length then some (lkT ks ts (Sum.inl i)).isSome else none
    | .str y => if ks.length = ts.length then some (lkT ks ts (Sum.inr y)).isSome else none
    | _ => none
  | .nd _ .lst ts => if okT 60 x && okTs 60 ts then some (memL x ts) else none
  | .nd _ .tup ts => if okT 60 x && okTs 60 ts then some (memL x ts) else none
  | _ => none
def nmemT (x c : T) : Option Bool := (memT x c).map not
theorem any_eqJ {ts : List T} {x : T} : (List.range ts.length).any (fun j => match ts[j]? with | some t => eqB t x | none => false) = memL x ts := by
  rw [Bool.eq_iff_iff, memL, List.any_eq_true, List.any_eq_true]
  constructor
  · rintro ⟨j, hj, h⟩
    have hj := List.mem_range.mp hj
    rw [List.getElem?_eq_getElem hj] at h
    exact ⟨_, List.getElem_mem hj, h⟩
  · rintro ⟨t, ht, h⟩
    obtain ⟨j, hj⟩ := List.getElem?_of_mem ht
    exact ⟨j, List.mem_range.mpr (List.getElem?_eq_some_iff.mp hj).1, by rw [hj]; exact h⟩
theorem memT_run {neg : Bool} (hK : C.K = X.K) (hu : X.A.units + 64 < cLine) {pins : List (Addr × Obj)} {s : Shared} {σ : L2.St} {H : Hp} {x y : V} {v u : Value} {Q : VK} (I : L2.Inv X pins σ H s) (rx : RelV x v) (ry : RelV y u)
    {tx ty : T} {k : Bool} (r1 : Rep C H tx x) (r2 : Rep C H ty y) (hg : memT tx ty = some k) (q : Q (.bl (if neg = true then !k else k)) H) :
    wpAny (model X.prog X.w) X.A (compareOp (if neg = true then .NotIn else .In) v u) (EP X pins σ Q) X.xe s := by
  have items : ∀ {ts : List T} {xs : List V} {its : List Value}, Reps C H ts xs → Vals xs its → okT 60 tx = true → okTs 60 ts = true →
      ∀ j (h1 : j < its.toArray.size), EqIn X.prog X.w X.A.in1 s its.toArray[j] v (match ts[j]? with | some t => eqB t tx | none => false) := fun {ts xs its} ra va o1 o2 j h1 => by
    obtain ⟨t, z, a1, _, a3, a4⟩ := items_of ra va h1
    rw [a1]
    exact items_eq hK I 60 X.A (by omega) (okTs_mem o2 t (List.mem_of_getElem? a1)) o1 a3 r1 a4 rx
  unfold memT at hg
  split at hg
  · split at hg
    · split at hg
      · rename_i y' _ c hc
        cases hg
        rw [Rep] at r1; rw [Rep] at r2; subst r1 r2
        have e : y' = ⟨#[c]⟩ := by cases y'; simp only [Str.mk.injEq]; apply Array.toList_inj.mp; simpa using hc
        subst e
        cases neg with
        | false => exact op_in_sign pins s σ H _ _ v u Q I rx ry ⟨c, _, rfl, rfl, q⟩
        | true => exact op_notIn_sign pins s σ H _ _ v u Q I rx ry ⟨c, _, rfl, rfl, q⟩
      · cases hg
    · cases hg
  · rename_i m ks ts
    rw [Rep] at r2
    obtain ⟨_, a, xs, rfl, ⟨hl, nr⟩, rr⟩ := r2
    have key : ∀ kk : Key, ks.length = ts.length → (lkT ks ts kk).isSome = k → x = kV kk → wpAny (model X.prog X.w) X.A (compareOp (if neg = true then .NotIn else .In) v u) (EP X pins σ Q) X.xe s := fun kk hlt hkk ex => by
      subst ex
      obtain rfl : u = Value.ref a := ry
      have g : DGet H a (kV kk) (valV (ks.zip xs) kk) := .inl ⟨_, kk, nr, rfl, rfl⟩
      have e : (valV (ks.zip xs) kk).isSome = k := by
        rw [← hkk]
        have w := lkT_ok (k := kk) rr (ks := ks) hl
        cases z : lkT ks ts kk with
        | none => rw [w.2 z]; rfl
        | some t => obtain ⟨_, h1, _⟩ := w.1 t z; rw [h1]; rfl
      cases neg with
      | false => exact d_in (by omega) I g rx fun s3 I3 => ⟨.bl _, H, I3, rfl, by rw [e]; exact q⟩
      | true => exact d_notIn (by omega) I g rx fun s3 I3 => ⟨.bl _, H, I3, rfl, by rw [e]; exact q⟩
    split at hg
    · cases hg
      rw [Rep] at r1; subst r1
      cases rx
      obtain rfl : u = Value.ref a := ry
      cases neg with
      | false => exact d_inNone I nr fun s3 I3 => ⟨.bl _, H, I3, rfl, q⟩
      | true => exact d_notInNone I nr fun s3 I3 => ⟨.bl _, H, I3, rfl, q⟩
    · split at hg
      · cases hg
        rw [Rep] at r1
        exact key (Sum.inl _) (by assumption) rfl r1
      · cases hg
    · split at hg
      · cases hg
        rw [Rep] at r1
        exact key (Sum.inr _) (by assumption) rfl r1
      · cases hg
    · cases hg
  · split at hg
    · rename_i hc
      rw [Bool.and_eq_true] at hc
      cases hg
      rw [Rep] at r2
      obtain ⟨_, a, xs, rfl, nr, rr⟩ := r2
      obtain rfl : u = Value.ref a := ry
      obtain ⟨its, va, pl, _⟩ := I.list (SqL.of (show H a = some (.lst xs) from nr))
      obtain ⟨⟨cls, dd, data, sl⟩, ho, hc', n, hd⟩ := pl.isList
      simp only at hc' hd
      subst hc' hd
      rw [← any_eqJ, ← sz_eq rr va] at q
      exact in_meetsIn ⟨_, ho, rfl⟩ PySem.F.slot_list_contains PySem.F.entry_list_contains (PySem.F.args_list_contains_2 _ _) (lst_has a its.toArray n dd sl v _) ⟨ho, items rr va hc.1 hc.2, _, rfl, .bl _, H, I, rfl, q⟩
    · cases hg
  · split at hg
    · rename_i hc
      rw [Bool.and_eq_true] at hc
      cases hg
      rw [Rep] at r2
      obtain ⟨_, a, xs, rfl, nr, rr⟩ := r2
      obtain rfl : u = Value.ref a := ry
      obtain ⟨its, va, pl, _⟩ := I.tuple (show SqT X.K H a xs from hK ▸ nr)
      obtain ⟨⟨cls, dd, data, sl⟩, ho, hc', n, hd⟩ := id pl
      simp only at hc' hd
      subst hc' hd
      rw [← any_eqJ, ← sz_eq rr va] at q
      exact in_meetsIn ⟨_, ho, rfl⟩ PySem.F.slot_tuple_contains PySem.F.entry_tuple_contains (PySem.F.args_tuple_contains_2 _ _) (tup_has a its.toArray n dd sl v _) ⟨ho, items rr va hc.1 hc.2, _, rfl, .bl _, H, I, rfl, q⟩
    · cases hg
  · cases hg
theorem op_inTt (hK : C.K = X.K) (hu : X.A.units + 64 < cLine) : OpR X (compareOp .In) (rC C memT) := by
  intro pins s σ H x y v u Q I rx ry h
  obtain ⟨tx, ty, k, r1, r2, hg, q⟩ := h
  exact memT_run (neg := false) hK hu I rx ry r1 r2 hg q
theorem op_nTt (hK : C.K = X.K) (hu : X.A.units + 64 < cLine) : OpR X (compareOp .NotIn) (rC C nmemT) := by
  intro pins s σ H x y v u Q I rx ry h
  obtain ⟨tx, ty, k, r1, r2, hg, q⟩ := h
  unfold nmemT at hg
  rw [Option.map_eq_some_iff] at hg
  obtain ⟨k', hg, rfl⟩ := hg
  exact memT_run (neg := true) hK hu I rx ry r1 r2 hg q
end
end MP

namespace MP
open PySem L2

/-! ### x is None as a test -/
def dTst (g : T → Option Bool) (d : DV) : DT := bnd d fun x ρ => match g x with
  | some b => some (.ok b ρ)
  | none => none
section
variable {C : Ctx} {X : Cx} {E : XW} {p : Bool} {a b : Expr} {da db : DV} {pos : Pos}
theorem T_isN {j pos'} (ha : PE X a (tH C E p da)) : PT X (.Compare a [.Is] [.Constant .none j pos'] pos) (tT C E p (dTst (fun t => some (isNonT t)) da)) :=
  PT_imp (pt_cmp (pc_isN ha)) fun σ H Q ⟨F, ρ, As, o, env, hd, post⟩ => by
    refine seqH env hd post.xx fun x ρ1 hd v F1 H1 As1 env1 st1 pu1 r1 => ?_
    cases hd
    rw [non_iff r1]
    exact ⟨_, rfl, post F1 H1 As1 env1 st1 pu1⟩
theorem T_notN {j pos'} (ha : PE X a (tH C E p da)) : PT X (.Compare a [.IsNot] [.Constant .none j pos'] pos) (tT C E p (dTst (fun t => some (!isNonT t)) da)) :=
  PT_imp (pt_cmp (pc_notN ha)) fun σ H Q ⟨F, ρ, As, o, env, hd, post⟩ => by
    refine seqH env hd post.xx fun x ρ1 hd v F1 H1 As1 env1 st1 pu1 r1 => ?_
    cases hd
    rw [non_iff r1]
    exact ⟨_, rfl, post F1 H1 As1 env1 st1 pu1⟩
end
end MP

namespace MP
open PySem L2

/-! ### max(xs, default=d) -/
def mxDT (x d : T) : Option T := match x with
  | .nd _ .lst ts => match intsOf ts with
    | some [] => some d
    | some (n :: ns) => some (.int (ns.foldl max n))
    | none => none
  | _ => none
def rMxD (C : Ctx) : List V → List V → Hp → VK → Prop := fun xs zs H Q => ∃ F tx td x d t, Same F H ∧ xs = [x] ∧ zs = [d] ∧ Rep C F tx x ∧ Rep C F td d ∧ mxDT tx td = some t ∧ NewQ C F H t Q
def dMxD (da dd : DV) : DR := bnd da fun x => bnd dd fun d ρ => match mxDT x d with
  | some t => some (.ok (.tv t) ρ)
  | none => none
theorem depth_ints : ∀ ns : List Int, PyData.depthAll (ns.map PyData.int) = 0
  | [] => rfl
  | n :: ns => by
    rw [List.map_cons]
    have := depth_ints ns
    simp [PyData.depthAll, PyData.depth, this]
theorem alike_ints (ns : List Int) : PySem.W.AlikeAll (ns.map PyData.int) := by
  refine ⟨fun x hx y hy => ?_, fun x hx => ?_⟩
  · obtain ⟨a, _, rfl⟩ := List.mem_map.mp hx
    obtain ⟨b, _, rfl⟩ := List.mem_map.mp hy
    rfl
  · obtain ⟨a, _, rfl⟩ := List.mem_map.mp hx
    exact fun h => by cases h
theorem reads_ints {h : Heap} : ∀ {us : List Value} {ns : List Int}, PyProof.Rows.IntsAre us ns → ReadsAll h us (ns.map PyData.int) []
  | _, _, .nil => .nil
  | _, _, .cons n t r => .cons (as := []) (.int n t) (reads_ints r)
section
variable {C : Ctx} {X : Cx}
theorem call_mxD (hc : X.calm = true) (hu : X.A.units + 1 < cLine) : CallRK X (.builtin "max") [Str.ofString "default"] (rMxD C) := by
  intro pins s σ H xs zs us ws Q I r1 r2 h
  obtain ⟨F, tx, td, x, d, t, sm, rfl, rfl, rx, rd, hg, q⟩ := h
  cases r2 with
  | cons rd' r2 =>
  cases r2
  unfold mxDT at hg
  split at hg
  · rename_i m ts
    rw [Rep] at rx
    obtain ⟨_, a, ys, rfl, hn, hr⟩ := rx
    rw [Vals.ref1 r1]
    cases e : intsOf ts with
    | none => rw [e] at hg; cases hg
    | some ns =>
      have := intsOf_ok e hr; subst this
      obtain ⟨its, rv, pl, _⟩ := I.list (SqL.of (sm _ _ hn))
      have hi := rv.ints
      have fin := fun (Q' : Value → Shared → Prop) (d' : Value) h0 h1 => PySem.W.max_list_default (prog := X.prog) (w := X.w) (A := X.A) (E := X.xe) (d := d') (Q := Q') (I.ok.hd hc) pl.isList (reads_ints (h := s.heap) hi) (alike_ints ns) (by have := depth_ints ns; omega) h0 h1
      refine fin _ _ (fun h0 h' tk hk => ?_) (fun y ys' i v h' tk bs hy hv hrd hk => ?_)
      · have : ns = [] := by simpa using h0
        subst this
        rw [e] at hg
        cases hg
        exact ⟨_, H, I.kept hk, rd', q.atom sm rd⟩
      · cases ns with
        | nil => cases hy
        | cons n ns =>
          rw [e] at hg
          cases hg
          cases hy
          rw [PySem.W.maxD_ints] at hrd
          cases hrd
          exact ⟨.int _, H, I.kept hk, ⟨_, rfl⟩, q.atom sm (Rep.int.mpr rfl)⟩
  · cases hg
variable {E : XW} {p : Bool} {a b : Expr} {da db : DV} {pos px : Pos}
theorem b_mxD {kp : Pos} (hc : X.calm = true) (hu : X.A.units + 1 < cLine) (hg : Gl X "max") (hm : X.mg "max" = none) (ha : PE X a (tV C E p da)) (hb : PE X b (tV C E p db)) (hs : noStar a = true) :
    PE X (.Call (.Name "max" px) [a] [⟨some "default", b, kp⟩] pos) (tR C E p (dMxD da db)) :=
  PE_imp (pe_callBK (call_mxD (C := C) hc hu) hg hm (by decide +kernel) (pa_cons ha pa_nil (star_cons hs)) (pk_cons hb pk_nil) (he := by rw [star_cons hs]; rfl) (hpl := star_any (es := [a]) (by simp [hs]))) fun σ H Q ⟨F, ρ, As, o, env, hd, post⟩ => by
    refine seqV env hd post.xx fun x ρ1 hd v F1 H1 As1 env1 st1 pu1 r1 => ?_
    refine seqV env1 hd (fun e ρ' h => (post.xx e ρ' h).later st1) fun d ρ2 hd w F2 H2 As2 env2 st2 pu2 r2 => ?_
    split at hd
    · rename_i t ht
      cases hd
      exact ⟨F2, x, d, v, w, t, env2.sub, rfl, rfl, r1.mono st2.ff, r2, ht, end_new env2 (st1.trans st2) (pu1.trans pu2) post⟩
    · cases hd
end
end MP

namespace MP
open PySem PySem.Spec PyProof.Rows L2 GxR

/-! ### all, any of a generator expression -/
theorem over_gn {A : Around} {elt : Expr} {gens : List Comprehension} {scope : Scope} {pos : Pos} {it acc : Value} {env : PySem.Env} : A.over (.compLoop (.GeneratorExp elt gens scope pos) 0 it acc env) [] = A.deeper env := by
  first
    | rfl
    | (obtain ⟨hd, d, fr, gs, u⟩ := A; simp [Around.over, Around.deeper, marksOver, frameCount, unitsOf, envsOf, guardsOf, pushEnvs, pushGuards, Code.envs, Code.env?, Code.isFrame, Code.guards, Code.isGuard, Code.weight, Code.frames, Code.cUnits])
theorem over_gs {A : Around} {elt : Expr} {gens : List Comprehension} {scope : Scope} {pos : Pos} {it acc : Value} {env : PySem.Env} : A.over (.compStart (.GeneratorExp elt gens scope pos) 0 it acc env) [] = A.deeper env := by
  first
    | rfl
    | (obtain ⟨hd, d, fr, gs, u⟩ := A; simp [Around.over, Around.deeper, marksOver, frameCount, unitsOf, envsOf, guardsOf, pushEnvs, pushGuards, Code.envs, Code.env?, Code.isFrame, Code.guards, Code.isGuard, Code.weight, Code.frames, Code.cUnits])
structure GnOk (N : List Str) (sc scope : Scope) (own : List (Str × Nat)) : Prop where
  blk : BlkOk N sc scope own
  co : scope.isCoroutine = false
  cell : ∀ y ∈ scope.names, y.2 ≠ .cell
  dot : scope.names.lookup (".0" : Str) = some NameKind.local
/-- the frame of a generator expression, while all or any asks it -/
abbrev gnX (X : Cx) (s : Shared) (H : Hp) (cenv : PySem.Env) (fp : List Addr) (go : Addr × Obj) : Cx :=
  { X with A := X.A.in1.in1.deeper cenv, s_0 := s, H_0 := H, env := cenv, outer := X.stack, stack := cenv :: X.stack, ex := fp, fn := fun _ => false, calm := true, pn := [go], xe := fun _ _ => False }
abbrev gnEnv (X : Cx) (scope : Scope) (C : Addr) (code : Value) : PySem.Env := genEnv scope (cloFrom X.env.cells scope.names []) C code builtinsNs X.env
section
variable {X : Cx} {pins : List (Addr × Obj)} {σ : L2.St} {H : Hp} {s : Shared}
theorem gn_start {scope : Scope} {own : List (Str × Nat)} {fp : List Addr} {code : Value} {h5 : Heap} {G : Array GenState} {tk : Nat} {a : Addr} {go : Obj} {m : Str → Option Value} (I : L2.Inv X pins σ H s) (ok : GnOk X.N X.env.scope scope own) (hN : X.N.Nodup)
    (hfp : ∀ b ∈ fp, FpOk X pins H b ∧ b < s.heap.objs.size) (hns : h5.Ns s.heap.objs.size m) (hk : ∀ b o, s.heap.get? b = some o → h5.get? b = some o) (ha : s.heap.objs.size < a) (hgo : h5.get? a = some go) (hgd : ∀ v, go.data ≠ .cell v) (hG : AllBare G) (hd : X.A.handled = none) :
    L2.Inv (gnX X s H (gnEnv X scope s.heap.objs.size code) fp (a, go)) [] (wipe σ (own.map (·.2))) H { s with gens := G, toks := tk, heap := h5 } := by
  have hfree : ∀ y ∈ scope.names, y.2 = .free → ∃ c, X.env.cells.lookup y.1 = some c := fun y hy e => by
    rcases ok.blk.free y hy e with k | k
    · exact I.ok.has _ (.inl k)
    · exact I.ok.has _ (.inr k)
  have cm : ∀ {y c}, (y, c) ∈ cloFrom X.env.cells scope.names [] → X.env.cells.lookup y = some c ∧ c < s.heap.objs.size := fun {y c} hm => by
    rcases cloFrom_mem hm with hm | ⟨h1, rfl⟩
    · cases hm
    · obtain ⟨c, hc⟩ := hfree _ h1 rfl
      rw [hc]
      obtain ⟨w, z⟩ := I.cell _ _ hc
      exact ⟨rfl, z.lt⟩
  have look : ∀ {y}, scope.names.lookup y = some .free → ∃ c, (cloFrom X.env.cells scope.names []).lookup y = some c ∧ X.env.cells.lookup y = some c := fun {y} hl => by
    obtain ⟨c', e'⟩ := mem_lookup (cloFrom_has (cells := X.env.cells) (acc := []) (PySem.mem_of_lookup hl))
    exact ⟨c', e', (cm (PySem.mem_of_lookup e')).1⟩
  have okB : (gnX X s H (gnEnv X scope s.heap.objs.size code) fp (a, go)).Ok := by
    refine ⟨I.ok.mod, ok.blk.kind, I.ok.glob, rfl, Nat.le_refl _, fun y z c e1 e2 => ?_, fun y hy => ?_, fun y c z e => ?_, fun _ => hd, ?_, .inr ⟨rfl, rfl⟩, fun b hb => ⟨?_, fun y c e z => ?_⟩, I.bs, Nat.le_trans I.ok.bsz I.sz, fun b o e hb => ?_, fun b hb z => ?_, I.stack, I.stkFree⟩
    · exact I.ok.inj y z c (cm (PySem.mem_of_lookup e1)).1 (cm (PySem.mem_of_lookup e2)).1
    · rcases hy with hy | hy
      · exact absurd rfl (ok.cell _ (PySem.mem_of_lookup (show scope.names.lookup y = some .cell from hy)))
      · obtain ⟨c, h1, _⟩ := look (show scope.names.lookup y = some .free from hy)
        exact ⟨c, h1⟩
    · cases z
    · exact Around.frames_deeper (A := X.A.in1.in1) I.ok.frames
    · exact Nat.ne_of_lt (hfp b hb).2
    · exact (hfp b hb).1.2.2.2.2.1 y c (cm (PySem.mem_of_lookup e)).1 z
    · rcases (hfp b hb).1.2.2.2.1 with z | z
      · exact I.ok.noex b o e z
      · exact absurd (Nat.lt_of_lt_of_le (Heap.lt_size e) (Nat.le_trans I.ok.bsz z)) (Nat.lt_irrefl _)
    · rcases List.mem_cons.mp (I.stkSub b z) with z | z
      · exact (hfp b hb).1.2.1 z
      · exact (hfp b hb).1.2.2.1 z
  refine ⟨okB, rfl, hG, Un.kept hk, ⟨m, hns, fun i y av e1 e2 e3 => ?_⟩, fun y c e => ?_, I.hok.fresh (Nat.le_refl _), fun y c e => ?_, fun p hp => ?_, I.hok.kept hk, by rw [wipe_length]; exact I.len⟩
  · obtain ⟨e2, hne⟩ := wipe_some e2
    have e3 : Vis scope y := e3
    have hfr : scope.names.lookup y = some .free := by
      rcases e3 with e3 | e3 | e3
      · rcases ok.blk.own _ (PySem.mem_of_lookup e3) (.inl rfl) with e' | e'
        · obtain ⟨p, hp, hpy⟩ := List.mem_map.mp e'
          have e4 := ok.blk.ix p hp
          have : p.1 = y := hpy
          rw [this] at e4
          exact absurd (List.mem_map.mpr ⟨p, hp, nodup_ix hN e4 e1⟩) hne
        · exact absurd (List.mem_of_getElem? e1) e'
      · exact absurd rfl (ok.cell _ (PySem.mem_of_lookup e3))
      · exact e3
    obtain ⟨m', hn, hl⟩ := I.loc
    have hvis : Vis X.env.scope y := (ok.blk.free _ (PySem.mem_of_lookup hfr) rfl).elim (fun k => .inr (.inl k)) (fun k => .inr (.inr k))
    obtain ⟨w, r, q⟩ := hl i y av e1 e2 hvis
    obtain ⟨c, h1, h2⟩ := look hfr
    refine ⟨w, r, .inr ⟨.inr hfr, c, h1, ?_⟩⟩
    rcases q with ⟨k, _⟩ | ⟨_, c', e', o, ho, hd⟩
    · have k : X.env.scope.names.lookup y = some .local := k
      rcases ok.blk.free _ (PySem.mem_of_lookup hfr) rfl with k' | k' <;> rw [show X.env.scope.names.lookup y = _ from k'] at k <;> cases k
    · rw [h2] at e'; cases e'
      exact ⟨o, hk _ _ ho, hd⟩
  · obtain ⟨v, o, ho, hd⟩ := I.cell y c (cm (PySem.mem_of_lookup e)).1
    exact ⟨v, o, hk _ _ ho, hd⟩
  · exact I.freeC y c (cm (PySem.mem_of_lookup e)).1
  · have e : p = (a, go) := by simpa using hp
    subst e
    refine ⟨hgo, I.hok.fresh (Nat.le_of_lt ha), Nat.ne_of_gt ha, fun z => ?_, hgd⟩
    rcases List.mem_cons.mp (I.stkSub a z) with z | z
    · have := I.lt
      rw [← z] at this
      exact absurd (Nat.lt_trans this ha) (Nat.lt_irrefl _)
    · exact I.nofs (Nat.le_of_lt ha) z
/-- the generators changed alone -/
theorem inv_gens {G : Array GenState} (I : L2.Inv X pins σ H s) (hG : AllBare G) : L2.Inv X pins σ H { s with gens := G } :=
  ⟨I.ok, I.os, hG, I.base, I.loc, I.cell, I.free, I.freeC, I.pin, I.hok, I.len⟩
end
/-- what a turn asks -/
def GTurn (neg : Bool) (J : It) (g : TG) (te : TE) (vs : List Nat) (σ : L2.St) (Q : VK) (M : Nat) (W : Nat → Hp → Prop) : Prop :=
  ∀ j H, W j H → (j = M ∧ J.stop j H ∧ Q (.bl (!neg)) H) ∨ (j < M ∧ J.go j H ∧ ∀ x H', J.yld j H x H' → g x (wipe σ vs) H' fun σ2 H2 => wipe σ2 vs = wipe σ vs ∧ te σ2 H2 fun y H3 => ∃ b, y = .bl b ∧ if b = neg then Q (.bl neg) H3 else W (j + 1) H3)
/-- all(e for x in it), any(..): P the table of the def's code objects -/
def tGn (neg : Bool) (P : Addr) (wi : TI) (g : TG) (te : TE) (vs : List Nat) : TE := fun σ H Q => wi σ H fun J H1 => TabG H1 P ∧ ∀ H2, Tabbed P H1 H2 → ∃ (M : Nat) (W : Nat → Hp → Prop), W 0 H2 ∧ GTurn neg J g te vs σ Q M W
section
variable {X : Cx} {pins : List (Addr × Obj)} {σ : L2.St} {Q : VK}
def gnR (X' : Cx) (neg : Bool) (σw : L2.St) (Q : VK) : GenEnd := fun _ _ r s => r = .ok .next ∧ ∃ H, L2.Inv X' [] σw H s ∧ Q (.bl (!neg)) H
def gnY (X' : Cx) (neg : Bool) (σw : L2.St) (Q : VK) : Protocol := fun _ _ v s kap => ∃ b H, v = .bool b ∧ L2.Inv X' [] σw H s ∧ (b = neg → Q (.bl neg) H) ∧ (b ≠ neg → ∀ G, AllBare G → kap (.send .none) { s with gens := G })
theorem gn_seg {s3 : Shared} {H3 : Hp} {cenv : PySem.Env} {fp : List Addr} {go : Addr × Obj} {it : Addr} {tn : Nat → Heap → Prop} {J : It} {elt tg iter : Expr} {scope : Scope} {pos : Pos} {g : TG} {te : TE} {vs : List Nat} {neg : Bool} {M : Nat} {W : Nat → Hp → Prop}
    (T : Turn X.prog X.w X.K tg J fp it tn) (hco : cenv.scope.isCoroutine = false) (hgo : ∀ b ∈ fp, b ≠ go.1)
    (pg : PG (gnX X s3 H3 cenv fp go) tg g) (pe : PE (gnX X s3 H3 cenv fp go) elt te) (hW : GTurn neg J g te vs σ Q M W) :
    ∀ (k j : Nat) (s₀ s : Shared) (H : Hp), M - j = k → W j H → L2.Inv (gnX X s3 H3 cenv fp go) [] (wipe σ vs) H s → tn j s.heap → (∀ b ∈ fp, H b = none) →
      Seg (model X.prog X.w) X.A.in1.in1 (gnR (gnX X s3 H3 cenv fp go) neg (wipe σ vs) Q) (gnY (gnX X s3 H3 cenv fp go) neg (wipe σ vs) Q) k s₀
        (.compLoop (.GeneratorExp elt [⟨tg, iter, [], 0⟩] scope pos) 0 (.ref it) .none cenv) ((model X.prog X.w).den (.compLoop (.GeneratorExp elt [⟨tg, iter, [], 0⟩] scope pos) 0 (.ref it) .none cenv)) [] s := by
  have stat : ∀ {σ' : L2.St} {H' : Hp} {s' : Shared}, L2.Inv (gnX X s3 H3 cenv fp go) [] σ' H' s' → (∀ b ∈ fp, H' b = none) → ∀ b ∈ fp, FpOk (gnX X s3 H3 cenv fp go) [] H' b := fun {σ' H' s'} I' hn b hb =>
    ⟨hn b hb, (I'.ok.exf b hb).1, I'.ok.exfs b hb, .inl hb, fun x c e => (I'.ok.exf b hb).2 x c e, fun p hp => by
      have e : p = go := by simpa using hp
      subst e
      exact fun z => hgo b hb z.symm⟩
  have hy : ∀ v, yieldOut cenv v = yieldValue v := fun v => by simp only [yieldOut, hco, Bool.false_eq_true, if_false]
  intro k
  induction k with
  | zero =>
    intro j s₀ s H hk w I st nf
    show Seg _ _ _ _ _ s₀ _ ((compTurn (.GeneratorExp elt [⟨tg, iter, [], 0⟩] scope pos) 0 (.ref it) .none cenv).onRaise (leaving cenv)) [] s
    rw [compTurn_gen, Sem.onRaise_eq_wrap]
    refine seg_bind_wrap (wpAny_standAt ?_)
    refine seg_bind_wrap ?_
    rw [over_gn]
    rcases hW j H w with ⟨e, stop, q⟩ | ⟨lt, _, _⟩
    · have td := T.done (gnX X s3 H3 cenv fp go) rfl rfl rfl rfl j [] s _ H (fun _ _ => False) I (stat I nf) st stop
      refine thnF td fun r s6 ⟨hr, I6⟩ => ?_
      subst hr
      exact seg_end (.ok .next) ⟨rfl, H, I6, q⟩
    · omega
  | succ k ih =>
    intro j s₀ s H hk w I st nf
    show Seg _ _ _ _ _ s₀ _ ((compTurn (.GeneratorExp elt [⟨tg, iter, [], 0⟩] scope pos) 0 (.ref it) .none cenv).onRaise (leaving cenv)) [] s
    rw [compTurn_gen, Sem.onRaise_eq_wrap]
    refine seg_bind_wrap (wpAny_standAt ?_)
    refine seg_bind_wrap ?_
    rw [over_gn]
    rcases hW j H w with ⟨e, stop, q⟩ | ⟨lt, go', step⟩
    · omega
    · have ti := T.item (gnX X s3 H3 cenv fp go) rfl rfl rfl rfl j [] s _ H (fun _ _ => False) I (stat I nf) st go'
      refine thnF ti fun r s6 ⟨u, hr, h6⟩ => ?_
      subst hr
      refine seg_bind_wrap ?_
      rw [over_gn]
      refine thnF h6 fun _ s7 ⟨x, H7, I7, r7, y7, st7, n7⟩ => ?_
      refine seg_bind_wrap ?_
      rw [over_gn]
      have I7' := I7.pinned (stat I7 n7) (T.obj _ _ st7)
      refine thnF (pg.run _ s7 _ H7 x u _ I7' r7 (step x H7 y7)) fun _ s8 ⟨σ8, H8, I8, hw8, q8⟩ => ?_
      refine seg_bind_wrap ?_
      simp only [List.forIn_nil]
      refine wpAny_pure ?_
      simp only [if_true, hy]
      rw [Sem.bind_eq_wrap', Sem.bind_eq_wrap', Sem.wrap_wrap, Sem.wrap_wrap]
      refine seg_wrap ?_
      rw [over_gn]
      refine thnF (pe.run _ s8 σ8 H8 _ I8 q8) fun y s9 ⟨yv, H9, I9, r9, b, eb, q9⟩ => ?_
      subst eb
      obtain rfl : y = Value.bool b := r9
      have hl : (wipe σ vs).length = σ8.length := by rw [← hw8, wipe_length]
      have pin' : ∀ b ∈ fp, ∀ o, s7.heap.get? b = some o → s9.heap.get? b = some o ∧ H9 b = none := fun b hb o e =>
        let z := I9.pin (b, o) (List.mem_append_right _ (List.mem_append_right _ (mem_pinsAt hb e)))
        ⟨z.1, z.2.1⟩
      have I10 : L2.Inv (gnX X s3 H3 cenv fp go) [] (wipe σ vs) H9 s9 := (I9.unpinned (pins := [])).weak hl fun j v e => by
        rw [← hw8] at e
        exact (wipe_some e).1
      have st10 : tn (j + 1) s9.heap := T.keep _ _ _ st7 fun b hb o e => (pin' b hb o e).1
      have nf10 : ∀ b ∈ fp, H9 b = none := fun b hb => by
        obtain ⟨o, e, _⟩ := T.obj _ _ st7 b hb
        exact (pin' b hb o e).2
      refine seg_at (seg_yield rfl rfl rfl ⟨b, H9, rfl, I10, fun hb => ?_, fun hb G hG => ?_⟩)
      · rw [if_pos hb] at q9; exact q9
      · rw [if_neg hb] at q9
        exact seg_again rfl (ih (j + 1) _ { s9 with gens := G } H9 (by omega) q9 (inv_gens I10 hG) st10 nf10)
theorem bare_set {gens : Array GenState} {g : Nat} {x : GenState} (h : AllBare gens) (hx : x.bare = true) : AllBare (gens.setIfInBounds g x) := fun y hy => by
  obtain ⟨i, hi, rfl⟩ := Array.mem_iff_getElem.mp hy
  have hi' : i < gens.size := by simpa using hi
  rw [Array.getElem_setIfInBounds hi']
  split
  · exact hx
  · exact h _ (Array.getElem_mem hi')
/-- all's loop over it -/
theorem gn_all_loop {X' : Cx} {σw : L2.St} {a : Addr} {go : Obj} {g : Nat} {Rr : Result → Shared → Prop} (hd : X.A.handled = none) (hroom : X.A.in1.depth < recursionLimit) (hpn : X'.pn = [(a, go)]) (hg : ∀ h : Heap, h.get? a = some go → h.IsGen a g)
    (fin : ∀ v u H' s' , L2.Inv X' [] σw H' s' → RelV v u → Q v H' → Rr (.ok (.ret u)) s') :
    ∀ (n : Nat) (s : Shared) (H : Hp) (gs : GenState), L2.Inv X' [] σw H s → s.gens[g]? = some gs → gs.Goes (model X.prog X.w) X.A.in1.in1 (gnR X' false σw Q) (gnY X' false σw Q) n (.send .none) (s.setGen g .running) →
      codeAny (model X.prog X.w) X.A (.builtin "all.loop" ⟨[.ref a], []⟩) Rr s := by
  intro n
  induction n with
  | zero =>
    intro s H gs I hgs hgo
    have hga := hg _ (I.pin (a, go) (by rw [hpn]; simp)).1
    refine codeAny_builtin PySem.F.entry_all_loop ?_
    rw [Around.under_plainId PySem.F.plain_all_loop _]
    show wpAny _ X.A.in1 (pyNext (.ref a) >>= _) _ _ s
    refine wpAny_bind (wpAny_pyNext_genexpQ (A := X.A.in1) (P := fun _ _ s₁ => ∃ H, L2.Inv X' [] σw H s₁ ∧ Q (.bl (!false)) H) hd I.nolimit hroom hga hgs hgo (fun v s₁ gs' hb hv => ?_) (fun s₁ hp h' hk => ?_))
    · obtain ⟨b, H1, rfl, I1, q1, q2⟩ := hv
      have hb9 : b = false := by
        cases b with
        | false => rfl
        | true => exact False.elim (q2 (by decide) s₁.gens I1.bare)
      subst hb9
      refine wpAny_bind (wpAny_holding (wpAny_truthy_bool ?_))
      refine wpAny_bind (wpAny_letGo ?_)
      simp only [Bool.false_eq_true, if_false, if_true]
      refine wpAny_bind (wpAny_rule (wpAny_pure ?_))
      exact fin (.bl false) _ H1 _ (inv_gens I1 (bare_set I1.bare hb)) rfl (q1 rfl)
    · obtain ⟨H1, I1, q⟩ := hp
      refine wpAny_bind (wpAny_rule (wpAny_pure ?_))
      exact fin (.bl true) _ H1 _ (inv_gens (I1.kept (t' := s₁.toks) hk) (bare_set I1.bare rfl)) rfl q
  | succ n ih =>
    intro s H gs I hgs hgo
    have hga := hg _ (I.pin (a, go) (by rw [hpn]; simp)).1
    have hlt : g + 1 ≤ s.gens.size := by
      rcases Nat.lt_or_ge g s.gens.size with z | z
      · exact z
      · rw [Array.getElem?_eq_none z] at hgs; cases hgs
    refine codeAny_builtin PySem.F.entry_all_loop ?_
    rw [Around.under_plainId PySem.F.plain_all_loop _]
    show wpAny _ X.A.in1 (pyNext (.ref a) >>= _) _ _ s
    refine wpAny_bind (GenW.wpAny_gsz (n := g + 1) hlt ?_)
    refine wpAny_pyNext_genexpQ (A := X.A.in1) (P := fun _ _ s₁ => ∃ H, L2.Inv X' [] σw H s₁ ∧ Q (.bl (!false)) H) hd I.nolimit hroom hga hgs hgo (fun v s₁ gs' hb hv => fun hsz => ?_) (fun s₁ hp h' hk => fun _ => ?_)
    · obtain ⟨b, H1, rfl, I1, q1, q2⟩ := hv
      have I2 := inv_gens I1 (bare_set (g := g) I1.bare hb)
      refine wpAny_bind (wpAny_holding (wpAny_truthy_bool ?_))
      refine wpAny_bind (wpAny_letGo ?_)
      cases b with
      | false =>
        simp only [Bool.false_eq_true, if_false, if_true]
        refine wpAny_bind (wpAny_rule (wpAny_pure ?_))
        exact fin (.bl false) _ H1 _ I2 rfl (q1 rfl)
      | true =>
        simp only [Bool.false_eq_true, if_false, if_true]
        have hsz' : g < s₁.gens.size := by rw [GenW.setGen_size] at hsz; exact hsz
        have h9 : (s₁.setGen g gs').gens[g]? = some gs' := by simp [Shared.setGen, hsz']
        refine wpAny_pure ⟨plainId_quiet PySem.F.plain_all_loop _, ih (s₁.setGen g gs') H1 gs' I2 h9 ?_⟩
        have k9 := q2 (by decide) (((s₁.setGen g gs').setGen g .running).gens) (bare_set (bare_set I1.bare hb) rfl)
        exact k9
    · obtain ⟨H1, I1, q⟩ := hp
      refine wpAny_bind (wpAny_rule (wpAny_pure ?_))
      exact fin (.bl true) _ H1 _ (inv_gens (I1.kept (t' := s₁.toks) hk) (bare_set I1.bare rfl)) rfl q
/-- any's loop over it -/
theorem gn_any_loop {X' : Cx} {σw : L2.St} {a : Addr} {go : Obj} {g : Nat} {Rr : Result → Shared → Prop} (hd : X.A.handled = none) (hroom : X.A.in1.depth < recursionLimit) (hpn : X'.pn = [(a, go)]) (hg : ∀ h : Heap, h.get? a = some go → h.IsGen a g)
    (fin : ∀ v u H' s' , L2.Inv X' [] σw H' s' → RelV v u → Q v H' → Rr (.ok (.ret u)) s') :
    ∀ (n : Nat) (s : Shared) (H : Hp) (gs : GenState), L2.Inv X' [] σw H s → s.gens[g]? = some gs → gs.Goes (model X.prog X.w) X.A.in1.in1 (gnR X' true σw Q) (gnY X' true σw Q) n (.send .none) (s.setGen g .running) →
      codeAny (model X.prog X.w) X.A (.builtin "any.loop" ⟨[.ref a], []⟩) Rr s := by
  intro n
  induction n with
  | zero =>
    intro s H gs I hgs hgo
    have hga := hg _ (I.pin (a, go) (by rw [hpn]; simp)).1
    refine codeAny_builtin PySem.F.entry_any_loop ?_
    rw [Around.under_plainId PySem.F.plain_any_loop _]
    show wpAny _ X.A.in1 (pyNext (.ref a) >>= _) _ _ s
    refine wpAny_bind (wpAny_pyNext_genexpQ (A := X.A.in1) (P := fun _ _ s₁ => ∃ H, L2.Inv X' [] σw H s₁ ∧ Q (.bl (!true)) H) hd I.nolimit hroom hga hgs hgo (fun v s₁ gs' hb hv => ?_) (fun s₁ hp h' hk => ?_))
    · obtain ⟨b, H1, rfl, I1, q1, q2⟩ := hv
      have hb9 : b = true := by
        cases b with
        | true => rfl
        | false => exact False.elim (q2 (by decide) s₁.gens I1.bare)
      subst hb9
      refine wpAny_bind (wpAny_holding (wpAny_truthy_bool ?_))
      refine wpAny_bind (wpAny_letGo ?_)
      simp only [Bool.false_eq_true, if_false, if_true]
      refine wpAny_bind (wpAny_rule (wpAny_pure ?_))
      exact fin (.bl true) _ H1 _ (inv_gens I1 (bare_set I1.bare hb)) rfl (q1 rfl)
    · obtain ⟨H1, I1, q⟩ := hp
      refine wpAny_bind (wpAny_rule (wpAny_pure ?_))
      exact fin (.bl false) _ H1 _ (inv_gens (I1.kept (t' := s₁.toks) hk) (bare_set I1.bare rfl)) rfl q
  | succ n ih =>
    intro s H gs I hgs hgo
    have hga := hg _ (I.pin (a, go) (by rw [hpn]; simp)).1
    have hlt : g + 1 ≤ s.gens.size := by
      rcases Nat.lt_or_ge g s.gens.size with z | z
      · exact z
      · rw [Array.getElem?_eq_none z] at hgs; cases hgs
    refine codeAny_builtin PySem.F.entry_any_loop ?_
    rw [Around.under_plainId PySem.F.plain_any_loop _]
    show wpAny _ X.A.in1 (pyNext (.ref a) >>= _) _ _ s
    refine wpAny_bind (GenW.wpAny_gsz (n := g + 1) hlt ?_)
    refine wpAny_pyNext_genexpQ (A := X.A.in1) (P := fun _ _ s₁ => ∃ H, L2.Inv X' [] σw H s₁ ∧ Q (.bl (!true)) H) hd I.nolimit hroom hga hgs hgo (fun v s₁ gs' hb hv => fun hsz => ?_) (fun s₁ hp h' hk => fun _ => ?_)
    · obtain ⟨b, H1, rfl, I1, q1, q2⟩ := hv
      have I2 := inv_gens I1 (bare_set (g := g) I1.bare hb)
      refine wpAny_bind (wpAny_holding (wpAny_truthy_bool ?_))
      refine wpAny_bind (wpAny_letGo ?_)
      cases b with
      | true =>
        simp only [Bool.false_eq_true, if_false, if_true]
        refine wpAny_bind (wpAny_rule (wpAny_pure ?_))
        exact fin (.bl true) _ H1 _ I2 rfl (q1 rfl)
      | false =>
        simp only [Bool.false_eq_true, if_false, if_true]
        have hsz' : g < s₁.gens.size := by rw [GenW.setGen_size] at hsz; exact hsz
        have h9 : (s₁.setGen g gs').gens[g]? = some gs' := by simp [Shared.setGen, hsz']
        refine wpAny_pure ⟨plainId_quiet PySem.F.plain_any_loop _, ih (s₁.setGen g gs') H1 gs' I2 h9 ?_⟩
        have k9 := q2 (by decide) (((s₁.setGen g gs').setGen g .running).gens) (bare_set (bare_set I1.bare hb) rfl)
        exact k9
    · obtain ⟨H1, I1, q⟩ := hp
      refine wpAny_bind (wpAny_rule (wpAny_pure ?_))
      exact fin (.bl false) _ H1 _ (inv_gens (I1.kept (t' := s₁.toks) hk) (bare_set I1.bare rfl)) rfl q
/-- the generator stands, it has not begun -/
theorem gn_made {pins : List (Addr × Obj)} {s : Shared} {H : Hp} {own : List (Str × Nat)} {c P : Addr} {elt tg iter : Expr} {scope : Scope} {gpos : Pos} {wi : TI} {g : TG} {te : TE} {neg : Bool} {k : Nat} {R' : Value → Shared → Prop}
    (hr : Room (k + 1) X.A) (TB : TabB X.base X.mg c P) (hcode : X.env.code = .ref c) (ok : GnOk X.N X.env.scope scope own) (hN : X.N.Nodup) (hi : PI X tg iter wi)
    (hgt : ∀ (s : Shared) (H : Hp) (C : Addr) (code : Value) (fp : List Addr) (go : Addr × Obj), Room k (gnX X s H (gnEnv X scope C code) fp go).A → PG (gnX X s H (gnEnv X scope C code) fp go) tg g)
    (he : ∀ (s : Shared) (H : Hp) (C : Addr) (code : Value) (fp : List Addr) (go : Addr × Obj), Room k (gnX X s H (gnEnv X scope C code) fp go).A → PE (gnX X s H (gnEnv X scope C code) fp go) elt te)
    (hs : ∀ v, genFold iter X.env v = pure v) (I : L2.Inv X pins σ H s) (h : tGn neg P wi g te (own.map (·.2)) σ H Q)
    (hR : ∀ (X' : Cx) (σw : L2.St) (a : Addr) (go : Obj) (gi : Nat) (M : Nat) (H' : Hp) (gs : GenState) (s' : Shared), X'.pn = [(a, go)] → (∀ h : Heap, h.get? a = some go → h.IsGen a gi) → (∀ v u H' s' , L2.Inv X' [] σw H' s' → RelV v u → Q v H' → EP X pins σ Q u s') →
      L2.Inv X' [] σw H' s' → s'.gens[gi]? = some gs → (∀ G, AllBare G → gs.Goes (model X.prog X.w) X.A.in1.in1 (gnR X' neg σw Q) (gnY X' neg σw Q) M (.send .none) { s' with gens := G }) → R' (.ref a) s') :
    wpAny (model X.prog X.w) X.A (eval (.GeneratorExp elt [⟨tg, iter, [], 0⟩] scope gpos) X.env) R' X.xe s := by
  have hfree : ∀ y ∈ scope.names, y.2 = .free → ∃ c, X.env.cells.lookup y.1 = some c := fun y hy e => by
    rcases ok.blk.free y hy e with k | k
    · exact I.ok.has _ (.inl k)
    · exact I.ok.has _ (.inr k)
  refine wpAny_GeneratorExp_make ok.co (closure_ok hfree) ok.cell ok.dot ok.blk.kind (by have := hr.dp; omega) ?_ hs
  refine thn (hi.run pins s σ H _ I h) fun xv s1 hx => thn hx fun itv s2 h2 => ?_
  obtain ⟨it, fp, tn, J, H2, e, I2, T, st2, f2, ⟨⟨ps, hP, ht⟩, q⟩⟩ := h2
  subst e
  have hPs : s2.heap.get? P = some { cls := .none, data := .fields ps } := I2.hok P _ hP
  have cd : PySem.W.CodeHd s2.heap c P := TB.code.keeps I2.bk
  refine ⟨I2.nolimit, ?_⟩
  have cont : ∀ (code : Value) (h3 : Heap) (tk : Nat) (ps' : Array Value), Heap.ExtBut P s2.heap h3 → s2.heap.objs.size ≤ h3.objs.size → h3.get? P = some { cls := .none, data := .fields ps' } → (∃ more, ps' = ps ++ more) → TriplesOk ps'.toList →
      wpAny (model X.prog X.w) X.A (builtinsFor X.env.globals X.env.builtins) (fun bi s₄ =>
        ∀ h', h'.Ns s₄.heap.objs.size (fun y => if y = ".0" then some (.ref it) else none) → Heap.SameBut s₄.heap.objs.size (s₄.heap.push { cls := .type "frame", data := .dict #[] }) h' →
          R' (.ref h'.objs.size) { s₄ with
            gens := s₄.gens.push (.fresh (.compStart (.GeneratorExp elt [⟨tg, iter, [], 0⟩] scope gpos) 0 (.ref it) .none (genEnv scope (cloFrom X.env.cells scope.names []) s₄.heap.objs.size code bi X.env))),
            toks := s₄.toks + 1 + 1 + 1,
            heap := h'.push { cls := .type "generator", data := .fields #[.int s₄.gens.size 0, .str "<genexpr>" (s₄.toks + 1), .str (X.env.qual ++ "<genexpr>") (s₄.toks + 1 + 1)] } }) X.xe { s2 with heap := h3, toks := tk } := by
    intro code h3 tk ps' hx hsz hP3 hmore ht3
    obtain ⟨more, em⟩ := hmore
    have I4 := inv_tab (more := more) (h' := h3) (g' := s2.gens) (d' := s2.drawn) (t' := tk) I2 hP (fun b o hb e => hx b o hb e) (by rw [← em]; exact hP3) I2.bare
    obtain ⟨M, W, w0, hW⟩ := q (upd H2 P (.tbl (ps ++ more))) ⟨⟨ps ++ more, upd_same, by rw [← em]; exact ht3⟩, fun b hb => upd_ne hb⟩
    generalize hs4 : ({ s2 with heap := h3, gens := s2.gens, drawn := s2.drawn, toks := tk } : Shared) = s4 at I4
    have h34 : s4.heap = h3 := by rw [← hs4]
    obtain ⟨bm, ob, e1, e2, e3, e4, e5, e6, e7, e8⟩ := TB.bm
    refine wpAny_builtinsFor (m := X.mg) (by rw [I4.ok.glob]; exact I4.mod.glob.keeps I4.bk) e1 e2 (I4.bk _ _ e5) e6 e7 e8 ?_
    intro h' hn' hsb
    have fne : ∀ b ∈ fp, b ≠ P := fun b hb z => by
      have := (f2 b hb).1
      rw [z, hP] at this; cases this
    have st4 : tn 0 s4.heap := T.keep _ _ _ st2 fun b hb o e => by rw [h34]; exact hx b o (fne b hb) e
    have f4 : ∀ b ∈ fp, FpOk X pins (upd H2 P (.tbl (ps ++ more))) b ∧ b < s4.heap.objs.size := fun b hb => by
      refine ⟨⟨by rw [upd_ne (fne b hb)]; exact (f2 b hb).1, (f2 b hb).2⟩, ?_⟩
      obtain ⟨o, e, _⟩ := T.obj _ _ st4 b hb
      exact Heap.lt_size e
    have hsz5 : h'.objs.size = s4.heap.objs.size + 1 := by rw [hsb.1, Heap.size_push]
    have keep' : ∀ b o, s4.heap.get? b = some o → h'.get? b = some o := fun b o e => hsb.extBut b o (Nat.ne_of_lt (Heap.lt_size e)) (Heap.get?_push_of_some _ e)
    generalize hgo : ({ cls := .type "generator", data := .fields #[.int s4.gens.size 0, .str "<genexpr>" (s4.toks + 1), .str (X.env.qual ++ "<genexpr>") (s4.toks + 1 + 1)] } : Obj) = go
    have keep5 : ∀ b o, s4.heap.get? b = some o → (h'.push go).get? b = some o := fun b o e => Heap.get?_push_of_some _ (keep' b o e)
    have isg : ∀ h : Heap, h.get? h'.objs.size = some go → h.IsGen h'.objs.size s4.gens.size := fun h e => by subst hgo; exact ⟨_, _, _, e, rfl, rfl, rfl⟩
    have hgd : ∀ v, go.data ≠ .cell v := fun v => by subst hgo; intro z; cases z
    have hgot : (h'.push go).get? h'.objs.size = some go := Heap.get?_push_size _ (by subst hgo; rfl)
    have hd : X.A.handled = none := hr.hd
    have I5 := gn_start (code := code) (h5 := h'.push go) (G := s4.gens.push (.fresh (.compStart (.GeneratorExp elt [⟨tg, iter, [], 0⟩] scope gpos) 0 (.ref it) .none (gnEnv X scope s4.heap.objs.size code)))) (tk := s4.toks + 1 + 1 + 1) (go := go) I4 ok hN f4 (hn'.push _) keep5 (by rw [hsz5]; exact Nat.lt_succ_self _) hgot hgd (AllBare.push I4.bare rfl) hd
    have hgo' : ∀ b ∈ fp, b ≠ (h'.objs.size, go).1 := fun b hb z => by
      have h1 := (f4 b hb).2
      have z : b = h'.objs.size := z
      rw [z, hsz5] at h1
      exact absurd h1 (Nat.not_lt_of_lt (Nat.lt_succ_self _))
    have rm : Room k (gnX X s4 (upd H2 P (.tbl (ps ++ more))) (gnEnv X scope s4.heap.objs.size code) fp (h'.objs.size, go)).A :=
      ⟨hr.hd, by have := hr.dp; show X.A.depth + 1 + 3 * k + 5 < _; omega, by have := hr.un; show X.A.units + 1 + 1 + 3 + 16 * k + 200 < _; omega⟩
    have pg := hgt s4 (upd H2 P (.tbl (ps ++ more))) s4.heap.objs.size code fp (h'.objs.size, go) rm
    have pe := he s4 (upd H2 P (.tbl (ps ++ more))) s4.heap.objs.size code fp (h'.objs.size, go) rm
    refine hR _ _ h'.objs.size go s4.gens.size (M - 0) (upd H2 P (.tbl (ps ++ more))) _ _ rfl isg (fun v u H' s' I' rv qv => ?_) I5 (Array.getElem?_push_size ..) fun G hG => ⟨rfl, ?_⟩
    · have I6 : L2.Inv X pins σ H' s' := I4.call' (ch := fp) I'.os I'.base I'.hok I'.bare fun b hb => ⟨(f4 b hb).1.2.2.2.1, (f4 b hb).1.2.1, (f4 b hb).1.2.2.2.2.1, (f4 b hb).1.2.2.2.2.2⟩
      exact ⟨v, H', I6, rv, qv⟩
    · have loop := gn_seg (iter := iter) (scope := scope) (pos := gpos) T (show (gnEnv X scope s4.heap.objs.size code).scope.isCoroutine = false from ok.co) hgo' pg pe hW (M - 0) 0
      have nf : ∀ b ∈ fp, (upd H2 P (.tbl (ps ++ more))) b = none := fun b hb => (f4 b hb).1.1
      have stG : ∀ G : Array GenState, tn 0 ({ s4 with gens := G, toks := s4.toks + 1 + 1 + 1, heap := h'.push go } : Shared).heap := fun G => T.keep _ _ _ st4 fun b hb o e => keep5 b o e
      show Seg _ _ _ _ _ _ _ ((compStart (.GeneratorExp elt [⟨tg, iter, [], 0⟩] scope gpos) 0 (.ref it) .none (gnEnv X scope s4.heap.objs.size code)).onRaise (leaving (gnEnv X scope s4.heap.objs.size code))) [] _
      unfold compStart
      rw [Sem.onRaise_eq_wrap]
      show Seg _ _ _ _ _ _ _ ((ask >>= _).wrap _ _ _ _) [] _
      refine seg_bind_wrap (wpAny_askSetting ?_)
      have go1 := fun s₀ => loop s₀ ({ s4 with gens := G, toks := s4.toks + 1 + 1 + 1, heap := h'.push go } : Shared) _ rfl w0 (inv_gens I5 hG) (stG G) nf
      split
      · exact seg_again rfl (go1 _)
      · first
          | exact seg_bind_wrap (wpAny_rule (seg_bind_wrap (wpAny_standAt (seg_bind_wrap (T.self _ 0 _ _ _ (stG G) (seg_again rfl (go1 _)))))))
          | (refine seg_bind_wrap (wpAny_rule ?_)
             show Seg _ _ _ _ _ _ _ ((standAt iter.pos >>= _).wrap _ _ _ _) [] _
             exact seg_bind_wrap (wpAny_standAt (seg_bind_wrap (T.self _ 0 _ _ _ (stG G) (seg_again rfl (go1 _))))))
  cases hf : codeAmong gpos ps.toList with
  | none =>
    refine wpAny_genexprCodeX hcode (cd.code hPs ht) (cd.tab hPs) hf fun c' h' tk hx hge hlt hco' _ htab' _ => ?_
    obtain ⟨o1, vs, f1, tf, fl, tg, inF, tx, tt, op, _, _, _, _, _, _, _, _, _, htr, _⟩ := hco'
    exact cont _ h' tk _ hx (Nat.le_trans hge (Nat.le_of_lt hlt)) htab'.2 ⟨_, rfl⟩ htr
  | some cv =>
    refine wpAny_genexprCode_hit hcode (cd.code hPs ht) hf ?_
    exact cont cv s2.heap s2.toks ps (Heap.ExtBut.refl _ _) (Nat.le_refl _) hPs ⟨#[], by simp⟩ ht
theorem pe_gn_all {own : List (Str × Nat)} {c P : Addr} {elt tg iter : Expr} {scope : Scope} {p pos gpos : Pos} {wi : TI} {g : TG} {te : TE} {k : Nat}
    (hr : Room (k + 1) X.A) (hgl : Gl X "all") (hm : X.mg "all" = none) (TB : TabB X.base X.mg c P) (hcode : X.env.code = .ref c) (ok : GnOk X.N X.env.scope scope own) (hN : X.N.Nodup) (hi : PI X tg iter wi)
    (hgt : ∀ (s : Shared) (H : Hp) (C : Addr) (code : Value) (fp : List Addr) (go : Addr × Obj), Room k (gnX X s H (gnEnv X scope C code) fp go).A → PG (gnX X s H (gnEnv X scope C code) fp go) tg g)
    (he : ∀ (s : Shared) (H : Hp) (C : Addr) (code : Value) (fp : List Addr) (go : Addr × Obj), Room k (gnX X s H (gnEnv X scope C code) fp go).A → PE (gnX X s H (gnEnv X scope C code) fp go) elt te)
    (hs : ∀ v, genFold iter X.env v = pure v)
    (hst : starEach [.GeneratorExp elt [⟨tg, iter, [], 0⟩] scope gpos] X.env = (false, eval (.GeneratorExp elt [⟨tg, iter, [], 0⟩] scope gpos) X.env) :: starEach [] X.env := by rfl) :
    PE X (.Call (.Name "all" p) [.GeneratorExp elt [⟨tg, iter, [], 0⟩] scope gpos] [] pos) (tGn false P wi g te (own.map (·.2))) := by
  refine ⟨fun pins s σ H Q I h => ?_⟩
  have hb : bootBuiltins "all" = some (.builtin "all") := by decide +kernel
  refine wpAny_Call_Name_kw (ld_blt I hgl hm hb ?_)
  refine PyProof.Rows.callWith_builtin1 ?_ hst (by rfl)
  rw [hst]
  show wpAny _ _ (spliced ((false, eval (.GeneratorExp elt [⟨tg, iter, [], 0⟩] scope gpos) X.env) :: backTo pos (starEach [] X.env))) _ _ s
  refine Calls.spliced_cons (gn_made hr TB hcode ok hN hi hgt he hs I h fun X' σw a go gi M H' gs s' hpn isg fin I' hgs goes => ?_)
  refine Calls.spliced_nil ?_
  have hga := isg _ (I'.pin (a, go) (by rw [hpn]; simp)).1
  refine call_function_tree PySem.F.kind_all PySem.F.plain_all PySem.F.entry_all (PySem.F.args_all1 _) ?_
  unfold Builtin.«all»
  refine wpAny_bind (m := oneArg "all" _) (wpAny_pure ?_)
  refine wpAny_bind (wpAny_pyIter_gen hga ?_)
  refine wpAny_pure ⟨plainId_quiet PySem.F.plain_all_loop _, ?_⟩
  refine gn_all_loop (Q := Q) hr.hd (by have := hr.dp; show X.A.depth < _; omega) hpn isg fin M s' H' gs I' hgs ?_
  exact goes _ (bare_set I'.bare rfl)
theorem pe_gn_any {own : List (Str × Nat)} {c P : Addr} {elt tg iter : Expr} {scope : Scope} {p pos gpos : Pos} {wi : TI} {g : TG} {te : TE} {k : Nat}
    (hr : Room (k + 1) X.A) (hgl : Gl X "any") (hm : X.mg "any" = none) (TB : TabB X.base X.mg c P) (hcode : X.env.code = .ref c) (ok : GnOk X.N X.env.scope scope own) (hN : X.N.Nodup) (hi : PI X tg iter wi)
    (hgt : ∀ (s : Shared) (H : Hp) (C : Addr) (code : Value) (fp : List Addr) (go : Addr × Obj), Room k (gnX X s H (gnEnv X scope C code) fp go).A → PG (gnX X s H (gnEnv X scope C code) fp go) tg g)
    (he : ∀ (s : Shared) (H : Hp) (C : Addr) (code : Value) (fp : List Addr) (go : Addr × Obj), Room k (gnX X s H (gnEnv X scope C code) fp go).A → PE (gnX X s H (gnEnv X scope C code) fp go) elt te)
    (hs : ∀ v, genFold iter X.env v = pure v)
    (hst : starEach [.GeneratorExp elt [⟨tg, iter, [], 0⟩] scope gpos] X.env = (false, eval (.GeneratorExp elt [⟨tg, iter, [], 0⟩] scope gpos) X.env) :: starEach [] X.env := by rfl) :
    PE X (.Call (.Name "any" p) [.GeneratorExp elt [⟨tg, iter, [], 0⟩] scope gpos] [] pos) (tGn true P wi g te (own.map (·.2))) := by
  refine ⟨fun pins s σ H Q I h => ?_⟩
  have hb : bootBuiltins "any" = some (.builtin "any") := by decide +kernel
  refine wpAny_Call_Name_kw (ld_blt I hgl hm hb ?_)
  refine PyProof.Rows.callWith_builtin1 ?_ hst (by rfl)
  rw [hst]
  show wpAny _ _ (spliced ((false, eval (.GeneratorExp elt [⟨tg, iter, [], 0⟩] scope gpos) X.env) :: backTo pos (starEach [] X.env))) _ _ s
  refine Calls.spliced_cons (gn_made hr TB hcode ok hN hi hgt he hs I h fun X' σw a go gi M H' gs s' hpn isg fin I' hgs goes => ?_)
  refine Calls.spliced_nil ?_
  have hga := isg _ (I'.pin (a, go) (by rw [hpn]; simp)).1
  refine call_function_tree PySem.F.kind_any PySem.F.plain_any PySem.F.entry_any (PySem.F.args_any1 _) ?_
  unfold Builtin.«any»
  refine wpAny_bind (m := oneArg "any" _) (wpAny_pure ?_)
  refine wpAny_bind (wpAny_pyIter_gen hga ?_)
  refine wpAny_pure ⟨plainId_quiet PySem.F.plain_any_loop _, ?_⟩
  refine gn_any_loop (Q := Q) hr.hd (by have := hr.dp; show X.A.depth < _; omega) hpn isg fin M s' H' gs I' hgs ?_
  exact goes _ (bare_set I'.bare rfl)
end
end MP

namespace MP
open PySem PySem.Spec PyProof.Rows L2 GxR LamX

/-! ### all, any of a generator expression, by trees -/
def gnL (neg : Bool) (s : T → Rho → Option Rho) (vs : List Nat) (el : DV) : List T → Rho → Option (Bool × Rho)
  | [], ρ => some (!neg, ρ)
  | t :: ts, ρ => match s t ρ with
    | none => none
    | some ρ1 => match el ρ1 with
      | some (.ok (.bl b) ρ2) => if b = neg then some (neg, wipeR ρ2 vs) else gnL neg s vs el ts (wipeR ρ2 vs)
      | _ => none
def dGn (neg : Bool) (s : T → Rho → Option Rho) (vs : List Nat) (it : DI) (el : DV) : DR := bnd it fun ts ρ =>
  if bare ρ vs = true then match gnL neg s vs el ts ρ with
    | some (b, ρ') => some (.ok (.tv (.bl b)) ρ')
    | none => none
  else none
theorem tabbed_env {C : Ctx} {F H H2 : Hp} {σ : L2.St} {ρ : Rho} {As : Ads} {P : Addr} (env : Env C F H σ ρ As) (hP : C.tb P) (h : Tabbed P H H2) : Env C F H2 σ ρ As := by
  obtain ⟨hG, hk⟩ := h
  have g0 := env.ht.2 P hP
  have nP : ∀ b u, F b = some u → b ≠ P := fun b u h z => by
    obtain ⟨ps, q, _⟩ := g0
    have := env.sub _ _ h
    rw [z, q] at this
    cases this
    exact env.ht.1 b ps h
  have aP : ∀ i, ∀ a ∈ As i, a ≠ P := fun i a ha z => by
    obtain ⟨ps, q, _⟩ := g0
    exact env.ntb ha ps (by rw [z]; exact q)
  refine env.grow (Same.refl _) (fun b u h => by rw [hk b (nP b u h)]; exact env.sub _ _ h) (fun i a ha => ⟨hk a (aP i a ha), (env.has ha).1⟩) ⟨env.ht.1, fun P' hP' => ?_⟩
  by_cases e : P' = P
  · rw [e]; exact hG
  · obtain ⟨ps, q1, q2⟩ := env.ht.2 P' hP'
    exact ⟨ps, by rw [hk _ e]; exact q1, q2⟩
theorem tabbed_step {F H H2 : Hp} {O : Addr → Prop} {P : Addr} (g0 : TabG H P) (h : Tabbed P H H2) : Step F H O F H2 O := by
  obtain ⟨⟨ps2, p1, p2⟩, hk⟩ := h
  obtain ⟨ps, q1, q2⟩ := g0
  refine ⟨Same.refl _, fun b u hb _ nt => ⟨?_, rfl⟩, fun b hb => .inl hb, fun b qs hb => ?_⟩
  · have : b ≠ P := fun z => by rw [z, q1] at hb; cases hb; exact nt _ rfl
    rw [hk b this]; exact hb
  · by_cases e : b = P
    · exact ⟨ps2, by rw [e]; exact p1, fun _ => p2⟩
    · exact ⟨qs, by rw [hk b e]; exact hb, id⟩
theorem gn_den {C : Ctx} {E : XW} {p : Bool} {neg : Bool} {P : Addr} {s : T → Rho → Option Rho} {vs : List Nat} {it : DI} {el : DV} (hst : Stores s vs) (hP : C.tb P) {σ : L2.St} {H : Hp} {Q : VK} (h : tR C E p (dGn neg s vs it el) σ H Q) :
    tGn neg P (tI C E p it) (tTg C vs s) (tV C E0 p el) vs σ H Q := by
  obtain ⟨F, ρ, As, o, env, hd, post⟩ := h
  rcases bnd_cases hd with ⟨ts, ρ1, q1, hd⟩ | ⟨x, ρ', q1, rfl⟩
  · split at hd
    · rename_i hc
      split at hd
      · rename_i b9 ρ9 hl
        cases hd
        refine ⟨F, ρ, As, _, env, q1, fun J F1 H1 As1 env1 st1 pu1 Y => ⟨env1.ht.2 P hP, fun H2 hT => ?_⟩⟩
        have e0 := tabbed_env env1 hP hT
        have s0 : Step F1 H1 (Ow As1) F1 H2 (Ow As1) := tabbed_step (env1.ht.2 P hP) hT
        have n0 : SameN H1 H2 := fun b u hb nt => by
          have := s0.keep b u hb
          obtain ⟨_, hk⟩ := hT
          have g0 := env1.ht.2 P hP
          obtain ⟨ps, z1, z2⟩ := g0
          have : b ≠ P := fun z => by rw [z, z1] at hb; cases hb; exact nt _ rfl
          rw [hk b this]; exact hb
        have start : Env C F1 H2 (wipe σ vs) ρ1 As1 := by
          refine e0.slots (wipe_length _ _) fun i t ht => wipe_at fun hi => ?_
          have := hc
          simp only [bare, List.all_eq_true] at this
          have := this i hi
          rw [ht] at this
          cases this
        -- what is left at the end
        have fin : ∀ (b : Bool) (F2 : Hp) (H' : Hp) (As2 : Ads) (ρ2 : Rho), b = b9 → ρ2 = ρ9 → Env C F2 H' (wipe σ vs) ρ2 As2 → Step F1 H1 (Ow As1) F2 H' (Ow As2) → (p = true → ρ2 = ρ1 ∧ SameN H1 H') → Q (.bl b) H' := fun b F2 H' As2 ρ2 hb hρ env2 st2 pu2 => by
          subst hb; subst hρ
          refine post (.bl b) F2 H' As2 (env2.slots (by rw [wipe_length]) fun j t hj => ?_) (st1.trans st2) (fun hp => ?_) ⟨[], Own.of_rep (Rep.bl.mpr rfl), List.nodup_nil, fun a ha => by cases ha⟩
          · obtain ⟨v, hv, _⟩ := env2.own j t hj
            rw [hv, (wipe_some hv).1]
          · obtain ⟨p1, p2⟩ := pu1 hp
            obtain ⟨p3, p4⟩ := pu2 hp
            exact ⟨p3.trans p1, SameN.trans p2 p4⟩
        refine ⟨ts.length, fun j H' => j ≤ ts.length ∧ ∃ F2 ρ2 As2, Env C F2 H' (wipe σ vs) ρ2 As2 ∧ Step F1 H1 (Ow As1) F2 H' (Ow As2) ∧ (p = true → ρ2 = ρ1 ∧ SameN H1 H') ∧ gnL neg s vs el (ts.drop j) ρ2 = some (b9, ρ9),
          ⟨Nat.zero_le _, F1, ρ1, As1, start, s0, fun _ => ⟨rfl, n0⟩, hl⟩, ?_⟩
        rintro i H' ⟨hi, F2, ρ2, As2, env2, st2, pu2, hl⟩
        by_cases hlt : i < ts.length
        · rw [List.drop_eq_getElem_cons hlt, gnL] at hl
          refine .inr ⟨hlt, Y.go i H' F2 st2.ff env2.sub hlt, fun x H3 hy => ?_⟩
          obtain ⟨F3, g, rx⟩ := Y.yld i ts[i] H' F2 x H3 st2.ff env2.sub (List.getElem?_eq_getElem hlt) hy
          split at hl
          · cases hl
          · rename_i ρ3 hs3
            refine ⟨F3, ρ2, As2, ts[i], ρ3, g.env env2, rx, hs3, fun σ4 As4 env4 sb l4 k4 => ⟨wipe_eq' l4 k4, ?_⟩⟩
            have st4 : Step F1 H1 (Ow As1) F3 H3 (Ow As4) := (st2.trans g.step).trans ⟨Same.refl _, fun b u h _ _ => ⟨h, rfl⟩, fun b h => .inl (sb b h), tab_same fun _ _ h => h⟩
            split at hl
            · rename_i b ρ6 he6
              refine ⟨F3, ρ3, As4, _, env4, he6, fun y F6 H6 As6 env6 st6 pu6 ry => ⟨b, Rep.bl.mp ry, ?_⟩⟩
              obtain ⟨As7, env7, sb7⟩ := env_wipe env6 vs
              have e7 : Env C F6 H6 (wipe σ vs) (wipeR ρ6 vs) As7 := env7.slots (by rw [wipe_length, l4, wipe_length]) fun j t hj => by
                obtain ⟨hn, _⟩ := wipeR_in hj
                rw [k4 j hn]
              have s7 : Step F1 H1 (Ow As1) F6 H6 (Ow As7) := (st4.trans st6).trans ⟨Same.refl _, fun b u h _ _ => ⟨h, rfl⟩, fun b h => .inl (sb7 b h), tab_same fun _ _ h => h⟩
              have p7 : p = true → wipeR ρ6 vs = ρ1 ∧ SameN H1 H6 := fun hp => by
                obtain ⟨p1, p2⟩ := pu2 hp
                obtain ⟨p3, p4⟩ := pu6 hp
                obtain ⟨w1, w2⟩ := hst _ _ _ hs3
                rw [p3, w1, p1, bare_wipe hc (by rw [← p1]; exact w2)]
                exact ⟨rfl, SameN.trans p2 (SameN.trans (Same.n g.hh) p4)⟩
              split at hl
              · rename_i hb
                rw [if_pos hb]
                cases hl
                exact fin neg F6 H6 As7 _ rfl rfl e7 s7 p7
              · rename_i hb
                rw [if_neg hb]
                exact ⟨hlt, F6, _, As7, e7, s7, p7, hl⟩
            · cases hl
        · have e' : i = ts.length := by omega
          subst e'
          rw [List.drop_length, gnL] at hl
          cases hl
          exact .inl ⟨rfl, Y.stop _ H' F2 st2.ff env2.sub (Nat.le_refl _), fin _ F2 H' As2 _ rfl rfl env2 st2 pu2⟩
      · cases hd
    · cases hd
  · exact ⟨F, ρ, As, _, env, q1, post⟩
section
variable {C : Ctx} {X : Cx} {E : XW} {p : Bool} {own : List (Str × Nat)} {c P : Addr} {elt tg iter : Expr} {scope : Scope} {px pos gpos : Pos} {k : Nat} {s : T → Rho → Option Rho} {it : DI} {el : DV}
theorem R_all (hst : Stores s (own.map (·.2))) (hP : C.tb P) (hr : Room (k + 1) X.A) (hgl : Gl X "all") (hm : X.mg "all" = none) (TB : GxR.TabB X.base X.mg c P) (hcode : X.env.code = .ref c) (ok : GnOk X.N X.env.scope scope own) (hN : X.N.Nodup) (hi : PI X tg iter (tI C E p it))
    (hgt : ∀ (s' : Shared) (H : Hp) (C' : Addr) (code : Value) (fp : List Addr) (go : Addr × Obj), Room k (gnX X s' H (gnEnv X scope C' code) fp go).A → PG (gnX X s' H (gnEnv X scope C' code) fp go) tg (tTg C (own.map (·.2)) s))
    (he : ∀ (s' : Shared) (H : Hp) (C' : Addr) (code : Value) (fp : List Addr) (go : Addr × Obj), Room k (gnX X s' H (gnEnv X scope C' code) fp go).A → PE (gnX X s' H (gnEnv X scope C' code) fp go) elt (tV C E0 p el))
    (hs : ∀ v, genFold iter X.env v = pure v)
    (hsr : starEach [.GeneratorExp elt [⟨tg, iter, [], 0⟩] scope gpos] X.env = (false, eval (.GeneratorExp elt [⟨tg, iter, [], 0⟩] scope gpos) X.env) :: starEach [] X.env := by rfl) :
    PE X (.Call (.Name "all" px) [.GeneratorExp elt [⟨tg, iter, [], 0⟩] scope gpos] [] pos) (tR C E p (dGn false s (own.map (·.2)) it el)) :=
  PE_imp (pe_gn_all hr hgl hm TB hcode ok hN hi hgt he hs hsr) fun σ H Q h => gn_den hst hP h
theorem R_any (hst : Stores s (own.map (·.2))) (hP : C.tb P) (hr : Room (k + 1) X.A) (hgl : Gl X "any") (hm : X.mg "any" = none) (TB : GxR.TabB X.base X.mg c P) (hcode : X.env.code = .ref c) (ok : GnOk X.N X.env.scope scope own) (hN : X.N.Nodup) (hi : PI X tg iter (tI C E p it))
    (hgt : ∀ (s' : Shared) (H : Hp) (C' : Addr) (code : Value) (fp : List Addr) (go : Addr × Obj), Room k (gnX X s' H (gnEnv X scope C' code) fp go).A → PG (gnX X s' H (gnEnv X scope C' code) fp go) tg (tTg C (own.map (·.2)) s))
    (he : ∀ (s' : Shared) (H : Hp) (C' : Addr) (code : Value) (fp : List Addr) (go : Addr × Obj), Room k (gnX X s' H (gnEnv X scope C' code) fp go).A → PE (gnX X s' H (gnEnv X scope C' code) fp go) elt (tV C E0 p el))
    (hs : ∀ v, genFold iter X.env v = pure v)
    (hsr : starEach [.GeneratorExp elt [⟨tg, iter, [], 0⟩] scope gpos] X.env = (false, eval (.GeneratorExp elt [⟨tg, iter, [], 0⟩] scope gpos) X.env) :: starEach [] X.env := by rfl) :
    PE X (.Call (.Name "any" px) [.GeneratorExp elt [⟨tg, iter, [], 0⟩] scope gpos] [] pos) (tR C E p (dGn true s (own.map (·.2)) it el)) :=
  PE_imp (pe_gn_any hr hgl hm TB hcode ok hN hi hgt he hs hsr) fun σ H Q h => gn_den hst hP h
/-- no exception leaves the element -/
theorem px_gn {s : Shared} {H : Hp} {cenv : PySem.Env} {fp : List Addr} {go : Addr × Obj} {σ : L2.St} : PassesAt (L2.CX X.prog X.w) (gnX X s H cenv fp go) σ (WE E0 σ) := fun pins H' s1 e1 s' I h => by
  obtain ⟨a, B, H2, cls, d, _, _, _, _, _, _, _, h⟩ := h
  exact h.elim
/-- a module's constant -/
theorem V_glob {x : Str} {t : T} {v : V} {u : Value} {pos : Pos} (hg : Gl X x) (hm : X.mg x = some u) (r : RelV v u) (hr : ∀ F, Rep C F t v) (hd : (x == ("__debug__" : Str)) = false := by decide) : PE X (.Name x pos) (tV C E p (dC t)) := V_c (pe_glob hg hm r hd) hr
end

/-! ### defs with tables -/
/-- a def whose code object is known -/
theorem okXc {P : Program} {w : World} {K : PySem.W.Frag} {mg : Str → Option Value} {base : Heap} {x qual : Str} {st : Stmt} {f : Addr} {fd : FuncData} {N ps : List Str} {k : Nat} {sp : Sp} (F : Fun K x qual st f fd) (S : FnScope N ps (defScope st)) (len : ∀ vs H Q E, sp vs H Q E → vs.length = ps.length)
    (hbody : ∀ (cdv : Value) (A : Around) (outer : List PySem.Env) (s : Shared) (H : Hp) (vs : List V) (Q : VK) (E : XK), fd.code = cdv → Room k (A.deeper (envOfC qual (defScope st) s.heap.objs.size f cdv)) → sp vs H Q E →
      ∃ t, PSs (cxOf (L2.CX P w) P w K mg base N qual (defScope st) f cdv A outer s H E) (defBody st) t ∧ t { nx := fun _ H' => Q .non H', rt := Q } (start N vs) H) : FnOk P w K mg base (L2.CX P w) (k + 1) f fd ps sp := by
  obtain ⟨oc, od, kV, doc, pm, an, cdv, ct, osl, rfl, lk, hcd⟩ := F.ex
  exact fn_of lk hcd S len fun A outer s H vs Q E hr hsp => hbody cdv A outer s H vs Q E rfl hr hsp
theorem D_defc {P : Program} {w : World} {K : PySem.W.Frag} {mg : Str → Option Value} {base : Heap} {C : Ctx} {x qual : Str} {st : Stmt} {f : Addr} {fd : FuncData} {N ps : List Str} {k : Nat} {io : Option Nat} {body : DS}
    (F : Fun K x qual st f fd) (S : FnScope N ps (defScope st)) (hio : ∀ i, io = some i → i < ps.length)
    (hb : ∀ (cdv : Value) (A : Around) (outer : List PySem.Env) (s : Shared) (H : Hp) (E : XK), fd.code = cdv → Room k (A.deeper (PyProof.Rows.envOfC qual (defScope st) s.heap.objs.size f cdv)) →
      PSs (cxOf (L2.CX P w) P w K mg base N qual (defScope st) f cdv A outer s H E) (defBody st) (tS C (fun e d _ H' => E e d H') io body)) :
    FnOk P w K mg base (L2.CX P w) (k + 1) f fd ps (spD C ⟨ps.length, io, dDef ps.length N.length io body⟩) := by
  refine okXc F S (fun vs H Q E h => h.1) fun cdv A outer s H vs Q E hc hr h => ⟨_, hb cdv A outer s H E hc hr, ?_⟩
  obtain ⟨hl, F0, ρ, As, o, env, hd, post⟩ := h
  have hl : vs.length = ps.length := hl
  have hd : dDef ps.length N.length io body ρ = some o := hd
  have e0 := env_start (N := N) env hl rfl
  have hstart : ∀ i, i < ps.length → (L2.start N vs)[i]? = some (some (vs[i]?.getD .non)) := fun i hi => by
    unfold L2.start
    rw [List.getElem?_append_left (by simp; omega)]
    rw [List.getElem?_map, List.getElem?_eq_getElem (by omega)]
    rfl
  have sub : ∀ (ρ' : Rho) (As' : Ads) b, Ow (outA ps.length io ρ' As') b → Ow As' b := fun ρ' As' b ⟨i, hi⟩ => ⟨i, (outA_mem hi).2.2⟩
  unfold dDef at hd
  split at hd
  · rename_i ρ' hb'
    cases hd
    refine ⟨F0, _, As, _, e0, hb', fun σ' F' H' As' env' st' pr => ?_⟩
    exact post .non F' H' _ (env_outs env' hl (fun i h1 h2 => by rw [pr i h1]; exact hstart i h2) hio) ⟨st'.ff, st'.keep, fun b h => st'.own b (sub _ _ b h), st'.tab⟩ (fun z => by cases z) ⟨[], Own.of_rep (Rep.non.mpr rfl), List.nodup_nil, fun a ha => by cases ha⟩
  · rename_i rv ρ' hb'
    split at hd
    · rename_i t ρ2 hr2
      cases hd
      refine ⟨F0, _, As, _, e0, hb', fun v σ' F' H' As' env' st' pr r => ?_⟩
      obtain ⟨F2, As2, e2, st2, A, oA, nA, kA⟩ := retv_ok env' st' r hr2
      exact post v F2 H' _ (env_outs e2 hl (fun i h1 h2 => by rw [pr i h1]; exact hstart i h2) hio) ⟨st2.ff, st2.keep, fun b h => st2.own b (sub _ _ b h), st2.tab⟩ (fun z => by cases z) ⟨A, oA, nA, fun a ha => ⟨fun z => (kA a ha).1 (sub _ _ a z), (kA a ha).2⟩⟩
    · cases hd
  · rename_i x ρ' hb'
    cases hd
    refine ⟨F0, _, As, _, e0, hb', fun e d σ' F' H' As' env' st' pr xo => ?_⟩
    exact post e d F' H' _ (env_outs env' hl (fun i h1 h2 => by rw [pr i h1]; exact hstart i h2) hio) ⟨st'.ff, st'.keep, fun b h => st'.own b (sub _ _ b h), st'.tab⟩ xo
  · cases hd
/-- the defs that hold generator expressions: their code objects and tables -/
structure GTab {ι : Type} (gx : ι → Bool) (mg : Str → Option Value) (base : Heap) (tb : Addr → Prop) (fdt : ι → FuncData) (tc tp : ι → Addr) : Prop where
  b : ∀ i, gx i = true → GxR.TabB base mg (tc i) (tp i)
  t : ∀ i, gx i = true → tb (tp i)
  c : ∀ i, gx i = true → (fdt i).code = .ref (tc i)
theorem FamOk.lev2 {ι : Type} {D : Fam ι} {P : Program} {w : World} {K : PySem.W.Frag} {mg : Str → Option Value} {base : Heap} {C : Ctx} {ad : ι → Addr} {fdt : ι → FuncData} {stp : (ι → DR) → ι → DR}
    (h : ∀ k r, FamOk D P w K mg base C ad fdt k r → FamOk D P w K mg base C ad fdt (k + 1 + 1) (stp r)) : ∀ k, FamOk D P w K mg base C ad fdt (2 * k) (dLev stp k)
  | 0 => FamOk.zero
  | k + 1 => h (2 * k) _ (FamOk.lev2 h k)
theorem tab_code {K : PySem.W.Frag} {x : Str} {f c P : Addr} {od an : Option Addr} {sl : Array (Option Value)} {oc dV kV dc pm cd ct : Value} {q : Str} {ar : Arguments} {bd : List Stmt} {sc : Scope} (a : PySem.W.nsIn K mainGlobals x = some (some (.ref f)))
    (l : K.lookup f = some ⟨oc, od, .func (PySem.W.fnOf x q ar bd sc dV kV dc pm an cd ct), sl⟩) (h : PySem.W.tabIn K x = some (c, P)) : cd = .ref c := by
  unfold PySem.W.tabIn at h
  rw [a] at h
  simp only [l] at h
  split at h
  · split at h
    · split at h
      · cases h; first | assumption | rfl
      · cases h
    · cases h
  · cases h
theorem tabIn_mk {K : PySem.W.Frag} {x : Str} {f c P : Addr} {od ud : Option Addr} {sl sl2 : Array (Option Value)} {oc ue : Value} {fd : FuncData} {vs : Array Value} (a : PySem.W.nsIn K mainGlobals x = some (some (.ref f)))
    (l : K.lookup f = some ⟨oc, od, .func fd, sl⟩) (hc : fd.code = .ref c) (u : K.lookup c = some ⟨ue, ud, .fields vs, sl2⟩) (h : vs[11]? = some (.ref P)) : PySem.W.tabIn K x = some (c, P) := by
  unfold PySem.W.tabIn
  rw [a]
  simp only [l, hc, u, h]
/-- what the end knows of tables -/
def TabsAt (q : Program) (K : PySem.W.Frag) (h : Heap) : Prop := ∀ (x : Str) (c P : Addr), ((recsOf q).any fun e => e.name == x) = true → PySem.W.tabIn K x = some (c, P) → PySem.W.CodeHd h c P ∧ h.get? P = some { cls := .none, data := .fields #[] }
theorem walk_tabs {l : PySem.W.OpenLaw} {n k : Nat} {q : Program} {loose : List Str} {XP : (Str → Option Value) → Heap → Prop} {YP : World → Heap → Prop} {d : DefRec} {K : Params → PySem.W.Frag} {CX : World → CXT} {x : Str}
    (hn : l.most = some n) (hn2 : n ≤ sizeLine) (hdf : d.params.defaults = []) (hr : Room k callerA) (hY : ∀ (w : World) (h : Heap), YP w h → (K w.params).In h)
    (F : ∀ (w : World) (mg : Str → Option Value) (fa : Addr) (h : Heap), (K w.params).In h → h.Ns mainGlobals mg → mg d.name = some (.ref fa) → TabsAt q (K w.params) h → LawAtS l w (K w.params) (CX w) k n x mg fa h)
    (hCX : ∀ (w : World) (H : Hp) (s : Shared) (e : Value) (s' : Shared), CX w [] H s (fun _ _ _ => False) e s' → False) :
    PySem.W.WalkO q loose XP YP l.row.toRowW d [] (fun f vs => PySem.call f vs) := by
  refine Att.attach_callB hn hdf fun w s₀ s₁ mg mb fa o pm cd doc a vs ns G Y ho hd hcd hmg hobj hints hlen hbits hg => ?_
  have KX := hY w _ Y
  have own : TabsAt q (K w.params) s₁.heap := fun y c P hy ht => by
    cases e : (recsOf q).find? (fun e => e.name == y) with
    | some d' => exact PySem.W.tab_of G.T KX e ht
    | none =>
      obtain ⟨d', hm, hn1⟩ := List.any_eq_true.mp hy
      exact absurd hn1 (List.find?_eq_none.mp e d' hm)
  obtain ⟨fd, cs, sp, hT, nT, C, hb, hsp, hF⟩ := F w mg fa _ KX G.T.g hmg own
  exact law_callTs KX G.T.g G.T.b G.T.builtins G.T.nolimit hg hT nT C G.T.bmain hobj hints (Nat.le_trans hlen hn2) hr hF hb (fun H hH hS => hsp H a ns hlen hbits hH hS) fun H e s' => hCX w H s₁ e s'
theorem tabG0 {H : Hp} {P : Addr} (h : H P = some (.tbl #[])) : TabG H P := ⟨#[], h, trivial⟩
end MP

namespace MP
open PySem PySem.Spec PyProof.Rows L2 GxR LamX

/-! ### all, any over the names of a dict that stands in a slot -/
theorem gn_turns {C : Ctx} {p : Bool} {neg : Bool} {s : T → Rho → Option Rho} {vs : List Nat} {el : DV} (hst : Stores s vs) {F1 H2 F0 H0 : Hp} {O0 : Addr → Prop} {σ : L2.St} {ρ1 : Rho} {As1 : Ads} {J : It} {ts : List T} {b9 : Bool} {ρ9 : Rho} {Q : VK} (start : Env C F1 H2 (wipe σ vs) ρ1 As1)
    (s0 : Step F0 H0 O0 F1 H2 (Ow As1)) (Y : Yields C F1 J ts) (hl : gnL neg s vs el ts ρ1 = some (b9, ρ9)) (fin : ∀ F2 H' As2, Env C F2 H' (wipe σ vs) ρ9 As2 → Step F0 H0 O0 F2 H' (Ow As2) → Q (.bl b9) H') :
    ∃ M W, W 0 H2 ∧ GTurn neg J (tTg C vs s) (tV C E0 p el) vs σ Q M W := by
  refine ⟨ts.length, fun j H' => j ≤ ts.length ∧ ∃ F2 ρ2 As2, Env C F2 H' (wipe σ vs) ρ2 As2 ∧ Step F0 H0 O0 F2 H' (Ow As2) ∧ Same F1 F2 ∧ gnL neg s vs el (ts.drop j) ρ2 = some (b9, ρ9),
    ⟨Nat.zero_le _, F1, ρ1, As1, start, s0, Same.refl _, hl⟩, ?_⟩
  rintro i H' ⟨hi, F2, ρ2, As2, env2, st2, sm2, hl⟩
  by_cases hlt : i < ts.length
  · rw [List.drop_eq_getElem_cons hlt, gnL] at hl
    refine .inr ⟨hlt, Y.go i H' F2 sm2 env2.sub hlt, fun x H3 hy => ?_⟩
    obtain ⟨F3, g, rx⟩ := Y.yld i ts[i] H' F2 x H3 sm2 env2.sub (List.getElem?_eq_getElem hlt) hy
    split at hl
    · cases hl
    · rename_i ρ3 hs3
      refine ⟨F3, ρ2, As2, ts[i], ρ3, g.env env2, rx, hs3, fun σ4 As4 env4 sb l4 k4 => ⟨wipe_eq' l4 k4, ?_⟩⟩
      have st4 : Step F0 H0 O0 F3 H3 (Ow As4) := (st2.trans g.step).trans ⟨Same.refl _, fun b u h _ _ => ⟨h, rfl⟩, fun b h => .inl (sb b h), tab_same fun _ _ h => h⟩
      split at hl
      · rename_i b ρ6 he6
        refine ⟨F3, ρ3, As4, _, env4, he6, fun y F6 H6 As6 env6 st6 pu6 ry => ⟨b, Rep.bl.mp ry, ?_⟩⟩
        obtain ⟨As7, env7, sb7⟩ := env_wipe env6 vs
        have e7 : Env C F6 H6 (wipe σ vs) (wipeR ρ6 vs) As7 := env7.slots (by rw [wipe_length, l4, wipe_length]) fun j t hj => by
          obtain ⟨hn, _⟩ := wipeR_in hj
          rw [k4 j hn]
        have s7 : Step F0 H0 O0 F6 H6 (Ow As7) := (st4.trans st6).trans ⟨Same.refl _, fun b u h _ _ => ⟨h, rfl⟩, fun b h => .inl (sb7 b h), tab_same fun _ _ h => h⟩
        split at hl
        · rename_i hb
          rw [if_pos hb]
          cases hl
          exact fin F6 H6 As7 e7 s7
        · rename_i hb
          rw [if_neg hb]
          exact ⟨hlt, F6, _, As7, e7, s7, (sm2.trans g.ff).trans st6.ff, hl⟩
      · cases hl
  · have e' : i = ts.length := by omega
    subst e'
    rw [List.drop_length, gnL] at hl
    cases hl
    exact .inl ⟨rfl, Y.stop _ H' F2 sm2 env2.sub (Nat.le_refl _), fin F2 H' As2 env2 st2⟩
def isSc : T → Bool
  | .nd _ _ _ => false
  | .fn _ => false
  | _ => true
/-- the slots that hold no object -/
def scal (ρ : Rho) : Rho := ρ.map fun x => match x with
  | some t => if isSc t = true then some t else none
  | none => none
theorem scal_get {ρ : Rho} {i : Nat} {t : T} (h : (scal ρ)[i]? = some (some t)) : ρ[i]? = some (some t) ∧ isSc t = true := by
  simp only [scal, List.getElem?_map] at h
  cases q : ρ[i]? with
  | none => rw [q] at h; cases h
  | some x =>
    rw [q] at h
    cases x with
    | none => cases h
    | some u =>
      simp only [Option.map_some, Option.some.injEq] at h
      split at h
      · rename_i hs; cases h; exact ⟨rfl, hs⟩
      · cases h
theorem own_sc {C : Ctx} {F H F' H' : Hp} {t : T} {v : V} {A : List Addr} (hs : isSc t = true) (h : Own C F H t v A) : Own C F' H' t v [] := by
  cases t with
  | nd m k ts => cases hs
  | fn f => cases hs
  | non => rw [Own] at h ⊢; exact ⟨rfl, h.2⟩
  | bl b => rw [Own] at h ⊢; exact ⟨rfl, h.2⟩
  | int b => rw [Own] at h ⊢; exact ⟨rfl, h.2⟩
  | str b => rw [Own] at h ⊢; exact ⟨rfl, h.2⟩
def kyT : Key → T
  | .inl i => .int i
  | .inr x => .str x
theorem kyT_rep {C : Ctx} {F : Hp} {k : Key} : Rep C F (kyT k) (kV k) := by
  cases k with
  | inl i => exact Rep.int.mpr rfl
  | inr x => exact Rep.str.mpr rfl
theorem yields_keys {C : Ctx} {F : Hp} {d : Addr} {o : Obj} {kvs : List (Key × V)} (h : F d = some (.frz o (.dK kvs))) : Yields C F (Itk d o kvs) ((kvs.map (·.1)).map kyT) where
  go := fun i H F1 s1 s2 hi => ⟨s2 _ _ (s1 _ _ h), by simpa using hi⟩
  stop := fun i H F1 s1 s2 hi => ⟨s2 _ _ (s1 _ _ h), by simpa using hi⟩
  yld := fun i t H F1 x H' s1 s2 hi y => by
    obtain ⟨rfl, k, v, hk, rfl⟩ := y
    simp only [List.getElem?_map, hk, Option.map_some, Option.some.injEq] at hi
    subst hi
    exact ⟨F1, Grow.refl s2, kyT_rep⟩
/-- all, any over the names of the dict in slot i -/
def dGnK (neg : Bool) (s : T → Rho → Option Rho) (vs : List Nat) (i : Nat) (el : DV) : DR := fun ρ => match ρ[i]? with
  | some (some (.nd _ (.dct ks) _)) => if bare ρ vs = true then match gnL neg s vs el (ks.map kyT) (scal ρ) with
      | some (b, _) => some (.ok (.tv (.bl b)) ρ)
      | none => none
    else none
  | _ => none
theorem gnK_core {C : Ctx} {neg : Bool} {P : Addr} {s : T → Rho → Option Rho} {vs : List Nat} {el : DV} (hst : Stores s vs) (hP : C.tb P) {σ : L2.St} {F H H1 : Hp} {ρ : Rho} {As : Ads} {d : Addr} {od : Obj} {kvs : List (Key × V)} {Q : VK} {b9 : Bool} {ρ9 : Rho}
    (env : Env C F H σ ρ As) {td : TE} (hv : ∀ R : VK, R (.ref d) H1 → td σ H1 R) (ht : ∀ ps, H d ≠ some (.tbl ps)) (h1 : H1 d = some (.frz od (.dK kvs))) (k1 : ∀ b, b ≠ d → H1 b = H b) (hb : bare ρ vs = true) (hl : gnL neg s vs el ((kvs.map (·.1)).map kyT) (scal ρ) = some (b9, ρ9))
    (fin : ∀ H', H' d = some (.frz od (.dK kvs)) → (∀ b u, b ≠ d → H b = some u → (∀ ps, u ≠ .tbl ps) → H' b = some u) → (∀ b ps, H b = some (.tbl ps) → ∃ ps', H' b = some (.tbl ps') ∧ (TriplesOk ps.toList → TriplesOk ps'.toList)) → Q (.bl b9) H') :
    tGn neg P (iKeys td) (tTg C vs s) (tV C E0 true el) vs σ H1 Q := by
  have g0 := env.ht.2 P hP
  have nPd : P ≠ d := tabG_ne g0 ht
  have g1 : TabG H1 P := by
    obtain ⟨ps, q1, q2⟩ := g0
    exact ⟨ps, by rw [k1 P nPd]; exact q1, q2⟩
  refine hv _ ⟨d, od, rfl, .inl ⟨kvs, h1, g1, fun H2 hT => ?_⟩⟩
  have hk := hT.2
  have hF : Same (fun b => if b = d then some (.frz od (.dK kvs)) else F b) H2 := fun b u h => by
    by_cases e : b = d
    · subst e
      simp only [if_true] at h
      rw [hk _ (Ne.symm nPd), h1]; exact h
    · have h : F b = some u := by simpa [e] using h
      have hH := env.sub _ _ h
      have nP : b ≠ P := fun z => by
        obtain ⟨ps, q, _⟩ := g0
        rw [z, q] at hH
        cases hH
        exact env.ht.1 b ps h
      rw [hk b nP, k1 b e]; exact hH
  have start : Env C (fun b => if b = d then some (.frz od (.dK kvs)) else F b) H2 (wipe σ vs) (scal ρ) (fun _ => []) := by
    refine ⟨hF, by rw [wipe_length, scal, List.length_map]; exact env.len, fun j t hj => ?_, fun _ _ => rfl, fun _ => List.nodup_nil, fun j l a ha => (by cases ha), ⟨fun b ps z => ?_, fun P' hP' => ?_⟩⟩
    · obtain ⟨q1, q2⟩ := scal_get hj
      obtain ⟨v, hv', ho⟩ := env.own j t q1
      refine ⟨v, ?_, own_sc q2 ho⟩
      rw [wipe_at fun hi => ?_]
      · exact hv'
      · have := hb
        simp only [bare, List.all_eq_true] at this
        have := this j hi
        rw [q1] at this
        cases this
    · by_cases e : b = d
      · simp [e] at z
      · exact env.ht.1 b ps (by simpa [e] using z)
    · by_cases e : P' = P
      · rw [e]; exact hT.1
      · obtain ⟨ps, q1, q2⟩ := env.ht.2 P' hP'
        have : P' ≠ d := fun z => ht ps (by rw [← z]; exact q1)
        exact ⟨ps, by rw [hk _ e, k1 _ this]; exact q1, q2⟩
  refine gn_turns (p := true) hst start Step.refl (yields_keys (by simp)) hl fun F2 H' As2 env2 st2 => ?_
  have no : ∀ b, ¬ Ow (fun _ => ([] : List Addr)) b := fun b ⟨j, hj⟩ => by cases hj
  refine fin H' (st2.keep d _ (by rw [hk _ (Ne.symm nPd), h1]) (no d) fun ps z => by cases z).1 (fun b u e hu nt => ?_) fun b ps hbp => ?_
  · have nP : b ≠ P := fun z => by
      obtain ⟨ps, q, _⟩ := g0
      rw [z, q] at hu
      cases hu
      exact nt _ rfl
    exact (st2.keep b u (by rw [hk b nP, k1 b e]; exact hu) (no b) nt).1
  · have nd : b ≠ d := fun z => ht ps (by rw [← z]; exact hbp)
    by_cases e : b = P
    · subst e
      obtain ⟨ps2, p1, p2⟩ := hT.1
      obtain ⟨ps3, p3, p4⟩ := st2.tab b ps2 p1
      exact ⟨ps3, p3, fun _ => p4 p2⟩
    · exact st2.tab b ps (by rw [hk b e, k1 b nd]; exact hbp)
theorem gnK_den {C : Ctx} {E : XW} {p neg : Bool} {P : Addr} {s : T → Rho → Option Rho} {vs : List Nat} {el : DV} {i : Nat} (hst : Stores s vs) (hP : C.tb P) {σ : L2.St} {H : Hp} {Q : VK} (h : tR C E p (dGnK neg s vs i el) σ H Q) :
    tGn neg P (iKeys (tVar i)) (tTg C vs s) (tV C E0 true el) vs σ H Q ∨ tLockE (tGn neg P (iKeys (tVar i)) (tTg C vs s) (tV C E0 true el) vs) σ H Q := by
  obtain ⟨F, ρ, As, o, env, hd, post⟩ := h
  unfold dGnK at hd
  split at hd
  · rename_i m ks ts hi
    split at hd
    · rename_i hb
      split at hd
      · rename_i b9 ρ9 hl
        cases hd
        obtain ⟨v, hv, ho⟩ := env.own i _ hi
        -- where the dict stands
        have at_ : ∃ (d : Addr) (xs : List V), v = .ref d ∧ ks.length = xs.length ∧ Rd H d (.dK (ks.zip xs)) ∧ (∀ ps, H d ≠ some (.tbl ps)) := by
          cases m with
          | false =>
            rw [Own] at ho
            obtain ⟨_, ho⟩ := ho
            rw [Rep] at ho
            obtain ⟨_, d, xs, rfl, ⟨hlx, hr⟩, _⟩ := ho
            have hr' := same_rd env.sub hr
            refine ⟨d, xs, rfl, hlx, hr', fun ps z => ?_⟩
            rcases hr' with h | ⟨u, h⟩ <;> rw [h] at z <;> cases z
          | true =>
            rw [Own] at ho
            obtain ⟨d, A', xs, o, rfl, _, _, h2, ⟨hlx, rfl⟩, _⟩ := ho
            exact ⟨d, xs, rfl, hlx, .inl h2, fun ps z => by rw [h2] at z; cases z⟩
        obtain ⟨d, xs, rfl, hlx, hr, ht⟩ := at_
        have hks : ((ks.zip xs).map (·.1)).map kyT = ks.map kyT := by rw [List.map_fst_zip (by omega)]
        -- the end: all that stood stands again
        have back : ∀ H'', (∀ b u, H b = some u → (∀ ps, u ≠ .tbl ps) → H'' b = some u) → (∀ b ps, H b = some (.tbl ps) → ∃ ps', H'' b = some (.tbl ps') ∧ (TriplesOk ps.toList → TriplesOk ps'.toList)) → Q (.bl b9) H'' := fun H'' e1 e2 => by
          have nt : ∀ b u, F b = some u → ∀ ps, u ≠ .tbl ps := fun b u h ps z => by subst z; exact env.ht.1 b ps h
          have env' : Env C F H'' σ ρ As := env.grow (Same.refl _) (fun b u h => e1 b u (env.sub _ _ h) (nt b u h)) (fun j a ha => by
            obtain ⟨q1, o, q2⟩ := env.has ha
            exact ⟨by rw [q2]; exact e1 a o q2 fun ps z => env.ntb ha ps (by rw [q2, z]), q1⟩) ⟨env.ht.1, fun P' hP' => by
            obtain ⟨ps, q1, q2⟩ := env.ht.2 P' hP'
            obtain ⟨ps', q3, q4⟩ := e2 P' ps q1
            exact ⟨ps', q3, q4 q2⟩⟩
          exact post (.bl b9) F H'' As env' ⟨Same.refl _, fun b u hb _ nt => ⟨e1 b u hb nt, rfl⟩, fun b hb => .inl hb, e2⟩ (fun _ => ⟨rfl, e1⟩) ⟨[], Own.of_rep (Rep.bl.mpr rfl), List.nodup_nil, fun a ha => by cases ha⟩
        rcases hr with hr | ⟨u, hr⟩
        · refine .inr ⟨d, _, hr, trivial, fun od => ?_⟩
          refine gnK_core hst hP env (fun R z => ⟨_, hv, z⟩) ht upd_same (fun b hb => upd_ne hb) hb (by rw [hks]; exact hl) fun H' e0 e1 e2 => ⟨e0, back _ (fun b w hb nt => ?_) fun b ps hb => ?_⟩
          · by_cases e : b = d
            · subst e; rw [hr] at hb; rw [upd_same]; exact hb
            · rw [upd_ne e]; exact e1 b w e hb nt
          · have e : b ≠ d := fun z => ht ps (by rw [← z]; exact hb)
            rw [upd_ne e]
            exact e2 b ps hb
        · refine .inl (gnK_core hst hP env (fun R z => ⟨_, hv, z⟩) ht hr (fun b _ => rfl) hb (by rw [hks]; exact hl) fun H' e0 e1 e2 => back _ (fun b w hb nt => ?_) e2)
          by_cases e : b = d
          · subst e; rw [hr] at hb; rw [e0]; exact hb
          · exact e1 b w e hb nt
      · cases hd
    · cases hd
  · cases hd
section
variable {C : Ctx} {X : Cx} {E : XW} {p : Bool} {own : List (Str × Nat)} {c P : Addr} {elt tg : Expr} {y : Str} {scope : Scope} {py px pos gpos : Pos} {k i : Nat} {s : T → Rho → Option Rho} {el : DV}
theorem R_allK (hst : Stores s (own.map (·.2))) (hP : C.tb P) (hr : Room (k + 1) X.A) (hgl : Gl X "all") (hm : X.mg "all" = none) (TB : GxR.TabB X.base X.mg c P) (hcode : X.env.code = .ref c) (ok : GnOk X.N X.env.scope scope own) (hN : X.N.Nodup) (hi : PE X (.Name y py) (tVar i))
    (hgt : ∀ (s' : Shared) (H : Hp) (C' : Addr) (code : Value) (fp : List Addr) (go : Addr × Obj), Room k (gnX X s' H (gnEnv X scope C' code) fp go).A → PG (gnX X s' H (gnEnv X scope C' code) fp go) tg (tTg C (own.map (·.2)) s))
    (he : ∀ (s' : Shared) (H : Hp) (C' : Addr) (code : Value) (fp : List Addr) (go : Addr × Obj), Room k (gnX X s' H (gnEnv X scope C' code) fp go).A → PE (gnX X s' H (gnEnv X scope C' code) fp go) elt (tV C E0 true el)) :
    PE X (.Call (.Name "all" px) [.GeneratorExp elt [⟨tg, .Name y py, [], 0⟩] scope gpos] [] pos) (tR C E p (dGnK false s (own.map (·.2)) i el)) :=
  ⟨fun pins s' σ H Q I h => by
    have a := pe_gn_all (p := px) (pos := pos) (gpos := gpos) hr hgl hm TB hcode ok hN (pi_keys hi) hgt he (fun _ => rfl)
    rcases gnK_den hst hP h with h | h
    · exact a.run pins s' σ H Q I h
    · exact (pe_lock a).run pins s' σ H Q I h⟩
theorem R_anyK (hst : Stores s (own.map (·.2))) (hP : C.tb P) (hr : Room (k + 1) X.A) (hgl : Gl X "any") (hm : X.mg "any" = none) (TB : GxR.TabB X.base X.mg c P) (hcode : X.env.code = .ref c) (ok : GnOk X.N X.env.scope scope own) (hN : X.N.Nodup) (hi : PE X (.Name y py) (tVar i))
    (hgt : ∀ (s' : Shared) (H : Hp) (C' : Addr) (code : Value) (fp : List Addr) (go : Addr × Obj), Room k (gnX X s' H (gnEnv X scope C' code) fp go).A → PG (gnX X s' H (gnEnv X scope C' code) fp go) tg (tTg C (own.map (·.2)) s))
    (he : ∀ (s' : Shared) (H : Hp) (C' : Addr) (code : Value) (fp : List Addr) (go : Addr × Obj), Room k (gnX X s' H (gnEnv X scope C' code) fp go).A → PE (gnX X s' H (gnEnv X scope C' code) fp go) elt (tV C E0 true el)) :
    PE X (.Call (.Name "any" px) [.GeneratorExp elt [⟨tg, .Name y py, [], 0⟩] scope gpos] [] pos) (tR C E p (dGnK true s (own.map (·.2)) i el)) :=
  ⟨fun pins s' σ H Q I h => by
    have a := pe_gn_any (p := px) (pos := pos) (gpos := gpos) hr hgl hm TB hcode ok hN (pi_keys hi) hgt he (fun _ => rfl)
    rcases gnK_den hst hP h with h | h
    · exact a.run pins s' σ H Q I h
    · exact (pe_lock a).run pins s' σ H Q I h⟩
end
/-! ### is True, is False; a dict of one pair with a reckoned name -/
def isBT (b : Bool) : T → Bool
  | .bl c => decide (c = b)
  | _ => false
section
variable {C : Ctx} {X : Cx} {E : XW} {p : Bool} {a k v : Expr} {da db : DV} {pos : Pos}
theorem relv_bool {x : V} {u : Value} {b : Bool} (r : RelV x u) (hx : ∀ c, x ≠ .bl c) : ∀ c, u ≠ .bool c := fun c => by
  cases x with
  | bl c' => exact absurd rfl (hx c')
  | non => cases r; intro z; cases z
  | int _ => obtain ⟨t, rfl⟩ := r; intro z; cases z
  | str _ => obtain ⟨t, rfl⟩ := r; intro z; cases z
  | byt _ => obtain ⟨t, rfl⟩ := r; intro z; cases z
  | flt _ => obtain ⟨t, rfl⟩ := r; intro z; cases z
  | ref _ => cases r; intro z; cases z
  | ty _ => cases r; intro z; cases z
/-- x is True, x is False: of a bool -/
theorem isB_ok {j : Nat} {b : Bool} {pos' : Pos} (ha : PE X a (tV C E p da)) : PE X (.Compare a [.Is] [.Constant (.bool b) j pos'] pos) (tV C E p (dU (fun t => match t with | .bl c => some (.bl (decide (c = b))) | _ => none) da)) := by
  refine pe_cmp ⟨fun pins s σ H Q I h => ?_⟩
  obtain ⟨F, ρ, As, o, env, hd, post⟩ := h
  refine thn (ha.run pins s σ H (fun v H' => ∃ c, v = .bl c ∧ Q (.bl (decide (c = b))) H') I ?_) fun v s1 ⟨x, H1, I1, r1, c, ex, q1⟩ => ?_
  · refine seqV env hd post.xx fun x ρ1 hd v F1 H1 As1 env1 st1 pu1 r1 => ?_
    split at hd
    · rename_i t ht
      cases hd
      dsimp only at ht
      split at ht
      · rename_i c
        cases ht
        exact ⟨c, Rep.bl.mp r1, post _ F1 H1 As1 env1 st1 pu1 (Rep.bl.mpr rfl)⟩
      · cases ht
    · cases hd
  · subst ex
    obtain rfl : v = Value.bool c := r1
    have e : (Value.bool (decide (c = b))) = Value.bool (Value.bool c == Value.bool b) := by cases c <;> cases b <;> rfl
    refine thn (pe_bl.run pins s1 σ H1 (fun v H' => v = .bl b ∧ Q (.bl (decide (c = b))) H') I1 ⟨rfl, q1⟩) fun u s2 ⟨y, H2, I2, r2, ey, q2⟩ => ?_
    subst ey
    obtain rfl : u = Value.bool b := r2
    exact wpAny_pure (a := Value.bool (Value.bool c == Value.bool b)) ⟨.bl (decide (c = b)), H2, I2, e.symm, q2⟩
/-- {k: v} -/
def dDct1 (da db : DV) : DR := bnd da fun x => bnd db fun y ρ => match keyT x with
  | some k => some (.ok (.tv (.nd true (.dct [k]) [y])) ρ)
  | none => none
theorem R_dct1 (hk : PE X k (tV C E p da)) (hv : PE X v (tV C E p db)) : PE X (.Dict [some k] [v] pos) (tR C E p (dDct1 da db)) := PE_imp (pe_disp (pps_cons hk hv pps_nil) rfl rfl (by simp) (by simp)) fun σ H Q ⟨F, ρ, As, o, env, hd, post⟩ => fun q nq => by
  have g := Grow.fresh (q := q) (o := .dK []) env.sub nq
  have e1 := g.env env
  have st0 : Step F H (Ow As) F (upd H q (.dK [])) (Ow As) := g.step
  have nO : ¬ Ow As q := fun ⟨i, hi⟩ => by
    obtain ⟨_, u, hu⟩ := env.has hi
    rw [nq] at hu; cases hu
  show tV C E p da σ _ _
  refine seqV e1 hd (fun x ρ' h => (post.xx x ρ' h).later st0) fun x ρ1 hd vv F1 H1 As1 env1 st1 pu1 r1 => ?_
  show tV C E p db σ _ _
  refine seqV env1 hd (fun x ρ' h => ((post.xx x ρ' h).later st0).later st1) fun y ρ2 hd w F2 H2 As2 env2 st2' pu2' r2 => ?_
  split at hd
  · rename_i ky hky
    cases hd
    have ek := keyT_ok r1 hky
    subst ek
    have st2 := st1.trans st2'
    have pu2 := pu1.trans pu2'
    obtain ⟨k1, k2⟩ := st2.keep q _ upd_same nO fun ps z => by cases z
    have fq : F2 q = none := by
      rw [k2]
      cases z : F q with
      | none => rfl
      | some u => rw [env.sub _ _ z] at nq; cases nq
    have nO2 : ¬ Ow As2 q := fun z => by
      rcases st2.own q z with y | y
      · exact nO y
      · rw [upd_same] at y; cases y
    refine ⟨k1, [(ky, w)], rfl, by simp, ?_⟩
    have hm : mergeK [] [(ky, w)] = [(ky, w)] := rfl
    rw [hm]
    have s2 : Same F2 (upd H2 q (.dK [(ky, w)])) := fun b u hb => by
      rw [upd_ne (by intro z; subst z; rw [fq] at hb; cases hb)]
      exact env2.sub _ _ hb
    refine post _ F2 _ As2 (env2.grow (Same.refl F2) s2 (fun i a ha => ⟨upd_ne (fun z => nO2 ⟨i, z ▸ ha⟩), (env2.has ha).1⟩) (env2.ht.upd fun ps z => by rw [k1] at z; cases z)) ?_ ?_ ?_
    · refine ⟨st2.ff, fun b u hb hn hu => ?_, fun b hb => ?_, fun b ps hb => ?_⟩
      · have hbq : b ≠ q := fun z => by rw [z, nq] at hb; cases hb
        obtain ⟨w1, w2⟩ := st2.keep b u (by rw [upd_ne hbq]; exact hb) hn hu
        exact ⟨by rw [upd_ne hbq]; exact w1, w2⟩
      · rcases st2.own b hb with y | y
        · exact .inl y
        · refine .inr ?_
          by_cases hbq : b = q
          · rw [hbq]; exact nq
          · rw [upd_ne hbq] at y; exact y
      · have hbq : b ≠ q := fun z => by rw [z, nq] at hb; cases hb
        obtain ⟨ps', w1, w2⟩ := st2.tab b ps (by rw [upd_ne hbq]; exact hb)
        exact ⟨ps', by rw [upd_ne hbq]; exact w1, w2⟩
    · intro hp
      obtain ⟨w1, w2⟩ := pu2 hp
      refine ⟨w1, fun b u hb hu => ?_⟩
      have hbq : b ≠ q := fun z => by rw [z, nq] at hb; cases hb
      rw [upd_ne hbq]
      exact w2 _ _ (by rw [upd_ne hbq]; exact hb) hu
    · refine ⟨[q], ?_, by simp, fun a ha => ?_⟩
      · rw [Own]
        refine ⟨q, [], [w], _, rfl, rfl, fq, upd_same, ⟨rfl, rfl⟩, Owns.of_reps ?_⟩
        simp only [Reps]
        exact ⟨w, [], rfl, r2, rfl⟩
      · simp only [List.mem_singleton] at ha
        subst ha
        exact ⟨nO2, .inr nq⟩
  · cases hd
end
/-! ### as simp reads them -/
section
variable {ρ : Rho}
@[simp ↓] theorem e_dGn {neg : Bool} {s : T → Rho → Option Rho} {vs : List Nat} {it : DI} {el : DV} : dGn neg s vs it el ρ = bnd it (fun ts ρ => if bare ρ vs = true then match gnL neg s vs el ts ρ with
    | some (b, ρ') => some (.ok (.tv (.bl b)) ρ')
    | none => none
  else none) ρ := rfl
@[simp ↓] theorem e_dGnK {neg : Bool} {s : T → Rho → Option Rho} {vs : List Nat} {i : Nat} {el : DV} : dGnK neg s vs i el ρ = match ρ[i]? with
  | some (some (.nd _ (.dct ks) _)) => if bare ρ vs = true then match gnL neg s vs el (ks.map kyT) (scal ρ) with
      | some (b, _) => some (.ok (.tv (.bl b)) ρ)
      | none => none
    else none
  | _ => none := rfl
@[simp ↓] theorem e_dDct1 {da db : DV} : dDct1 da db ρ = bnd da (fun x => bnd db fun y ρ => match keyT x with
  | some k => some (.ok (.tv (.nd true (.dct [k]) [y])) ρ)
  | none => none) ρ := rfl
@[simp] theorem keyT_str {x : Str} : keyT (.str x) = some (.inr x) := rfl
@[simp] theorem keyT_int {x : Int} : keyT (.int x) = some (.inl x) := rfl
end
/-- the turns of a generator expression whose element answers plainly -/
theorem gnL_spec {neg : Bool} {s : T → Rho → Option Rho} {vs : List Nat} {el : DV} {f : T → Bool} {ρ : Rho} : ∀ {ts : List T}, (∀ t ∈ ts, ∃ ρ1 ρ2, s t ρ = some ρ1 ∧ el ρ1 = some (.ok (.bl (f t)) ρ2) ∧ wipeR ρ2 vs = ρ) →
    gnL neg s vs el ts ρ = some (if neg = true then ts.any f else ts.all f, ρ)
  | [], _ => by cases neg <;> rfl
  | t :: ts, h => by
    obtain ⟨ρ1, ρ2, h1, h2, h3⟩ := h t (by simp)
    rw [gnL, h1]
    simp only [h2, h3]
    rw [gnL_spec (ts := ts) fun u hu => h u (by simp [hu])]
    cases neg <;> cases q : f t <;> simp [q]
end MP

namespace MP
open PySem PySem.Spec PyProof.Rows L2 GxR LamX

/-! ### classes: HandS-level rules at a σ -/
section
variable {X : Cx} {CX : CXT} {k : Nat} {f C : Addr} {fd : FuncData} {ps : List Str} {sp : Sp} {E : L2.St → XK} {x m : Str} {p pos apos : Pos} {e o : Expr} {es : List Expr} {ta : TE} {t : TA}
def tMethSD (C : Addr) (m : Str) (sp : Sp) (E : L2.St → XK) (ta : TE) (t : TA) : TE := fun σ H Q => ta σ H fun x H1 => ∃ a dx fs, x = .ref a ∧ H1 a = some (.ins C dx fs) ∧ fs.lookup m = none ∧ t σ H1 fun vs H2 => sp (x :: vs) H2 Q (E σ)
theorem pe_methSD {pl : Sem Bool} (he : PE X o ta) (c : Cls X.K C) (hm : Meth X.K C m f) (F : FnOk X.prog X.w X.K X.mg X.base CX k f fd ps sp) (hr : Room k X.A) (hb : Binds X.K fd ps []) (hx : ∀ σ, PassesAt CX X σ (E σ)) (ha : PA X (e :: es) t)
    (hst : starEach (e :: es) X.env = (false, eval e X.env) :: starEach es X.env) (hpl : (backTo pos (starEach es X.env)).any (·.1) = false)
    (ht : eval (.Call (.Attribute o m apos) (e :: es) [] pos) X.env = (do
      let ov ← eval o X.env
      standAt apos.atName
      let (f, first) ← holding [ov] (getMethod ov m pl)
      callWith pos f first (backTo pos (starEach (e :: es) X.env)) (backToKw pos (keywordEach [] X.env)))) :
    PE X (.Call (.Attribute o m apos) (e :: es) [] pos) (tMethSD C m sp E ta t) := by
  refine ⟨fun pins s σ H Q I h => ?_⟩
  refine PySem.W.methodCall_KW (pl := pl) (thn (he.run pins s σ H _ I h) fun u s1 ⟨x, H1, I1, rx, a, dx, fs, ex, ea, l, q⟩ => ?_) ht
  subst ex
  obtain rfl : u = Value.ref a := rx
  refine getmeth_ok I1 ea c hm l ?_
  refine PySem.W.callWith_K (first := [.ref a]) (h₀ := X.base) I.ok.mod.kin hm.kp (thn (ha.run pos pins s1 σ H1 _ I1 q) fun us s2 ⟨vs, H2, I2, r, q2⟩ => ⟨I2.kIn, ?_⟩) hst hpl
  exact run_fnSD (us := .ref a :: us) (vs := .ref a :: vs) (dvs := []) F hr hb .nil (hx σ) I2 (.cons rfl r) (by rw [List.append_nil]; exact q2)
theorem pe_methSD0 {pl : Sem Bool} (he : PE X o ta) (c : Cls X.K C) (hm : Meth X.K C m f) (F : FnOk X.prog X.w X.K X.mg X.base CX k f fd ps sp) (hr : Room k X.A) (hb : Binds X.K fd ps []) (hx : ∀ σ, PassesAt CX X σ (E σ))
    (ht : eval (.Call (.Attribute o m apos) [] [] pos) X.env = (do
      let ov ← eval o X.env
      standAt apos.atName
      let (f, first) ← holding [ov] (getMethod ov m pl)
      callWith pos f first (backTo pos (starEach [] X.env)) (backToKw pos (keywordEach [] X.env)))) :
    PE X (.Call (.Attribute o m apos) [] [] pos) (tMethSD C m sp E ta tNil) := by
  refine ⟨fun pins s σ H Q I h => ?_⟩
  refine PySem.W.methodCall_KW (pl := pl) (thn (he.run pins s σ H _ I h) fun u s1 ⟨x, H1, I1, rx, a, dx, fs, ex, ea, l, q⟩ => ?_) ht
  subst ex
  obtain rfl : u = Value.ref a := rx
  refine getmeth_ok I1 ea c hm l ?_
  exact PySem.W.callWith_K0 (first := [.ref a]) I1.kIn hm.kp (run_fnSD (us := [.ref a]) (vs := [.ref a]) (dvs := []) F hr hb .nil (hx σ) I1 (.cons rfl .nil) q)
def tMakeSD (C : Addr) (sp : Sp) (E : L2.St → XK) (t : TA) : TE := fun σ H Q => t σ H fun vs H1 => ∀ x dx, H1 x = none → H1 dx = none → dx ≠ x →
  sp (.ref x :: vs) (upd (upd H1 dx (.own x)) x (.ins C dx [])) (fun v H2 => v = .non ∧ Q (.ref x) H2) (E σ)
theorem run_makeSD {pins : List (Addr × Obj)} {σ : L2.St} {H : Hp} {s : Shared} {Q : VK} {us : List Value} {vs : List V} (M : Mk X.K C f) (F : FnOk X.prog X.w X.K X.mg X.base CX k f fd ps sp) (hr : Room (k + 1) X.A) (hb : Binds X.K fd ps [])
    (hx : PassesAt CX X σ (E σ)) (I : L2.Inv X pins σ H s) (r : Vals vs us)
    (h : ∀ x dx, H x = none → H dx = none → dx ≠ x → sp (.ref x :: vs) (upd (upd H dx (.own x)) x (.ins C dx [])) (fun v H2 => v = .non ∧ Q (.ref x) H2) (E σ)) :
    wpAny (model X.prog X.w) X.A (call (.ref C) us) (EP X pins σ Q) X.xe s := by
  have hq := h (s.heap.objs.size + 1) s.heap.objs.size (I.hok.fresh (Nat.le_succ _)) (I.hok.fresh (Nat.le_refl _)) (Nat.ne_of_lt (Nat.lt_succ_self _))
  have I2 := L2.Inv.made (C := C) I
  have r2 : Vals (V.ref (s.heap.objs.size + 1) :: vs) (Value.ref (s.heap.objs.size + 1) :: us) := .cons rfl r
  have hl : (Value.ref (s.heap.objs.size + 1) :: us).length = ps.length := by
    have e := r2.length
    rw [F.len _ _ _ _ hq] at e
    exact e.symm
  refine wpAny_call (make_map (f := f) I.kIn M.makes M.init (beq_iff_eq.mp M.fn) (codeAny_mono (F.run _ X.stack _ _ ⟨Value.ref (s.heap.objs.size + 1) :: us, []⟩ (Value.ref (s.heap.objs.size + 1) :: us) _ _ (E σ) (hr.make C us [])
    (I2.env0.make C us []) (by have := hb { s with heap := (s.heap.push PySem.W.emptyDict).push (PySem.W.instObj C s.heap.objs.size) } (Value.ref (s.heap.objs.size + 1) :: us) I2.kIn (by rw [List.append_nil]; exact hl); rw [List.append_nil] at this; exact this) r2 hq) fun r s' hq' => ?_))
  cases r with
  | error e => exact hx pins _ _ e s' I2 hq'
  | ok fl =>
    cases fl with
    | ret u =>
      obtain ⟨v, H', I3, rv, ev, q3⟩ := I2.after hq'
      subst ev
      exact ⟨rv, ⟨V.ref (s.heap.objs.size + 1), H', I3, rfl, q3⟩⟩
    | next => exact False.elim hq'
    | brk => exact False.elim hq'
    | cont => exact False.elim hq'
theorem pe_makeSD (M : Mk X.K C f) (F : FnOk X.prog X.w X.K X.mg X.base CX k f fd ps sp) (hr : Room (k + 1) X.A) (hg : Gl X x) (hm : X.mg x = some (.ref C)) (hb : Binds X.K fd ps []) (hx : ∀ σ, PassesAt CX X σ (E σ))
    (ha : PA X (e :: es) t) (hdb : (x == ("__debug__" : Str)) = false) (he : starEach (e :: es) X.env = (false, eval e X.env) :: starEach es X.env) (hpl : (backTo pos (starEach es X.env)).any (·.1) = false) :
    PE X (.Call (.Name x p) (e :: es) [] pos) (tMakeSD C sp E t) := by
  refine ⟨fun pins s σ H Q I h => ?_⟩
  refine wpAny_Call_Name_kw (ld_glob I hg hm ?_ hdb)
  refine PySem.W.callWith_K (h₀ := X.base) I.ok.mod.kin M.kp (thn (ha.run pos pins s σ H _ I h) fun us s1 ⟨vs, H1, I1, r, q⟩ => ⟨I1.kIn, ?_⟩) he hpl
  exact run_makeSD M F hr hb (hx σ) I1 r q
end

/-! ### fields -/
def lkF : List Str → List T → Str → Option T
  | f :: fs, t :: ts, g => if g = f then some t else lkF fs ts g
  | _, _, _ => none
theorem lkF_ok {C : Ctx} {F : Hp} : ∀ {fs : List Str} {ts : List T} {xs : List V} {g : Str} {t : T}, lkF fs ts g = some t → Reps C F ts xs → ∃ v, (fs.zip xs).lookup g = some v ∧ Rep C F t v
  | [], _, _, _, _, h, _ => by cases h
  | _ :: _, [], _, _, _, h, _ => by cases h
  | f :: fs, u :: ts, xs, g, t, h, r => by
    rw [Reps] at r
    obtain ⟨x, r', rfl, h1, h2⟩ := r
    rw [lkF] at h
    rw [List.zip_cons_cons, List.lookup_cons]
    by_cases e : g = f
    · rw [if_pos e] at h; cases h
      subst e
      exact ⟨x, by simp, h1⟩
    · rw [if_neg e] at h
      have eb : (g == f) = false := by simpa using e
      rw [eb]
      exact lkF_ok h h2
def putT (g : Str) (t : T) : List Str → List T → List Str × List T
  | f :: fs, u :: ts => if f = g then (f :: fs, t :: ts) else let r := putT g t fs ts; (f :: r.1, u :: r.2)
  | _, _ => ([g], [t])
theorem putT_ok {C : Ctx} {F : Hp} {g : Str} {t : T} {v : V} (rv : Rep C F t v) : ∀ {fs : List Str} {ts : List T} {xs : List V}, fs.length = xs.length → Reps C F ts xs → ∃ ys, putF g v (fs.zip xs) = (putT g t fs ts).1.zip ys ∧ (putT g t fs ts).1.length = ys.length ∧ Reps C F (putT g t fs ts).2 ys
  | [], [], xs, hl, r => by
    rw [Reps] at r; subst r
    refine ⟨[v], rfl, rfl, ?_⟩
    show Reps C F [t] [v]
    simp only [Reps]
    exact ⟨v, [], rfl, rv, rfl⟩
  | [], _ :: _, xs, hl, r => by
    rw [Reps] at r
    obtain ⟨x, r', rfl, _⟩ := r
    simp at hl
  | _ :: _, [], xs, hl, r => by rw [Reps] at r; subst r; simp at hl
  | f :: fs, u :: ts, xs, hl, r => by
    rw [Reps] at r
    obtain ⟨x, r', rfl, h1, h2⟩ := r
    by_cases e : f = g
    · refine ⟨v :: r', ?_, ?_, ?_⟩
      · simp [putT, putF, e]
      · simp only [putT, if_pos e]; simpa using hl
      · simp only [putT, if_pos e, Reps]
        exact ⟨v, r', rfl, rv, h2⟩
    · obtain ⟨ys, q1, q2, q3⟩ := putT_ok (g := g) rv (fs := fs) (ts := ts) (xs := r') (by simpa using hl) h2
      refine ⟨x :: ys, ?_, ?_, ?_⟩
      · simp [putT, putF, e, q1]
      · simp [putT, e, q2]
      · simp only [putT, if_neg e, Reps]
        exact ⟨x, ys, rfl, h1, q3⟩
/-- what is known of a class: its fields are no attributes of the class -/
structure ClK (K : PySem.W.Frag) (c : Addr) (fl : List Str) : Prop where
  cls : Cls K c
  na : ∀ f ∈ fl, NoAttr K c f
/-- o.f, o a slot -/
def dFldv (cn : Str) (i : Nat) (f : Str) : DV := fun ρ => match ρ[i]? with
  | some (some (.nd m (.obj cn' fs) ts)) => if cn' = cn ∧ (ts.all fun t => !t.mk) = true then match lkF fs ts f with
      | some t => some (.ok t ρ)
      | none => none
    else none
  | _ => none
section
variable {C : Ctx} {X : Cx} {E : XW} {p : Bool} {io : Option Nat} {cn : Str} {c : Addr} {fl : List Str} {px pos tpos : Pos} {f x : Str} {i : Nat} {value : Expr} {d : DV}
/-- the object in a slot, as it stands -/
theorem slot_obj {F H : Hp} {σ : L2.St} {ρ : Rho} {As : Ads} {m : Bool} {fs : List Str} {ts : List T} (env : Env C F H σ ρ As) (hi : ρ[i]? = some (some (.nd m (.obj cn fs) ts))) (hp : (ts.all fun t => !t.mk) = true) :
    ∃ a c dx xs, σ[i]? = some (some (.ref a)) ∧ C.cls cn = some c ∧ fs.length = xs.length ∧ H a = some (.ins c dx (fs.zip xs)) ∧ Reps C F ts xs := by
  obtain ⟨v, hv, ho⟩ := env.own i _ hi
  cases m with
  | false =>
    rw [Own] at ho
    obtain ⟨_, ho⟩ := ho
    rw [Rep] at ho
    obtain ⟨_, a, xs, rfl, ⟨c, dx, h1, h2, h3⟩, hr⟩ := ho
    exact ⟨a, c, dx, xs, hv, h1, h2, env.sub _ _ h3, hr⟩
  | true =>
    rw [Own] at ho
    obtain ⟨a, A', xs, o, rfl, _, _, h2, ⟨c, dx, h3, h4, rfl⟩, hos⟩ := ho
    exact ⟨a, c, dx, xs, hv, h3, h4, h2, (hos.reps hp).2⟩
theorem V_fldv (hK : C.K = X.K) (hc : C.cls cn = some c) (k : ClK X.K c fl) (hf : f ∈ fl) (he : PE X (.Name x px) (tVar i)) (hb : attributeBase (.Name x px) f X.env (eval (.Name x px) X.env) = eval (.Name x px) X.env) : PE X (.Attribute (.Name x px) f pos) (tV C E p (dFldv cn i f)) :=
  PE_imp (pe_fld he hb) fun σ H Q ⟨F, ρ, As, o, env, hd, post⟩ => by
    unfold dFldv at hd
    split at hd
    · rename_i m cn' fs ts hi
      split at hd
      · rename_i hp
        obtain ⟨rfl, hp⟩ := hp
        split at hd
        · rename_i t ht
          cases hd
          obtain ⟨a, c', dx, xs, hv, h1, h2, h3, hr⟩ := slot_obj env hi hp
          rw [hc] at h1; cases h1
          obtain ⟨v, hl, rv⟩ := lkF_ok ht hr
          exact ⟨_, hv, a, _, dx, _, v, rfl, h3, k.cls, k.na f hf, hl, post v F H As env Step.refl Pur.refl rv⟩
        · cases hd
      · cases hd
    · cases hd
/-- x.f = value, x a slot with an object of its own -/
def dSetf (cn : Str) (i : Nat) (f : Str) (d : DV) : DS := bnd d fun u ρ => match ρ[i]? with
  | some (some (.nd true (.obj cn' fs) ts)) => if cn' = cn ∧ (ts.all fun t => !t.mk) = true ∧ fs.length < 1000 then some (.ok .nx (ρ.set i (some (.nd true (.obj cn (putT f u fs ts).1) (putT f u fs ts).2)))) else none
  | _ => none
theorem S_setf (hK : C.K = X.K) (hc : C.cls cn = some c) (k : ClK X.K c fl) (hf : f ∈ fl) (ho : PE X (.Name x px) (tVar i)) (hv : PE X value (tV C E false d)) (hs : swapsWith value (some (.Attribute (.Name x px) f tpos)) pos.line X.env = pure false) :
    PS X (.Assign [.Attribute (.Name x px) f tpos] value pos) (tS C E io (dSetf cn i f d)) :=
  PS_imp (ps_fld ho hv hs) fun D σ H ⟨F, ρ, As, o, env, hd, post⟩ => by
    refine seqV env hd post.xx fun u ρ1 hd w F1 H1 As1 env1 st1 pu1 r1 => ?_
    split at hd
    · rename_i cn' fs ts hi
      split at hd
      · rename_i hp
        obtain ⟨rfl, hp, hl⟩ := hp
        cases hd
        obtain ⟨v, hvv, hown⟩ := env1.own i _ hi
        rw [Own] at hown
        obtain ⟨a, A', xs, ob, rfl, hA, fa, ha, ⟨c', dx, h1, h2, rfl⟩, hos⟩ := hown
        obtain ⟨_, hr⟩ := hos.reps hp
        rw [hc] at h1; cases h1
        obtain ⟨ys, q1, q2, q3⟩ := putT_ok (g := f) r1 h2 hr
        obtain ⟨e3, st3⟩ := env1.mut1 (k := .obj cn' (putT f u fs ts).1) (ts := ts) (xs := xs) hvv rfl hA fa ha (o' := .ins c dx (putF f w (fs.zip xs))) (ys := ys) ⟨c, dx, hc, q2, by rw [q1]⟩ q3
        refine ⟨_, hvv, a, c, dx, _, rfl, ha, k.cls, k.na f hf, ?_, post σ F1 _ _ e3 (st1.trans (st3 _ fun _ h => h)) Prt.refl⟩
        rw [List.length_zip]
        omega
      · cases hd
    · cases hd
end

/-! ### a method's call; a new object -/
/-- x.m(..), x a slot: m is no field of the object -/
def dMeth (p : Bool) (cn m : Str) (i : Nat) (fd : FnD) (da : DAo) : DR := fun ρ => match ρ[i]? with
  | some (some (.nd _ (.obj cn' fs) ts)) => if cn' = cn ∧ m ∉ fs ∧ (ts.all fun t => !t.mk) = true then dCall fd (doCons (dArg p (fd.io == some 0) (dVar i)) da) ρ else none
  | _ => none
theorem lookup_no {m : Str} : ∀ {fs : List Str} {xs : List V}, m ∉ fs → (fs.zip xs).lookup m = none
  | [], _, _ => rfl
  | _ :: _, [], _ => rfl
  | f :: fs, x :: xs, h => by
    simp only [List.mem_cons, not_or] at h
    have e : (m == f) = false := by simpa using h.1
    rw [List.zip_cons_cons, List.lookup_cons, e]
    exact lookup_no h.2
section
variable {C : Ctx} {X : Cx} {E : XW} {p : Bool} {cn m : Str} {c f : Addr} {fdat : FuncData} {ps : List Str} {fd : FnD} {k i : Nat} {px pos apos : Pos} {x : Str} {e : Expr} {es : List Expr} {da : DAo} {pl : Sem Bool}
/-- the receiver, as an argument -/
theorem recv_ok {F H : Hp} {σ : L2.St} {ρ : Rho} {As : Ads} {io : Option Nat} {o : Out RV} (env : Env C F H σ ρ As) (h : dArg p (io == some 0) (dVar i) ρ = some o) :
    ∃ rv ρ1 v F1 As1, o = .ok rv ρ1 ∧ σ[i]? = some (some v) ∧ Env C F1 H σ ρ1 As1 ∧ Step F H (Ow As) F1 H (Ow As1) ∧ Pur p ρ ρ1 As As1 H H ∧ ArgOk C F1 σ p io 0 rv v := by
  rcases bnd_cases h with ⟨rv0, ρ', q1, h2⟩ | ⟨x, ρ', q1, rfl⟩
  · have key : ∃ v, σ[i]? = some (some v) ∧ ρ' = ρ ∧ RvOk C F H σ ρ As H (Ow As) rv0 v := by
      unfold dVar at q1
      split at q1
      · rename_i t ht
        obtain ⟨v, hv, ho⟩ := env.own i t ht
        split at q1
        · rename_i hm
          cases q1
          exact ⟨v, hv, rfl, t, t, v, ht, rfl, hm, hv, by rw [AtP]⟩
        · rename_i hm
          cases q1
          refine ⟨v, hv, rfl, [], ?_, List.nodup_nil, fun a ha => by cases ha⟩
          have hA : As i = [] ∧ Rep C F t v := by
            cases t with
            | nd m k ts =>
              have hm : m = false := by simpa [T.mk] using hm
              subst hm
              rw [Own] at ho; exact ho
            | non => rw [Own] at ho; exact ho
            | bl b => rw [Own] at ho; exact ho
            | int b => rw [Own] at ho; exact ho
            | str b => rw [Own] at ho; exact ho
            | fn b => rw [Own] at ho; exact ho
          exact Own.of_rep hA.2
      · cases q1
    obtain ⟨v, hv, rfl, rk⟩ := key
    split at h2
    · rename_i u ρ2 hc
      cases h2
      obtain ⟨F2, As2, e2, st2, pu2, ak⟩ := argc_ok (k := 0) env Step.refl Pur.refl rk hc
      exact ⟨u, ρ2, v, F2, As2, rfl, hv, e2, st2, pu2, ak⟩
    · cases h2
  · unfold dVar at q1
    split at q1
    · split at q1 <;> cases q1
    · cases q1
theorem meth_run (hc : C.cls cn = some c) {da : DAo} {t : TA} {σ : L2.St} {H : Hp} {Q : VK} (ht : ∀ H R, tAo C E p fd.io 1 da σ H R → t σ H R) (h : tR C E p (dMeth p cn m i fd da) σ H Q) : tMethSD c m (spD C fd) (fun σ => WE E σ) (tVar i) t σ H Q := by
  obtain ⟨F, ρ, As, o, env, hd, post⟩ := h
  unfold dMeth at hd
  split at hd
  · rename_i mm cn' fs ts hi
    split at hd
    · rename_i hp
      obtain ⟨rfl, hmf, hp⟩ := hp
      obtain ⟨a, c', dx, xs, hv, h1, h2, h3, hr⟩ := slot_obj env hi hp
      rw [hc] at h1; cases h1
      refine ⟨_, hv, a, dx, _, rfl, h3, lookup_no hmf, ht _ _ ?_⟩
      -- the receiver's argument, then the rest
      unfold dCall at hd
      rcases bnd_cases hd with ⟨rvs, ρ2, q1, hd⟩ | ⟨x, ρ2, q1, rfl⟩
      · rcases bnd_cases q1 with ⟨rv, ρ1, q0, q1⟩ | ⟨x, ρ1, q0, z⟩
        · obtain ⟨rv', ρ1', v, F1, As1, eo, hv', env1, st1, pu1, ak⟩ := recv_ok (p := p) (io := fd.io) env q0
          cases eo
          rw [hv] at hv'; cases hv'
          rcases bnd_cases q1 with ⟨rest, ρ3, q3, q4⟩ | ⟨x, ρ3, q3, z⟩
          · cases q4
            refine ⟨F1, _, As1, _, env1, q3, fun vs F3 H3 As3 env3 st3 pu3 r3 => ?_⟩
            refine call_sp (rvs := rv :: rest) env3 (st1.trans st3) (pu1.trans pu3) ?_ hd post
            rw [ArgsOk]
            exact ⟨_, vs, rfl, ak.mono st3.ff, r3⟩
          · cases z
        · cases z
      · rcases bnd_cases q1 with ⟨rv, ρ1, q0, q1⟩ | ⟨x, ρ1, q0, z⟩
        · obtain ⟨rv', ρ1', v, F1, As1, eo, hv', env1, st1, pu1, ak⟩ := recv_ok (p := p) (io := fd.io) env q0
          cases eo
          rcases bnd_cases q1 with ⟨rest, ρ3, q3, q4⟩ | ⟨x, ρ3, q3, z⟩
          · cases q4
          · cases z
            exact ⟨F1, _, As1, _, env1, q3, PostX.later post st1⟩
        · obtain ⟨rv', ρ1', v, F1, As1, eo, hv', env1, st1, pu1, ak⟩ := recv_ok (p := p) (io := fd.io) env q0
          cases eo
    · cases hd
  · cases hd
theorem R_meth (F : FnOk X.prog X.w X.K X.mg X.base (L2.CX X.prog X.w) k f fdat ps (spD C fd)) (hr : Room k X.A) (hb : Binds X.K fdat ps []) (hx : ∀ σ, PassesAt (L2.CX X.prog X.w) X σ (WE E σ)) (he : PE X (.Name x px) (tVar i)) (hc : C.cls cn = some c) (kc : Cls X.K c) (hm : Meth X.K c m f)
    (ha : PA X (e :: es) (tAo C E p fd.io 1 da)) (hs : (e :: es).all noStar = true)
    (ht : eval (.Call (.Attribute (.Name x px) m apos) (e :: es) [] pos) X.env = (do
      let ov ← eval (.Name x px) X.env
      standAt apos.atName
      let (f, first) ← holding [ov] (getMethod ov m pl)
      callWith pos f first (backTo pos (starEach (e :: es) X.env)) (backToKw pos (keywordEach [] X.env)))) :
    PE X (.Call (.Attribute (.Name x px) m apos) (e :: es) [] pos) (tR C E p (dMeth p cn m i fd da)) := by
  have hs' := hs
  simp only [List.all_cons, Bool.and_eq_true] at hs'
  exact PE_imp (pe_methSD (E := fun σ => WE E σ) he kc hm F hr hb hx ha (star_cons hs'.1) (star_any hs'.2) ht) fun σ H Q h => meth_run hc (fun _ _ z => z) h
theorem R_meth0 (F : FnOk X.prog X.w X.K X.mg X.base (L2.CX X.prog X.w) k f fdat ps (spD C fd)) (hr : Room k X.A) (hb : Binds X.K fdat ps []) (hx : ∀ σ, PassesAt (L2.CX X.prog X.w) X σ (WE E σ)) (he : PE X (.Name x px) (tVar i)) (hc : C.cls cn = some c) (kc : Cls X.K c) (hm : Meth X.K c m f)
    (ht : eval (.Call (.Attribute (.Name x px) m apos) [] [] pos) X.env = (do
      let ov ← eval (.Name x px) X.env
      standAt apos.atName
      let (f, first) ← holding [ov] (getMethod ov m pl)
      callWith pos f first (backTo pos (starEach [] X.env)) (backToKw pos (keywordEach [] X.env)))) :
    PE X (.Call (.Attribute (.Name x px) m apos) [] [] pos) (tR C E p (dMeth p cn m i fd doNil)) :=
  PE_imp (pe_methSD0 (E := fun σ => WE E σ) he kc hm F hr hb hx ht) fun σ H Q h => meth_run hc (fun H R z => by
    obtain ⟨F, ρ, As, o, env, hd, post⟩ := z
    cases hd
    exact post [] F H As env Step.refl Pur.refl (by rw [ArgsOk])) h
end

/-- cn(..): a new object, then its __init__ -/
def dMake (cn : Str) (fd : FnD) (da : DAo) : DR := bnd da fun rvs ρ =>
  if rvs.length + 1 = fd.n then match argT rvs ρ with
    | none => none
    | some ts => match fd.d (some (.nd true (.obj cn []) []) :: ts.map some) with
      | some (.ok (.tv .non) (some (.nd true k us) :: outs)) => some (.ok (.tv (.nd true k us)) ρ)
      | _ => none
  else none
section
variable {C : Ctx} {X : Cx} {E : XW} {p : Bool} {cn : Str} {c f : Addr} {fdat : FuncData} {ps : List Str} {fd : FnD} {k : Nat} {px pos : Pos} {x : Str} {e : Expr} {es : List Expr} {da : DAo}
theorem args_vals {F : Hp} {σ : L2.St} {ρ : Rho} : ∀ {rvs : List RV} {vs : List V} {ts : List T} {j : Nat}, ArgsOk C F σ p none j rvs vs → argT rvs ρ = some ts → Reps C F ts vs
  | [], vs, ts, j, h, ht => by rw [ArgsOk] at h; cases ht; rw [Reps]; exact h
  | rv :: r, vs, ts, j, h, ht => by
    rw [ArgsOk] at h
    obtain ⟨v, w, rfl, h1, h2⟩ := h
    cases rv with
    | tv t =>
      rw [argT] at ht
      split at ht
      · rename_i us q
        cases ht
        rw [Reps]
        exact ⟨v, w, rfl, h1, args_vals h2 q⟩
      · cases ht
    | pl i q => exact absurd h1.2.1 (by simp)
theorem make_run (hc : C.cls cn = some c) {σ : L2.St} {H : Hp} {Q : VK} (h : tR C E p (dMake cn fd da) σ H Q) : tMakeSD c (spD C fd) (fun σ => WE E σ) (tAo C E p none 0 da) σ H Q := by
  obtain ⟨F, ρ, As, o, env, hd, post⟩ := h
  refine seqAo env hd post.xx fun rvs ρ1 hd vs F1 H1 As1 env1 st1 pu1 r1 => ?_
  intro x dx nx ndx nex
  split at hd
  · rename_i hl
    split at hd
    · cases hd
    · rename_i ts ht
      have rp := args_vals r1 ht
      split at hd
      · rename_i k us outs hr
        cases hd
        have nF : ∀ b, H1 b = none → F1 b = none := fun b hb => Same.free env1.sub hb
        have hH2 : ∀ b, b ≠ x → b ≠ dx → (upd (upd H1 dx (.own x)) x (.ins c dx [])) b = H1 b := fun b h1 h2 => by rw [upd_ne h1, upd_ne h2]
        have ne1 : ∀ {b u}, H1 b = some u → b ≠ x ∧ b ≠ dx := fun {b u} hb => ⟨fun z => (by rw [z, nx] at hb; cases hb), fun z => (by rw [z, ndx] at hb; cases hb)⟩
        have ce : Env C F1 (upd (upd H1 dx (.own x)) x (.ins c dx [])) ((V.ref x :: vs).map some) (some (.nd true (.obj cn []) []) :: ts.map some) (fun j => if j = 0 then [x] else []) := by
          refine ⟨fun b u hb => ?_, ?_, fun j t hj => ?_, fun j hj => ?_, fun j => ?_, fun j l a h1 h2 => ?_, ⟨env1.ht.1, fun P hP => ?_⟩⟩
          · obtain ⟨z1, z2⟩ := ne1 (env1.sub _ _ hb)
            rw [hH2 b z1 z2]; exact env1.sub _ _ hb
          · simp [rp.length]
          · cases j with
            | zero =>
              simp at hj
              subst hj
              refine ⟨.ref x, rfl, ?_⟩
              show Own C F1 _ (.nd true (.obj cn []) []) (.ref x) [x]
              rw [Own]
              refine ⟨x, [], [], _, rfl, rfl, nF x nx, upd_same, ⟨c, dx, hc, rfl, rfl⟩, ?_⟩
              rw [Owns]; exact ⟨rfl, rfl⟩
            | succ j =>
              simp at hj
              obtain ⟨w, hw, rw_⟩ := rp.get hj
              refine ⟨w, by simp [hw], ?_⟩
              show Own C F1 _ t w []
              exact Own.of_rep rw_
          · cases j with
            | zero => exact absurd rfl (hj (.nd true (.obj cn []) []))
            | succ j => rfl
          · cases j with
            | zero => show [x].Nodup; simp
            | succ j => exact List.nodup_nil
          · cases j with
            | zero =>
              cases l with
              | zero => rfl
              | succ l => cases h2
            | succ j => cases h1
          · obtain ⟨ps, q1, q2⟩ := env1.ht.2 P hP
            obtain ⟨z1, z2⟩ := ne1 q1
            exact ⟨ps, by rw [hH2 P z1 z2]; exact q1, q2⟩
        refine ⟨by rw [← hl, r1.get.1]; simp, F1, _, _, _, ce, hr, fun v F' H' As' env' st' pu' r' => ?_⟩
        have nO : ∀ {b}, b ≠ x → ¬ Ow (fun j => if j = 0 then [x] else []) b := fun {b} hb ⟨j, hj⟩ => by
          cases j with
          | zero => exact hb (by simpa using hj)
          | succ j => cases hj
        obtain ⟨A, ho, _, _⟩ := r'
        have hv : v = .non := by rw [Own] at ho; exact Rep.non.mp ho.2
        refine ⟨hv, ?_⟩
        have keep1 : ∀ b u, H1 b = some u → (∀ ps, u ≠ .tbl ps) → H' b = some u ∧ F' b = F1 b := fun b u hb nt => by
          obtain ⟨z1, z2⟩ := ne1 hb
          exact st'.keep b u (by rw [hH2 b z1 z2]; exact hb) (nO z1) nt
        have tab1 : ∀ b ps, H1 b = some (.tbl ps) → ∃ ps', H' b = some (.tbl ps') ∧ (TriplesOk ps.toList → TriplesOk ps'.toList) := fun b ps hb => by
          obtain ⟨z1, z2⟩ := ne1 hb
          exact st'.tab b ps (by rw [hH2 b z1 z2]; exact hb)
        have env3 : Env C F' H' σ ρ1 As1 := env1.grow st'.ff env'.sub (fun j a ha => by
          obtain ⟨q1, o, q2⟩ := env1.has ha
          obtain ⟨w1, w2⟩ := keep1 a o q2 fun ps z => env1.ntb ha ps (by rw [q2, z])
          exact ⟨by rw [w1, q2], by rw [w2]; exact q1⟩) ⟨env'.ht.1, env'.ht.2⟩
        obtain ⟨y, hy, oy⟩ := env'.own 0 (.nd true k us) rfl
        have ey : y = .ref x := by simpa using hy.symm
        subst ey
        have newA : ∀ a ∈ As' 0, H1 a = none := fun a ha => by
          rcases st'.own a ⟨0, ha⟩ with ⟨j, hj⟩ | z
          · cases j with
            | zero =>
              have : a = x := by simpa using hj
              rw [this]; exact nx
            | succ j => cases hj
          · by_cases e1 : a = x
            · rw [e1]; exact nx
            · by_cases e2 : a = dx
              · rw [e2]; exact ndx
              · rw [hH2 a e1 e2] at z; exact z
        refine post (.ref x) F' H' As1 env3 ⟨st1.ff.trans st'.ff, fun b u hb hn nt => ?_, st1.own, fun b ps hb => ?_⟩ (fun hp => ?_) ⟨As' 0, oy, env'.nod 0, fun a ha => ⟨fun ⟨j, hj⟩ => ?_, ?_⟩⟩
        · obtain ⟨w1, w2⟩ := st1.keep b u hb hn nt
          obtain ⟨w3, w4⟩ := keep1 b u w1 nt
          exact ⟨w3, w4.trans w2⟩
        · obtain ⟨ps1, w1, w2⟩ := st1.tab b ps hb
          obtain ⟨ps2, w3, w4⟩ := tab1 b ps1 w1
          exact ⟨ps2, w3, fun z => w4 (w2 z)⟩
        · obtain ⟨w1, w2⟩ := pu1 hp
          exact ⟨w1, SameN.trans w2 fun b u hb nt => (keep1 b u hb nt).1⟩
        · obtain ⟨_, o, q⟩ := env1.has hj
          rw [newA a ha] at q; cases q
        · by_cases hO : Ow As a
          · exact .inl hO
          · refine .inr ?_
            cases q : H a with
            | none => rfl
            | some u =>
              obtain ⟨_, this⟩ := st1.some q hO
              rw [newA a ha] at this; cases this
      · cases hd
  · cases hd
theorem R_make (M : Mk X.K c f) (F : FnOk X.prog X.w X.K X.mg X.base (L2.CX X.prog X.w) k f fdat ps (spD C fd)) (hr : Room (k + 1) X.A) (hg : Gl X x) (hm : X.mg x = some (.ref c)) (hb : Binds X.K fdat ps []) (hx : ∀ σ, PassesAt (L2.CX X.prog X.w) X σ (WE E σ)) (hc : C.cls cn = some c)
    (ha : PA X (e :: es) (tAo C E p none 0 da)) (hs : (e :: es).all noStar = true) (hdb : (x == ("__debug__" : Str)) = false) : PE X (.Call (.Name x px) (e :: es) [] pos) (tR C E p (dMake cn fd da)) := by
  have hs' := hs
  simp only [List.all_cons, Bool.and_eq_true] at hs'
  exact PE_imp (pe_makeSD (E := fun σ => WE E σ) M F hr hg hm hb hx ha hdb (star_cons hs'.1) (star_any hs'.2)) fun σ H Q h => make_run hc h
end
end MP

namespace MP
open PySem PySem.Spec PyProof.Rows L2 GxR LamX

/-! ### chains of three; is not True, False -/
section
variable {X : Cx} {a b c d : Expr} {ta tb tc td : TE} {pos : Pos}
def tChain3 (r r' r'' : R2) (ta tb tc td : TE) : TE := fun σ H Q => ta σ H fun x H1 => tb σ H1 fun y H2 => r x y H2 fun z H3 => ∃ k, z = .bl k ∧
  (if k = true then tc σ H3 fun w H4 => r' y w H4 fun z' H5 => ∃ k', z' = .bl k' ∧ (if k' = true then td σ H5 fun u H6 => r'' w u H6 Q else Q (.bl false) H5) else Q (.bl false) H3)
theorem pe_chain3 {op op' op'' : CmpOp} {r r' r'' : R2} (ho : OpR X (compareOp op) r) (ho' : OpR X (compareOp op') r') (ho'' : OpR X (compareOp op'') r'') (ha : PE X a ta) (hb : PE X b tb) (hc : PE X c tc) (hd : PE X d td)
    (hm : lastMarks [op, op', op''] [b, c, d] = false) : PE X (.Compare a [op, op', op''] [b, c, d] pos) (tChain3 r r' r'' ta tb tc td) := by
  refine ⟨fun pins s σ H Q I h => ?_⟩
  refine Compare_chain (thn (ha.run pins s σ H _ I h) fun v s1 ⟨x, H1, I1, r1, q1⟩ => chain_link (thn (hb.run pins s1 σ H1 _ I1 q1) fun u s2 ⟨y, H2, I2, r2, q2⟩ =>
    thn (ho pins s2 σ H2 x y v u _ I2 r1 r2 q2) fun d s3 ⟨z, H3, I3, r3, k, e, q3⟩ => ?_)) hm
  subst e
  cases r3
  refine wpAny_truthy_bool ?_
  cases k with
  | false => exact ite_ff ⟨.bl false, H3, I3, rfl, q3⟩
  | true =>
    refine ite_tt (chain_link (thn (hc.run pins s3 σ H3 _ I3 q3) fun w' s4 ⟨z', H4, I4, r4, q4⟩ => thn (ho' pins s4 σ H4 y z' u w' _ I4 r2 r4 q4) fun d2 s5 ⟨z2, H5, I5, r5, k2, e2, q5⟩ => ?_))
    subst e2
    cases r5
    refine wpAny_truthy_bool ?_
    cases k2 with
    | false => exact ite_ff ⟨.bl false, H5, I5, rfl, q5⟩
    | true => exact ite_tt (chain_last (thn (hd.run pins s5 σ H5 _ I5 q5) fun w2 s6 ⟨z3, H6, I6, r6, q6⟩ => ho'' pins s6 σ H6 z' z3 w' w2 Q I6 r4 r6 q6))
end
def dChn3V (g g' g'' : T → T → Option Bool) (da db dc dd : DV) : DV := bnd da fun x => bnd db fun y ρ => match g x y with
  | some true => (bnd dc fun z ρ => match g' y z with
    | some true => (bnd dd fun u ρ => match g'' z u with
      | some b => some (.ok (.bl b) ρ)
      | none => none) ρ
    | some false => some (.ok (.bl false) ρ)
    | none => none) ρ
  | some false => some (.ok (.bl false) ρ)
  | none => none
section
variable {C : Ctx} {X : Cx} {E : XW} {p : Bool} {a b c d : Expr} {da db dc dd : DV} {pos : Pos}
theorem V_chn3 {g g' g'' : T → T → Option Bool} {op op' op'' : CmpOp} (ho : OpR X (compareOp op) (rC C g)) (ho' : OpR X (compareOp op') (rC C g')) (ho'' : OpR X (compareOp op'') (rC C g'')) (ha : PE X a (tV C E p da)) (hb : PE X b (tV C E p db)) (hc : PE X c (tV C E p dc)) (hd : PE X d (tV C E p dd))
    (hm : lastMarks [op, op', op''] [b, c, d] = false) : PE X (.Compare a [op, op', op''] [b, c, d] pos) (tV C E p (dChn3V g g' g'' da db dc dd)) := by
  refine PE_imp (pe_chain3 ho ho' ho'' ha hb hc hd hm) fun σ H Q ⟨F, ρ, As, o, env, hd, post⟩ => ?_
  refine seqV env hd post.xx fun x ρ1 hd v F1 H1 As1 env1 st1 pu1 r1 => seqV env1 hd (fun e ρ' h => (post.xx e ρ' h).later st1) fun y ρ2 hd w F2 H2 As2 env2 st2 pu2 r2 => ?_
  split at hd
  · rename_i hg
    refine ⟨x, y, true, (r1.mono st2.ff).mono env2.sub, r2.mono env2.sub, hg, true, rfl, ?_⟩
    rw [if_pos rfl]
    refine seqV env2 hd (fun e ρ' h => (post.xx e ρ' h).later (st1.trans st2)) fun z ρ3 hd u F3 H3 As3 env3 st3 pu3 r3 => ?_
    split at hd
    · rename_i hg'
      refine ⟨y, z, true, (r2.mono st3.ff).mono env3.sub, r3.mono env3.sub, hg', true, rfl, ?_⟩
      rw [if_pos rfl]
      refine seqV env3 hd (fun e ρ' h => (post.xx e ρ' h).later (st1.trans (st2.trans st3))) fun z4 ρ4 hd u4 F4 H4 As4 env4 st4 pu4 r4 => ?_
      split at hd
      · rename_i b hb
        cases hd
        exact ⟨z, z4, b, (r3.mono st4.ff).mono env4.sub, r4.mono env4.sub, hb, post (.bl b) F4 H4 As4 env4 (st1.trans (st2.trans (st3.trans st4))) (pu1.trans (pu2.trans (pu3.trans pu4))) (Rep.bl.mpr rfl)⟩
      · cases hd
    · rename_i hg'
      cases hd
      refine ⟨y, z, false, (r2.mono st3.ff).mono env3.sub, r3.mono env3.sub, hg', false, rfl, ?_⟩
      rw [if_neg Bool.false_ne_true]
      exact post (.bl false) F3 H3 As3 env3 (st1.trans (st2.trans st3)) (pu1.trans (pu2.trans pu3)) (Rep.bl.mpr rfl)
    · cases hd
  · rename_i hg
    cases hd
    refine ⟨x, y, false, (r1.mono st2.ff).mono env2.sub, r2.mono env2.sub, hg, false, rfl, ?_⟩
    rw [if_neg Bool.false_ne_true]
    exact post (.bl false) F2 H2 As2 env2 (st1.trans st2) (pu1.trans pu2) (Rep.bl.mpr rfl)
  · cases hd
/-- x is not True, False; x is True, False: of a bool -/
theorem pc_isnB {j : Nat} {b : Bool} {pos' : Pos} (ha : PE X a (tV C E p da)) : PC X .IsNot a (.Constant (.bool b) j pos') (tV C E p (dU (fun t => match t with | .bl c => some (.bl (!decide (c = b))) | _ => none) da)) := by
  refine ⟨fun pins s σ H Q I h => ?_⟩
  obtain ⟨F, ρ, As, o, env, hd, post⟩ := h
  refine thn (ha.run pins s σ H (fun v H' => ∃ c, v = .bl c ∧ Q (.bl (!decide (c = b))) H') I ?_) fun v s1 ⟨x, H1, I1, r1, c, ex, q1⟩ => ?_
  · refine seqV env hd post.xx fun x ρ1 hd v F1 H1 As1 env1 st1 pu1 r1 => ?_
    split at hd
    · rename_i t ht
      cases hd
      dsimp only at ht
      split at ht
      · rename_i c
        cases ht
        exact ⟨c, Rep.bl.mp r1, post _ F1 H1 As1 env1 st1 pu1 (Rep.bl.mpr rfl)⟩
      · cases ht
    · cases hd
  · subst ex
    obtain rfl : v = Value.bool c := r1
    have e : (Value.bool (!decide (c = b))) = Value.bool (!(Value.bool c == Value.bool b)) := by cases c <;> cases b <;> rfl
    refine thn (pe_bl.run pins s1 σ H1 (fun v H' => v = .bl b ∧ Q (.bl (!decide (c = b))) H') I1 ⟨rfl, q1⟩) fun u s2 ⟨y, H2, I2, r2, ey, q2⟩ => ?_
    subst ey
    obtain rfl : u = Value.bool b := r2
    exact wpAny_pure (a := Value.bool (!(Value.bool c == Value.bool b))) ⟨.bl (!decide (c = b)), H2, I2, e.symm, q2⟩
theorem pc_isB {j : Nat} {b : Bool} {pos' : Pos} (ha : PE X a (tV C E p da)) : PC X .Is a (.Constant (.bool b) j pos') (tV C E p (dU (fun t => match t with | .bl c => some (.bl (decide (c = b))) | _ => none) da)) := by
  refine ⟨fun pins s σ H Q I h => ?_⟩
  obtain ⟨F, ρ, As, o, env, hd, post⟩ := h
  refine thn (ha.run pins s σ H (fun v H' => ∃ c, v = .bl c ∧ Q (.bl (decide (c = b))) H') I ?_) fun v s1 ⟨x, H1, I1, r1, c, ex, q1⟩ => ?_
  · refine seqV env hd post.xx fun x ρ1 hd v F1 H1 As1 env1 st1 pu1 r1 => ?_
    split at hd
    · rename_i t ht
      cases hd
      dsimp only at ht
      split at ht
      · rename_i c
        cases ht
        exact ⟨c, Rep.bl.mp r1, post _ F1 H1 As1 env1 st1 pu1 (Rep.bl.mpr rfl)⟩
      · cases ht
    · cases hd
  · subst ex
    obtain rfl : v = Value.bool c := r1
    have e : (Value.bool (decide (c = b))) = Value.bool (Value.bool c == Value.bool b) := by cases c <;> cases b <;> rfl
    refine thn (pe_bl.run pins s1 σ H1 (fun v H' => v = .bl b ∧ Q (.bl (decide (c = b))) H') I1 ⟨rfl, q1⟩) fun u s2 ⟨y, H2, I2, r2, ey, q2⟩ => ?_
    subst ey
    obtain rfl : u = Value.bool b := r2
    exact wpAny_pure (a := Value.bool (Value.bool c == Value.bool b)) ⟨.bl (decide (c = b)), H2, I2, e.symm, q2⟩
theorem isnB_ok {j : Nat} {b : Bool} {pos' : Pos} (ha : PE X a (tV C E p da)) : PE X (.Compare a [.IsNot] [.Constant (.bool b) j pos'] pos) (tV C E p (dU (fun t => match t with | .bl c => some (.bl (!decide (c = b))) | _ => none) da)) := pe_cmp (pc_isnB ha)
def blT : T → Option Bool
  | .bl b => some b
  | _ => none
@[simp] theorem blT_bl {b : Bool} : blT (.bl b) = some b := rfl
theorem T_pc {op : CmpOp} (h : PC X op a b (tV C E p da)) (h1 : behindInMarks op b = false) : PT X (.Compare a [op] [b] pos) (tT C E p (dTst blT da)) :=
  PT_imp (pt_cmp h h1) fun σ H Q ⟨F, ρ, As, o, env, hd, post⟩ => by
    refine seqV env hd post.xx fun x ρ1 hd v F1 H1 As1 env1 st1 pu1 r1 => ?_
    split at hd
    · rename_i b hb
      cases hd
      unfold blT at hb
      split at hb
      · cases hb
        exact ⟨_, Rep.bl.mp r1, post F1 H1 As1 env1 st1 pu1⟩
      · cases hb
    · cases hd
end
/-! ### all, any over the names of a dict in a field -/
def dGnF (neg : Bool) (s : T → Rho → Option Rho) (vs : List Nat) (cn : Str) (i : Nat) (f : Str) (el : DV) : DR := fun ρ => match ρ[i]? with
  | some (some (.nd _ (.obj cn' fs) ts)) => if cn' = cn ∧ (ts.all fun t => !t.mk) = true ∧ bare ρ vs = true then match lkF fs ts f with
      | some (.nd _ (.dct ks) _) => match gnL neg s vs el (ks.map kyT) (scal ρ) with
        | some (b, _) => some (.ok (.tv (.bl b)) ρ)
        | none => none
      | _ => none
    else none
  | _ => none
theorem gnF_den {C : Ctx} {K : PySem.W.Frag} {E : XW} {p neg : Bool} {P : Addr} {s : T → Rho → Option Rho} {vs : List Nat} {el : DV} {cn f : Str} {c : Addr} {fl : List Str} {i : Nat} (hc : C.cls cn = some c) (k : ClK K c fl) (hf : f ∈ fl) (hst : Stores s vs) (hP : C.tb P) {σ : L2.St} {H : Hp} {Q : VK} (h : tR C E p (dGnF neg s vs cn i f el) σ H Q) :
    tGn neg P (iKeys (tFld K (tVar i) f)) (tTg C vs s) (tV C E0 true el) vs σ H Q ∨ tLockE (tGn neg P (iKeys (tFld K (tVar i) f)) (tTg C vs s) (tV C E0 true el) vs) σ H Q := by
  obtain ⟨F, ρ, As, o, env, hd, post⟩ := h
  unfold dGnF at hd
  split at hd
  · rename_i m cn' fs ts hi
    split at hd
    · rename_i hb
      obtain ⟨rfl, hpl, hb⟩ := hb
      obtain ⟨a, c', dx, xs0, hv, h1, h2, h3, hr0⟩ := slot_obj env hi hpl
      rw [hc] at h1; cases h1
      split at hd
      · rename_i m2 ks ts2 hlk
        obtain ⟨v, hvl, rv⟩ := lkF_ok hlk hr0
        rw [Rep] at rv
        obtain ⟨_, d, xs, rfl, ⟨hlx, hr⟩, _⟩ := rv
        split at hd
        · rename_i b9 ρ9 hl
          cases hd
          have hr := same_rd env.sub hr
          have ht : ∀ ps, H d ≠ some (.tbl ps) := fun ps z => by rcases hr with h | ⟨u, h⟩ <;> rw [h] at z <;> cases z
          have nad : a ≠ d := fun z => by
            rw [z] at h3
            rcases hr with h | ⟨u, h⟩ <;> rw [h] at h3 <;> cases h3
          have hks : ((ks.zip xs).map (·.1)).map kyT = ks.map kyT := by rw [List.map_fst_zip (by omega)]
          have back : ∀ H'', (∀ b u, H b = some u → (∀ ps, u ≠ .tbl ps) → H'' b = some u) → (∀ b ps, H b = some (.tbl ps) → ∃ ps', H'' b = some (.tbl ps') ∧ (TriplesOk ps.toList → TriplesOk ps'.toList)) → Q (.bl b9) H'' := fun H'' e1 e2 => by
            have nt : ∀ b u, F b = some u → ∀ ps, u ≠ .tbl ps := fun b u h ps z => by subst z; exact env.ht.1 b ps h
            have env' : Env C F H'' σ ρ As := env.grow (Same.refl _) (fun b u h => e1 b u (env.sub _ _ h) (nt b u h)) (fun j a ha => by
              obtain ⟨q1, o, q2⟩ := env.has ha
              exact ⟨by rw [q2]; exact e1 a o q2 fun ps z => env.ntb ha ps (by rw [q2, z]), q1⟩) ⟨env.ht.1, fun P' hP' => by
              obtain ⟨ps, q1, q2⟩ := env.ht.2 P' hP'
              obtain ⟨ps', q3, q4⟩ := e2 P' ps q1
              exact ⟨ps', q3, q4 q2⟩⟩
            exact post (.bl b9) F H'' As env' ⟨Same.refl _, fun b u hb _ nt => ⟨e1 b u hb nt, rfl⟩, fun b hb => .inl hb, e2⟩ (fun _ => ⟨rfl, e1⟩) ⟨[], Own.of_rep (Rep.bl.mpr rfl), List.nodup_nil, fun a ha => by cases ha⟩
          have fld : ∀ (H1 : Hp), H1 a = H a → ∀ R : VK, R (.ref d) H1 → tFld K (tVar i) f σ H1 R := fun H1 e R z => ⟨_, hv, a, c, dx, _, _, rfl, by rw [e]; exact h3, k.cls, k.na f hf, hvl, z⟩
          rcases hr with hr | ⟨u, hr⟩
          · refine .inr ⟨d, _, hr, trivial, fun od => ?_⟩
            refine gnK_core hst hP env (fld _ (upd_ne nad)) ht upd_same (fun b hb => upd_ne hb) hb (by rw [hks]; exact hl) fun H' e0 e1 e2 => ⟨e0, back _ (fun b w hb nt => ?_) fun b ps hb => ?_⟩
            · by_cases e : b = d
              · subst e; rw [hr] at hb; rw [upd_same]; exact hb
              · rw [upd_ne e]; exact e1 b w e hb nt
            · have e : b ≠ d := fun z => ht ps (by rw [← z]; exact hb)
              rw [upd_ne e]
              exact e2 b ps hb
          · refine .inl (gnK_core hst hP env (fld _ rfl) ht hr (fun b _ => rfl) hb (by rw [hks]; exact hl) fun H' e0 e1 e2 => back _ (fun b w hb nt => ?_) e2)
            by_cases e : b = d
            · subst e; rw [hr] at hb; rw [e0]; exact hb
            · exact e1 b w e hb nt
        · cases hd
      · cases hd
    · cases hd
  · cases hd
section
variable {C : Ctx} {X : Cx} {E : XW} {p : Bool} {own : List (Str × Nat)} {c cc P : Addr} {elt tg : Expr} {y cn f : Str} {fl : List Str} {scope : Scope} {py px pos gpos apos : Pos} {k i : Nat} {s : T → Rho → Option Rho} {el : DV}
theorem R_allF (hc : C.cls cn = some cc) (kc : ClK X.K cc fl) (hf : f ∈ fl) (hst : Stores s (own.map (·.2))) (hP : C.tb P) (hr : Room (k + 1) X.A) (hgl : Gl X "all") (hm : X.mg "all" = none) (TB : GxR.TabB X.base X.mg c P) (hcode : X.env.code = .ref c) (ok : GnOk X.N X.env.scope scope own) (hN : X.N.Nodup) (hi : PE X (.Name y py) (tVar i))
    (hb : attributeBase (.Name y py) f X.env (eval (.Name y py) X.env) = eval (.Name y py) X.env)
    (hgt : ∀ (s' : Shared) (H : Hp) (C' : Addr) (code : Value) (fp : List Addr) (go : Addr × Obj), Room k (gnX X s' H (gnEnv X scope C' code) fp go).A → PG (gnX X s' H (gnEnv X scope C' code) fp go) tg (tTg C (own.map (·.2)) s))
    (he : ∀ (s' : Shared) (H : Hp) (C' : Addr) (code : Value) (fp : List Addr) (go : Addr × Obj), Room k (gnX X s' H (gnEnv X scope C' code) fp go).A → PE (gnX X s' H (gnEnv X scope C' code) fp go) elt (tV C E0 true el)) :
    PE X (.Call (.Name "all" px) [.GeneratorExp elt [⟨tg, .Attribute (.Name y py) f apos, [], 0⟩] scope gpos] [] pos) (tR C E p (dGnF false s (own.map (·.2)) cn i f el)) :=
  ⟨fun pins s' σ H Q I h => by
    have a := pe_gn_all (p := px) (pos := pos) (gpos := gpos) hr hgl hm TB hcode ok hN (pi_keys (pe_fld (pos := apos) hi hb)) hgt he (fun _ => rfl)
    rcases gnF_den hc kc hf hst hP h with h | h
    · exact a.run pins s' σ H Q I h
    · exact (pe_lock a).run pins s' σ H Q I h⟩
end
/-! ### a comprehension whose name is a slot of the def, too -/
def dItW (vs : List Nat) (it : DI) : DI := bnd it fun ts ρ => some (.ok ts (wipeR ρ vs))
section
variable {C : Ctx} {X : Cx} {E : XW} {tg e : Expr} {it : DI} {vs : List Nat}
/-- what the slot held is forgotten -/
theorem I_wipe (h : PI X tg e (tI C E false it)) : PI X tg e (tI C E false (dItW vs it)) := PI_imp h fun σ H R ⟨F, ρ, As, o, env, hd, post⟩ => by
  rcases bnd_cases hd with ⟨ts, ρ1, q1, hd⟩ | ⟨x, ρ', q1, rfl⟩
  · cases hd
    refine ⟨F, ρ, As, _, env, q1, fun J F1 H1 As1 env1 st1 pu1 Y => ?_⟩
    obtain ⟨As2, env2, sb⟩ := env_wipe env1 vs
    exact post J F1 H1 As2 env2 ⟨st1.ff, st1.keep, fun b hb => st1.own b (sb b hb), st1.tab⟩ (fun z => by cases z) Y
  · exact ⟨F, ρ, As, _, env, q1, post⟩
end
@[simp ↓] theorem e_dItW {vs : List Nat} {it : DI} {ρ : Rho} : dItW vs it ρ = bnd it (fun ts ρ => some (.ok ts (wipeR ρ vs))) ρ := rfl
@[simp ↓] theorem e_doCons {d : Rho → Option (Out RV)} {ds : DAo} {ρ : Rho} : doCons d ds ρ = bnd d (fun t => bnd ds fun ts ρ => some (.ok (t :: ts) ρ)) ρ := rfl
/-! ### a program's defs and methods -/
structure FamC (ι : Type) extends Fam ι where
  ql : ι → Str
  fr : ι → Bool
structure FamTopC {ι : Type} (D : FamC ι) (K : PySem.W.Frag) (mg : Str → Option Value) (ad : ι → Addr) (fdt : ι → FuncData) : Prop where
  fn : ∀ i, Fun K (D.nm i) (D.ql i) (D.st i) (ad i) (fdt i)
  mgf : ∀ i, D.fr i = true → mg (D.nm i) = some (.ref (ad i))
  bn : ∀ i, Binds K (fdt i) (D.ps i) []
  nob : ∀ x ∈ D.nb, mg x = none
/-- the j-th statement of a class -/
def inCls (s : Stmt) (j : Nat) : Stmt := match s with
  | .ClassDef _ _ _ b _ _ _ _ _ _ _ => b.getD j s
  | s => s
/-! ### as simp reads them -/
section
variable {ρ : Rho}
@[simp ↓] theorem e_dChn3V {g g' g'' : T → T → Option Bool} {da db dc dd : DV} : dChn3V g g' g'' da db dc dd ρ = bnd da (fun x => bnd db fun y ρ => match g x y with
  | some true => (bnd dc fun z ρ => match g' y z with
    | some true => (bnd dd fun u ρ => match g'' z u with
      | some b => some (.ok (.bl b) ρ)
      | none => none) ρ
    | some false => some (.ok (.bl false) ρ)
    | none => none) ρ
  | some false => some (.ok (.bl false) ρ)
  | none => none) ρ := rfl
@[simp ↓] theorem e_dChnV {g g' : T → T → Option Bool} {da db dc : DV} : dChnV g g' da db dc ρ = bnd (dChn g g' da db dc) (fun b ρ => some (.ok (.bl b) ρ)) ρ := rfl
@[simp ↓] theorem e_dChn {g g' : T → T → Option Bool} {da db dc : DV} : dChn g g' da db dc ρ = bnd da (fun x => bnd db fun y ρ => match g x y with
  | some true => (bnd dc fun z ρ => match g' y z with
    | some b => some (.ok b ρ)
    | none => none) ρ
  | some false => some (.ok false ρ)
  | none => none) ρ := rfl
@[simp ↓] theorem e_dFldv {cn f : Str} {i : Nat} : dFldv cn i f ρ = match ρ[i]? with
  | some (some (.nd m (.obj cn' fs) ts)) => if cn' = cn ∧ (ts.all fun t => !t.mk) = true then match lkF fs ts f with
      | some t => some (.ok t ρ)
      | none => none
    else none
  | _ => none := rfl
@[simp ↓] theorem e_dSetf {cn f : Str} {i : Nat} {d : DV} : dSetf cn i f d ρ = bnd d (fun u ρ => match ρ[i]? with
  | some (some (.nd true (.obj cn' fs) ts)) => if cn' = cn ∧ (ts.all fun t => !t.mk) = true ∧ fs.length < 1000 then some (.ok .nx (ρ.set i (some (.nd true (.obj cn (putT f u fs ts).1) (putT f u fs ts).2)))) else none
  | _ => none) ρ := rfl
@[simp ↓] theorem e_dMeth {p : Bool} {cn m : Str} {i : Nat} {fd : FnD} {da : DAo} : dMeth p cn m i fd da ρ = match ρ[i]? with
  | some (some (.nd _ (.obj cn' fs) ts)) => if cn' = cn ∧ m ∉ fs ∧ (ts.all fun t => !t.mk) = true then dCall fd (doCons (dArg p (fd.io == some 0) (dVar i)) da) ρ else none
  | _ => none := rfl
@[simp ↓] theorem e_dGnF {neg : Bool} {s : T → Rho → Option Rho} {vs : List Nat} {cn f : Str} {i : Nat} {el : DV} : dGnF neg s vs cn i f el ρ = match ρ[i]? with
  | some (some (.nd _ (.obj cn' fs) ts)) => if cn' = cn ∧ (ts.all fun t => !t.mk) = true ∧ bare ρ vs = true then match lkF fs ts f with
      | some (.nd _ (.dct ks) _) => match gnL neg s vs el (ks.map kyT) (scal ρ) with
        | some (b, _) => some (.ok (.tv (.bl b)) ρ)
        | none => none
      | _ => none
    else none
  | _ => none := rfl
end
end MP

namespace MP
open PySem L2

/-! ### the denotations, unfolded at slots -/
section
variable {ρ : Rho}
@[simp ↓] theorem e_bnd {α β : Type} {d : Rho → Option (Out α)} {k : α → Rho → Option (Out β)} : bnd d k ρ = match d ρ with
  | some (.ok a ρ') => k a ρ'
  | some (.exc x ρ') => some (.exc x ρ')
  | none => none := rfl
@[simp ↓] theorem e_dC {t : T} : dC t ρ = some (.ok t ρ) := rfl
@[simp ↓] theorem e_dVar {i : Nat} : dVar i ρ = match ρ[i]? with
  | some (some t) => if t.mk then some (.ok (.pl i []) ρ) else some (.ok (.tv t) ρ)
  | _ => none := rfl
@[simp ↓] theorem e_dNil : dNil ρ = some (.ok [] ρ) := rfl
@[simp ↓] theorem e_doNil : doNil ρ = some (.ok [] ρ) := rfl
@[simp ↓] theorem e_dVs0 : dVs [] ρ = some (.ok [] ρ) := rfl
@[simp ↓] theorem e_dSs0 : dSs [] ρ = some (.ok .nx ρ) := rfl
@[simp ↓] theorem e_dNx : dNx ρ = some (.ok .nx ρ) := rfl
@[simp ↓] theorem e_dBrk : dBrk ρ = some (.ok .brk ρ) := rfl
@[simp ↓] theorem e_dCnt : dCnt ρ = some (.ok .cnt ρ) := rfl
@[simp ↓] theorem e_dRetN : dRetN ρ = some (.ok (.ret (.tv .non)) ρ) := rfl
@[simp ↓] theorem e_dYes : dYes ρ = some (.ok true ρ) := rfl
@[simp ↓] theorem e_dArgs0 {p : Bool} {io : Option Nat} {k : Nat} : dArgs p io k [] ρ = some (.ok [] ρ) := rfl
@[simp ↓] theorem e_dDct0 : dDct0 ρ = some (.ok (.tv (.nd true (.dct []) [])) ρ) := rfl
@[simp ↓] theorem e_dPr0 : dPr [] ρ = some (.ok [] ρ) := rfl
@[simp ↓] theorem e_dONone : dONone ρ = some (.ok none ρ) := rfl
@[simp] theorem e_seqF0 {d : DS} : seqF .nx d ρ = d ρ := rfl
@[simp] theorem e_seqF1 {d : DS} : seqF .brk d ρ = some (.ok .brk ρ) := rfl
@[simp] theorem e_seqF2 {d : DS} : seqF .cnt d ρ = some (.ok .cnt ρ) := rfl
@[simp] theorem e_seqF3 {d : DS} {rv : RV} : seqF (.ret rv) d ρ = some (.ok (.ret rv) ρ) := rfl
@[simp] theorem e_loopF0 {d : DS} : loopF .nx d ρ = d ρ := rfl
@[simp] theorem e_loopF1 {d : DS} : loopF .brk d ρ = some (.ok .nx ρ) := rfl
@[simp] theorem e_loopF2 {d : DS} : loopF .cnt d ρ = d ρ := rfl
@[simp] theorem e_loopF3 {d : DS} {rv : RV} : loopF (.ret rv) d ρ = some (.ok (.ret rv) ρ) := rfl
@[simp ↓] theorem e_dV {p : Bool} {d : DR} : dV p d ρ = bnd d (fun rv ρ => match frc p rv ρ with
    | some (t, ρ') => some (.ok t ρ')
    | none => none) ρ := rfl
@[simp ↓] theorem e_dH {d : DR} : dH d ρ = bnd d (fun rv ρ => (match rdv rv ρ with
    | some u => some (.ok u ρ)
    | none => none)) ρ := rfl
@[simp ↓] theorem e_dR {d : DV} : dR d ρ = bnd d (fun t ρ => some (.ok (.tv t) ρ)) ρ := rfl
@[simp ↓] theorem e_dU {g : T → Option T} {d : DV} : dU g d ρ = bnd d (fun t ρ => (match g t with
    | some u => some (.ok u ρ)
    | none => none)) ρ := rfl
@[simp ↓] theorem e_dTru {d : DV} : dTru d ρ = bnd d (fun t ρ => (match truT t with
    | some u => some (.ok u ρ)
    | none => none)) ρ := rfl
@[simp ↓] theorem e_dAndV {d d' : DV} : dAndV d d' ρ = bnd d (fun x ρ => match x with
    | .bl true => d' ρ
    | .bl false => some (.ok (.bl false) ρ)
    | _ => none) ρ := by
  show bnd d (fun x => match x with
  | .bl true => d'
  | .bl false => fun ρ => some (.ok (.bl false) ρ)
  | _ => fun _ => none) ρ = _
  unfold bnd
  rcases d ρ with _ | (⟨b, _⟩ | _)
  · rfl
  · cases b with
    | bl b => cases b <;> rfl
    | _ => rfl
  · rfl
@[simp ↓] theorem e_dOrV {d d' : DV} : dOrV d d' ρ = bnd d (fun x ρ => match x with
    | .bl true => some (.ok (.bl true) ρ)
    | .bl false => d' ρ
    | _ => none) ρ := by
  show bnd d (fun x => match x with
  | .bl true => fun ρ => some (.ok (.bl true) ρ)
  | .bl false => d'
  | _ => fun _ => none) ρ = _
  unfold bnd
  rcases d ρ with _ | (⟨b, _⟩ | _)
  · rfl
  · cases b with
    | bl b => cases b <;> rfl
    | _ => rfl
  · rfl
@[simp ↓] theorem e_dTst {g : T → Option Bool} {d : DV} : dTst g d ρ = bnd d (fun t ρ => (match g t with
    | some u => some (.ok u ρ)
    | none => none)) ρ := rfl
@[simp ↓] theorem e_dU1 {g : T → Option T} {d : DV} : dU1 g d ρ = bnd d (fun t ρ => (match g t with
    | some u => some (.ok (.tv u) ρ)
    | none => none)) ρ := rfl
@[simp ↓] theorem e_dUn {g : List T → Option T} {d : DA} : dUn g d ρ = bnd d (fun t ρ => (match g t with
    | some u => some (.ok (.tv u) ρ)
    | none => none)) ρ := rfl
@[simp ↓] theorem e_dMxD {da db : DV} : dMxD da db ρ = bnd da (fun x => bnd db (fun y ρ => (match mxDT x y with
    | some u => some (.ok (.tv u) ρ)
    | none => none))) ρ := rfl
@[simp ↓] theorem e_dB {g : T → T → Option T} {da db : DV} : dB g da db ρ = bnd da (fun x => bnd db (fun y ρ => (match g x y with
    | some u => some (.ok (.tv u) ρ)
    | none => none))) ρ := rfl
@[simp ↓] theorem e_dCmp {g : T → T → Option Bool} {da db : DV} : dCmp g da db ρ = bnd da (fun x => bnd db (fun y ρ => (match g x y with
    | some u => some (.ok (.bl u) ρ)
    | none => none))) ρ := rfl
@[simp ↓] theorem e_dCmpT {g : T → T → Option Bool} {da db : DV} : dCmpT g da db ρ = bnd da (fun x => bnd db (fun y ρ => (match g x y with
    | some u => some (.ok u ρ)
    | none => none))) ρ := rfl
@[simp ↓] theorem e_dSub {da db : DV} : dSub da db ρ = bnd da (fun x => bnd db (fun y ρ => (match getT x y with
    | some u => some (.ok u ρ)
    | none => none))) ρ := rfl
@[simp ↓] theorem e_dIfS {t : DT} {d d' : DS} : dIfS t d d' ρ = bnd t (fun b ρ => if b = true then d ρ else d' ρ) ρ := by
  show bnd t (fun b => if b = true then d else d') ρ = _
  unfold bnd
  rcases t ρ with _ | (⟨b, _⟩ | _)
  · rfl
  · cases b <;> rfl
  · rfl
@[simp ↓] theorem e_dIf {t : DT} {d d' : DR} : dIf t d d' ρ = bnd t (fun b ρ => if b = true then d ρ else d' ρ) ρ := by
  show bnd t (fun b => if b = true then d else d') ρ = _
  unfold bnd
  rcases t ρ with _ | (⟨b, _⟩ | _)
  · rfl
  · cases b <;> rfl
  · rfl
@[simp ↓] theorem e_dAnd {d d' : DT} : dAnd d d' ρ = bnd d (fun b ρ => if b = true then d' ρ else some (.ok false ρ)) ρ := by
  show bnd d (fun b => if b = true then d' else fun ρ => some (.ok false ρ)) ρ = _
  unfold bnd
  rcases d ρ with _ | (⟨b, _⟩ | _)
  · rfl
  · cases b <;> rfl
  · rfl
@[simp ↓] theorem e_dOr {d d' : DT} : dOr d d' ρ = bnd d (fun b ρ => if b = true then some (.ok true ρ) else d' ρ) ρ := by
  show bnd d (fun b => if b = true then fun ρ => some (.ok true ρ) else d') ρ = _
  unfold bnd
  rcases d ρ with _ | (⟨b, _⟩ | _)
  · rfl
  · cases b <;> rfl
  · rfl
@[simp ↓] theorem e_dNot {d : DT} : dNot d ρ = bnd d (fun b ρ => some (.ok (!b) ρ)) ρ := rfl
@[simp ↓] theorem e_dSs1 {d : DS} {r : List DS} : dSs (d :: r) ρ = bnd d (fun f ρ => seqF f (dSs r) ρ) ρ := rfl
@[simp ↓] theorem e_dRet {d : DR} : dRet d ρ = bnd d (fun rv ρ => some (.ok (.ret rv) ρ)) ρ := rfl
@[simp ↓] theorem e_dExp {d : DR} : dExp d ρ = bnd d (fun rv ρ => some (.ok .nx ρ)) ρ := rfl
@[simp ↓] theorem e_dVs1 {d : DV} {r : List DV} : dVs (d :: r) ρ = bnd d (fun t => bnd (dVs r) (fun ts ρ => some (.ok (t :: ts) ρ))) ρ := rfl
@[simp ↓] theorem e_dPr1 {d : DV} {r : List DV} : dPr (d :: r) ρ = bnd d (fun t => bnd (dPr r) (fun ts ρ => some (.ok (t :: ts) ρ))) ρ := rfl
@[simp ↓] theorem e_dArgs1 {p : Bool} {io : Option Nat} {k : Nat} {d : DR} {r : List DR} : dArgs p io k (d :: r) ρ = bnd (dArg p (io == some k) d) (fun t => bnd (dArgs p io (k + 1) r) (fun ts ρ => some (.ok (t :: ts) ρ))) ρ := rfl
@[simp ↓] theorem e_dArg {p io : Bool} {d : DR} : dArg p io d ρ = bnd d (fun rv ρ => match argc p io rv ρ with
    | some (u, ρ') => some (.ok u ρ')
    | none => none) ρ := rfl
@[simp ↓] theorem e_dTup {ds : DA} : dTup ds ρ = bnd ds (fun ts ρ => if ts.length ≤ sizeLine then some (.ok (.tv (.tup ts)) ρ) else none) ρ := rfl
@[simp ↓] theorem e_dLst {ds : DA} : dLst ds ρ = bnd ds (fun ts ρ => if ts.length ≤ sizeLine then some (.ok (.tv (.nd true .lst ts)) ρ) else none) ρ := rfl
@[simp ↓] theorem e_dDct {ks : List Str} {ds : List DV} : dDct ks ds ρ = bnd (dPr ds) (fun ts ρ => some (.ok (.tv (.nd true (.dct (ks.map Sum.inr)) ts)) ρ)) ρ := rfl
@[simp ↓] theorem e_dAsg {io : Option Nat} {i : Nat} {d : DR} : dAsg io i d ρ = bnd d (fun rv ρ => match keepv rv ρ with
    | some (t, ρ1) => (match stor io i t ρ1 with
      | some ρ2 => some (.ok .nx ρ2)
      | none => none)
    | none => none) ρ := rfl
@[simp ↓] theorem e_dItV {d : DV} : dItV d ρ = bnd d (fun t ρ => (match seqv t with
    | some u => some (.ok u ρ)
    | none => none)) ρ := rfl
@[simp ↓] theorem e_dItA {g : List T → Option (List T)} {d : DA} : dItA g d ρ = bnd d (fun ts ρ => (match g ts with
    | some u => some (.ok u ρ)
    | none => none)) ρ := rfl
@[simp ↓] theorem e_dFor {s : T → Rho → Option Rho} {it : DI} {body : DS} : dFor s it body ρ = bnd it (fun ts => dLoop s body ts) ρ := rfl
@[simp ↓] theorem e_dLc {s : T → Rho → Option Rho} {vs : List Nat} {it : DI} {c : DT} {el : DV} : dLc s vs it c el ρ = bnd it (fun ts ρ => if ts.length ≤ sizeLine ∧ bare ρ vs = true then match lcL s vs c el ts ρ with
    | some (us, ρ') => some (.ok (.tv (.nd true .lst us)) ρ')
    | none => none
  else none) ρ := rfl
@[simp ↓] theorem e_dOSome {d : DV} : dOSome d ρ = bnd d (fun t ρ => match t with
  | .int i => some (.ok (some i) ρ)
  | _ => none) ρ := rfl
@[simp ↓] theorem e_dSlc {d : DV} {l h : DO} : dSlc d l h ρ = bnd d (fun t => bnd l (fun i => bnd h (fun j ρ => match slcT t i j with
  | some u => some (.ok (.tv u) ρ)
  | none => none))) ρ := rfl
@[simp ↓] theorem e_dSubv {i : Nat} {db : DV} : dSubv i db ρ = match ρ[i]? with
  | some (some _) => (bnd db fun y ρ => match ρ[i]? with
    | some (some t) => if plainTop t = true then match getT t y with
        | some u => some (.ok u ρ)
        | none => none
      else none
    | _ => none) ρ
  | _ => none := rfl
@[simp ↓] theorem e_dSeti {i : Nat} {d db : DV} : dSeti i d db ρ = bnd d (fun v ρ => match ρ[i]? with
  | some (some _) => (bnd db fun y ρ => match ρ[i]? with
    | some (some t) => if t.mk = true ∧ plainTop t = true then match setT t y v with
        | some u => some (.ok .nx (ρ.set i (some u)))
        | none => none
      else none
    | _ => none) ρ
  | _ => none) ρ := rfl
@[simp ↓] theorem e_dApp {i : Nat} {d : DV} : dApp i d ρ = if isLst ρ i = true then (bnd d (appK i)) ρ else none := rfl
@[simp ↓] theorem e_dLoop0 {s : T → Rho → Option Rho} {body : DS} : dLoop s body [] ρ = some (.ok .nx ρ) := rfl
theorem dLoop_cons {s : T → Rho → Option Rho} {body : DS} {t : T} {ts : List T} : dLoop s body (t :: ts) ρ = match s t ρ with
    | some ρ' => (bnd body fun f => loopF f (dLoop s body ts)) ρ'
    | none => none := rfl
@[simp ↓] theorem e_dCall {fd : FnD} {da : DAo} : dCall fd da ρ = bnd da (fun rvs ρ =>
  if rvs.length = fd.n then match argT rvs ρ with
    | none => none
    | some ts => match fd.d (ts.map some) with
      | some (.ok (.tv r) outs) => match putBack (ioAt fd.io rvs) outs ρ with
        | some ρ' => some (.ok (.tv r) ρ')
        | none => none
      | some (.exc x outs) => match putBack (ioAt fd.io rvs) outs ρ with
        | some ρ' => some (.exc x ρ')
        | none => none
      | _ => none
  else none) ρ := rfl

@[simp] theorem mk_nd {m : Bool} {k : Kd} {ts : List T} : (T.nd m k ts).mk = m := rfl
@[simp] theorem mk_int {i : Int} : (T.int i).mk = false := rfl
@[simp] theorem mk_str {i : Str} : (T.str i).mk = false := rfl
@[simp] theorem mk_bl {i : Bool} : (T.bl i).mk = false := rfl
@[simp] theorem mk_non : T.non.mk = false := rfl
@[simp] theorem mk_fn {i : Str} : (T.fn i).mk = false := rfl
@[simp] theorem strip_nd {m : Bool} {k : Kd} {ts : List T} : strip (T.nd m k ts) = .nd false k (strips ts) := rfl
@[simp] theorem strip_int {i : Int} : strip (T.int i) = .int i := rfl
@[simp] theorem strip_str {i : Str} : strip (T.str i) = .str i := rfl
@[simp] theorem strip_bl {i : Bool} : strip (T.bl i) = .bl i := rfl
@[simp] theorem strip_non : strip T.non = .non := rfl
@[simp] theorem strips_nil : strips [] = [] := rfl
@[simp] theorem strips_cons {t : T} {ts : List T} : strips (t :: ts) = strip t :: strips ts := rfl
@[simp] theorem frc_tv {p : Bool} {t : T} : frc p (.tv t) ρ = some (strip t, ρ) := rfl
@[simp] theorem frc_pl {i : Nat} : frc false (.pl i []) ρ = match ρ[i]? with
  | some (some t) => some (strip t, ρ.set i (some (strip t)))
  | _ => none := rfl
@[simp] theorem rdv_tv {t : T} : rdv (.tv t) ρ = some (strip t) := rfl
@[simp] theorem rdv_pl {i : Nat} : rdv (.pl i []) ρ = match ρ[i]? with
  | some (some t) => some (strip t)
  | _ => none := by
  show (match ρ[i]? with
    | some (some t) => (t.at []).map strip
    | _ => none) = _
  split <;> rfl
@[simp] theorem argc_tv {p io : Bool} {t : T} : argc p io (.tv t) ρ = some (.tv (strip t), ρ) := rfl
@[simp] theorem argc_io {i : Nat} : argc false true (.pl i []) ρ = some (.pl i [], ρ) := rfl
@[simp] theorem argc_pl {i : Nat} : argc false false (.pl i []) ρ = match ρ[i]? with
  | some (some t) => some (.tv (strip t), ρ.set i (some (strip t)))
  | _ => none := by
  show (if false = true ∧ ([] : List Nat) = [] then (if false = true then none else some (RV.pl i [], ρ)) else match frc false (.pl i []) ρ with
    | some (u, ρ') => some (RV.tv u, ρ')
    | none => none) = _
  rw [if_neg (by simp), frc_pl]
  rcases ρ[i]? with _ | (_ | t) <;> rfl
@[simp] theorem keepv_tv {t : T} : keepv (.tv t) ρ = some (t, ρ) := rfl
@[simp] theorem keepv_pl {i : Nat} : keepv (.pl i []) ρ = frc false (.pl i []) ρ := rfl
@[simp] theorem e_stor {io : Option Nat} {i : Nat} {t : T} : stor io i t ρ = if io = some i then none else if i < ρ.length then some (ρ.set i (some t)) else none := rfl
@[simp] theorem e_sNm {i : Nat} {t : T} : sNm i t ρ = if i < ρ.length then some (ρ.set i (some t)) else none := rfl
@[simp] theorem argT_nil : argT [] ρ = some [] := rfl
@[simp] theorem argT_tv {t : T} {r : List RV} : argT (.tv t :: r) ρ = match argT r ρ with
    | some ts => some (t :: ts)
    | none => none := rfl
@[simp] theorem argT_pl {i : Nat} {q : List Nat} {r : List RV} : argT (.pl i q :: r) ρ = match ρ[i]?, argT r ρ with
    | some (some t), some ts => some (t :: ts)
    | _, _ => none := rfl
@[simp] theorem ioAt_no {rvs : List RV} : ioAt none rvs = none := rfl
@[simp] theorem ioAt_0pl {i : Nat} {q : List Nat} {r : List RV} : ioAt (some 0) (.pl i q :: r) = some (0, i) := rfl
@[simp] theorem ioAt_0tv {t : T} {r : List RV} : ioAt (some 0) (.tv t :: r) = none := rfl
@[simp] theorem putBack_no {os : Rho} : putBack none os ρ = some ρ := rfl
@[simp] theorem putBack_0 {i : Nat} {t : T} {r : Rho} : putBack (some (0, i)) (some t :: r) ρ = some (ρ.set i (some t)) := rfl
@[simp] theorem retv_tv {io : Option Nat} {t : T} : retv io (.tv t) ρ = some (t, ρ) := rfl
@[simp] theorem retv_pl {io : Option Nat} {i : Nat} : retv io (.pl i []) ρ = if io = some i then frc false (.pl i []) ρ else match ρ[i]? with
    | some (some t) => some (t, ρ.set i none)
    | _ => none := rfl
@[simp] theorem outs_no {n : Nat} : outs n none ρ = List.replicate n none := rfl
@[simp] theorem outs_0 {n : Nat} : outs n (some 0) ρ = (List.replicate n none).set 0 (ρ[0]?.getD none) := rfl
@[simp] theorem eqS_int {a b : Int} : eqS (.int a) (.int b) = some (a == b) := rfl
@[simp] theorem eqS_str {a b : Str} : eqS (.str a) (.str b) = some (a == b) := rfl
@[simp] theorem eqS_bl {a b : Bool} : eqS (.bl a) (.bl b) = some (a == b) := rfl
@[simp] theorem neS_int {a b : Int} : neS (.int a) (.int b) = some (!(a == b)) := rfl
@[simp] theorem neS_str {a b : Str} : neS (.str a) (.str b) = some (!(a == b)) := rfl
@[simp] theorem neS_bl {a b : Bool} : neS (.bl a) (.bl b) = some (!(a == b)) := rfl
@[simp] theorem eqT_int {a b : Int} : eqT (.int a) (.int b) = some (a == b) := rfl
@[simp] theorem eqT_str {a b : Str} : eqT (.str a) (.str b) = some (a == b) := rfl
@[simp] theorem eqT_bl {a b : Bool} : eqT (.bl a) (.bl b) = some (a == b) := rfl
@[simp] theorem neT_int {a b : Int} : neT (.int a) (.int b) = some (!(a == b)) := rfl
@[simp] theorem neT_str {a b : Str} : neT (.str a) (.str b) = some (!(a == b)) := rfl
@[simp] theorem neT_bl {a b : Bool} : neT (.bl a) (.bl b) = some (!(a == b)) := rfl
@[simp] theorem isi_int_int {i : Int} : isiT .int (.int i) = some (.bl true) := rfl
@[simp] theorem isi_int_str {x : Str} : isiT .int (.str x) = some (.bl false) := rfl
@[simp] theorem isi_int_bl {b : Bool} : isiT .int (.bl b) = some (.bl true) := rfl
@[simp] theorem isi_int_non  : isiT .int (.non) = some (.bl false) := rfl
@[simp] theorem isi_int_lst {m : Bool} {ts : List T} : isiT .int (.nd m .lst ts) = some (.bl false) := rfl
@[simp] theorem isi_int_tup {m : Bool} {ts : List T} : isiT .int (.nd m .tup ts) = some (.bl false) := rfl
@[simp] theorem isi_int_dct {m : Bool} {ks : List Key} {ts : List T} : isiT .int (.nd m (.dct ks) ts) = some (.bl false) := rfl
@[simp] theorem isi_str_int {i : Int} : isiT .str (.int i) = some (.bl false) := rfl
@[simp] theorem isi_str_str {x : Str} : isiT .str (.str x) = some (.bl true) := rfl
@[simp] theorem isi_str_bl {b : Bool} : isiT .str (.bl b) = some (.bl false) := rfl
@[simp] theorem isi_str_non  : isiT .str (.non) = some (.bl false) := rfl
@[simp] theorem isi_str_lst {m : Bool} {ts : List T} : isiT .str (.nd m .lst ts) = some (.bl false) := rfl
@[simp] theorem isi_str_tup {m : Bool} {ts : List T} : isiT .str (.nd m .tup ts) = some (.bl false) := rfl
@[simp] theorem isi_str_dct {m : Bool} {ks : List Key} {ts : List T} : isiT .str (.nd m (.dct ks) ts) = some (.bl false) := rfl
@[simp] theorem isi_bool_int {i : Int} : isiT .bool (.int i) = some (.bl false) := rfl
@[simp] theorem isi_bool_str {x : Str} : isiT .bool (.str x) = some (.bl false) := rfl
@[simp] theorem isi_bool_bl {b : Bool} : isiT .bool (.bl b) = some (.bl true) := rfl
@[simp] theorem isi_bool_non  : isiT .bool (.non) = some (.bl false) := rfl
@[simp] theorem isi_bool_lst {m : Bool} {ts : List T} : isiT .bool (.nd m .lst ts) = some (.bl false) := rfl
@[simp] theorem isi_bool_tup {m : Bool} {ts : List T} : isiT .bool (.nd m .tup ts) = some (.bl false) := rfl
@[simp] theorem isi_bool_dct {m : Bool} {ks : List Key} {ts : List T} : isiT .bool (.nd m (.dct ks) ts) = some (.bl false) := rfl
@[simp] theorem isi_list_int {i : Int} : isiT .list (.int i) = some (.bl false) := rfl
@[simp] theorem isi_list_str {x : Str} : isiT .list (.str x) = some (.bl false) := rfl
@[simp] theorem isi_list_bl {b : Bool} : isiT .list (.bl b) = some (.bl false) := rfl
@[simp] theorem isi_list_non  : isiT .list (.non) = some (.bl false) := rfl
@[simp] theorem isi_list_lst {m : Bool} {ts : List T} : isiT .list (.nd m .lst ts) = some (.bl true) := rfl
@[simp] theorem isi_list_tup {m : Bool} {ts : List T} : isiT .list (.nd m .tup ts) = some (.bl false) := rfl
@[simp] theorem isi_list_dct {m : Bool} {ks : List Key} {ts : List T} : isiT .list (.nd m (.dct ks) ts) = some (.bl false) := rfl
@[simp] theorem isi_tuple_int {i : Int} : isiT .tuple (.int i) = some (.bl false) := rfl
@[simp] theorem isi_tuple_str {x : Str} : isiT .tuple (.str x) = some (.bl false) := rfl
@[simp] theorem isi_tuple_bl {b : Bool} : isiT .tuple (.bl b) = some (.bl false) := rfl
@[simp] theorem isi_tuple_non  : isiT .tuple (.non) = some (.bl false) := rfl
@[simp] theorem isi_tuple_lst {m : Bool} {ts : List T} : isiT .tuple (.nd m .lst ts) = some (.bl false) := rfl
@[simp] theorem isi_tuple_tup {m : Bool} {ts : List T} : isiT .tuple (.nd m .tup ts) = some (.bl true) := rfl
@[simp] theorem isi_tuple_dct {m : Bool} {ks : List Key} {ts : List T} : isiT .tuple (.nd m (.dct ks) ts) = some (.bl false) := rfl
@[simp] theorem isi_dict_int {i : Int} : isiT .dict (.int i) = some (.bl false) := rfl
@[simp] theorem isi_dict_str {x : Str} : isiT .dict (.str x) = some (.bl false) := rfl
@[simp] theorem isi_dict_bl {b : Bool} : isiT .dict (.bl b) = some (.bl false) := rfl
@[simp] theorem isi_dict_non  : isiT .dict (.non) = some (.bl false) := rfl
@[simp] theorem isi_dict_lst {m : Bool} {ts : List T} : isiT .dict (.nd m .lst ts) = some (.bl false) := rfl
@[simp] theorem isi_dict_tup {m : Bool} {ts : List T} : isiT .dict (.nd m .tup ts) = some (.bl false) := rfl
@[simp] theorem isi_dict_dct {m : Bool} {ks : List Key} {ts : List T} : isiT .dict (.nd m (.dct ks) ts) = some (.bl true) := rfl
@[simp] theorem ltT_int {a b : Int} : ltT (.int a) (.int b) = some (decide (a < b)) := rfl
@[simp] theorem gtT_int {a b : Int} : gtT (.int a) (.int b) = some (decide (b < a)) := rfl
@[simp] theorem leT_int {a b : Int} : leT (.int a) (.int b) = some (decide (a ≤ b)) := rfl
@[simp] theorem geT_int {a b : Int} : geT (.int a) (.int b) = some (decide (b ≤ a)) := rfl
@[simp] theorem ltT_str {a b : Str} : ltT (.str a) (.str b) = some (ltS a b) := rfl
@[simp] theorem gtT_str {a b : Str} : gtT (.str a) (.str b) = some (ltS b a) := rfl
@[simp] theorem addT_int {a b : Int} : addT (.int a) (.int b) = some (.int (a + b)) := rfl
@[simp] theorem addT_str {a b : Str} : addT (.str a) (.str b) = if a.length + b.length ≤ sizeLine then some (.str (a ++ b)) else none := rfl
@[simp] theorem addT_lst {a b : List T} : addT (.lst a) (.lst b) = if a.length + b.length ≤ sizeLine then some (.nd true .lst (a ++ b)) else none := rfl
@[simp] theorem subT_int {a b : Int} : subT (.int a) (.int b) = some (.int (a - b)) := rfl
theorem mulT_l {a b : Int} (h1 : -100000000 < a) (h2 : a < 100000000) : mulT (.int a) (.int b) = some (.int (a * b)) := by
  show (if a.natAbs < 18446744073709551616 ∨ b.natAbs < 18446744073709551616 then some (T.int (a * b)) else none) = _
  rw [if_pos (.inl (by omega))]
theorem mulT_r {a b : Int} (h1 : -100000000 < b) (h2 : b < 100000000) : mulT (.int a) (.int b) = some (.int (a * b)) := by
  show (if a.natAbs < 18446744073709551616 ∨ b.natAbs < 18446744073709551616 then some (T.int (a * b)) else none) = _
  rw [if_pos (.inr (by omega))]
theorem modT_int {a b : Int} : modT (.int a) (.int b) = if 0 < b then some (.int (a % b)) else none := rfl
theorem fdivT_int {a b : Int} : fdivT (.int a) (.int b) = if 0 < b ∧ b.natAbs < 1073741824 then some (.int (a / b)) else none := rfl
@[simp] theorem negT_int {a : Int} : negT (.int a) = some (.int (-a)) := rfl
@[simp] theorem intT_int {a : Int} : intT (.int a) = some (.int a) := rfl
@[simp] theorem intT_bl {a : Bool} : intT (.bl a) = some (.int (if a then 1 else 0)) := rfl
@[simp] theorem absT_int {a : Int} : absT (.int a) = some (.int (if a < 0 then -a else a)) := rfl
@[simp] theorem max2T_int {i j : Int} : max2T [.int i, .int j] = some (.int (if j > i then j else i)) := rfl
@[simp] theorem min2T_int {i j : Int} : min2T [.int i, .int j] = some (.int (if j < i then j else i)) := rfl
@[simp] theorem lenT_str {x : Str} : lenT (.str x) = if x.length ≤ sizeLine then some (.int x.length) else none := rfl
@[simp] theorem lenT_lst {m : Bool} {ts : List T} : lenT (.nd m .lst ts) = some (.int ts.length) := rfl
@[simp] theorem lenT_tup {m : Bool} {ts : List T} : lenT (.nd m .tup ts) = some (.int ts.length) := rfl
@[simp] theorem lenT_scr {m : Bool} {ts : List T} : lenT (.nd m .scr ts) = some (.int ts.length) := rfl
@[simp] theorem lenT_dct {m : Bool} {ks : List Key} {ts : List T} : lenT (.nd m (.dct ks) ts) = some (.int ks.length) := rfl
@[simp] theorem truT_bl {b : Bool} : truT (.bl b) = some b := rfl
@[simp] theorem truT_int {b : Int} : truT (.int b) = some (b != 0) := rfl
@[simp] theorem truT_non : truT .non = some false := rfl
@[simp] theorem truT_lst {m : Bool} {ts : List T} : truT (.nd m .lst ts) = some !ts.isEmpty := rfl
@[simp] theorem seqv_lst {m : Bool} {ts : List T} : seqv (.nd m .lst ts) = some ts := rfl
@[simp] theorem seqv_tup {m : Bool} {ts : List T} : seqv (.nd m .tup ts) = some ts := rfl
@[simp] theorem dZip_ok {m m' : Bool} {ts us : List T} : dZip [.nd m .lst ts, .nd m' .lst us] = some (pairsT ts us) := rfl
theorem dRng1_i {j : Int} (h0 : 0 ≤ j) (h : j < 1000000) : dRng1 [.int j] = some (rngT 0 j.toNat) := by
  show (if j.natAbs < 4611686018427387904 then some (rngT 0 j.toNat) else none) = _
  rw [if_pos (by omega)]
theorem dRng1_nat {n : Nat} (h : n < 1000000) : dRng1 [.int n] = some (rngT 0 n) := by
  rw [dRng1_i (by omega) (by omega)]; rfl
theorem dRng2_i {i j : Int} (h1 : -1000000 < i) (h2 : i < 1000000) (h3 : -1000000 < j) (h4 : j < 1000000) : dRng2 [.int i, .int j] = some (rngT i (j - i).toNat) := by
  show (if i.natAbs < 4611686018427387904 ∧ j.natAbs < 4611686018427387904 then some (rngT i (j - i).toNat) else none) = _
  rw [if_pos ⟨by omega, by omega⟩]
@[simp] theorem listT_lst {m : Bool} {ts : List T} : listT [.nd m .lst ts] = some (.nd true .lst ts) := rfl
@[simp] theorem dictT_ok {m : Bool} {ks : List Key} {ts : List T} : dictT [.nd m (.dct ks) ts] = if ks.length = ts.length then some (.nd true (.dct ks) ts) else none := rfl
@[simp] theorem getT_lst {m : Bool} {ts : List T} {i : Int} : getT (.nd m .lst ts) (.int i) = atI ts i := rfl
@[simp] theorem getT_scr {m : Bool} {ts : List T} {i : Int} : getT (.nd m .scr ts) (.int i) = atI ts i := rfl
@[simp] theorem getT_tup {m : Bool} {ts : List T} {i : Int} : getT (.nd m .tup ts) (.int i) = atI ts i := rfl
def plains (ts : List T) : Bool := ts.all fun t => !t.mk
@[simp] theorem plainTop_nd {m : Bool} {k : Kd} {ts : List T} : plainTop (.nd m k ts) = plains ts := rfl
@[simp] theorem plains_nil : plains [] = true := rfl
@[simp] theorem plains_cons {t : T} {ts : List T} : plains (t :: ts) = (!t.mk && plains ts) := rfl
@[simp] theorem plainTop_str {x : Str} : plainTop (.str x) = true := rfl
@[simp] theorem dDef_eq {n m : Nat} {io : Option Nat} {body : DS} : dDef n m io body ρ = match body (ρ ++ List.replicate (m - n) none) with
  | some (.ok .nx ρ') => some (.ok (.tv .non) (outs n io ρ'))
  | some (.ok (.ret rv) ρ') => match retv io rv ρ' with
    | some (t, ρ2) => some (.ok (.tv t) (outs n io ρ2))
    | none => none
  | some (.exc x ρ') => some (.exc x (outs n io ρ'))
  | _ => none := rfl
@[simp] theorem sz_1 : 1 ≤ sizeLine := by decide
@[simp] theorem sz_2 : 2 ≤ sizeLine := by decide
@[simp] theorem sz_3 : 3 ≤ sizeLine := by decide
@[simp] theorem sz_4 : 4 ≤ sizeLine := by decide
@[simp] theorem sz_5 : 5 ≤ sizeLine := by decide
@[simp] theorem sz_6 : 6 ≤ sizeLine := by decide
@[simp] theorem sz_7 : 7 ≤ sizeLine := by decide
@[simp] theorem sz_8 : 8 ≤ sizeLine := by decide
@[simp] theorem sz_9 : 9 ≤ sizeLine := by decide
@[simp] theorem sz_10 : 10 ≤ sizeLine := by decide
@[simp] theorem sz_11 : 11 ≤ sizeLine := by decide
@[simp] theorem sz_12 : 12 ≤ sizeLine := by decide
theorem le60 {n : Nat} (h : n < 1000) : n ≤ sizeLine := Nat.le_trans (Nat.le_of_lt h) (by decide)
theorem dSs_nx {d : DS} {r : List DS} {ρ' : Rho} (h : d ρ = some (.ok .nx ρ')) : dSs (d :: r) ρ = dSs r ρ' := by
  rw [e_dSs1, e_bnd, h]; rfl
theorem dSs_ret {d : DS} {r : List DS} {ρ' : Rho} {rv : RV} (h : d ρ = some (.ok (.ret rv) ρ')) : dSs (d :: r) ρ = some (.ok (.ret rv) ρ') := by
  rw [e_dSs1, e_bnd, h]; rfl
theorem def_ret {n m : Nat} {body : DS} {ρ' : Rho} {t : T} (h : body (ρ ++ List.replicate (m - n) none) = some (.ok (.ret (.tv t)) ρ')) : dDef n m none body ρ = some (.ok (.tv t) (List.replicate n none)) := by
  rw [dDef_eq, h]; rfl
theorem def_ret_pl {n m i : Nat} {body : DS} {ρ' : Rho} {t : T} (h : body (ρ ++ List.replicate (m - n) none) = some (.ok (.ret (.pl i [])) ρ')) (hi : ρ'[i]? = some (some t)) : dDef n m none body ρ = some (.ok (.tv t) (List.replicate n none)) := by
  rw [dDef_eq, h]
  simp [hi]
theorem def_ret0 {n m : Nat} {body : DS} {ρ' : Rho} {t : T} {o : Option T} (h : body (ρ ++ List.replicate (m - n) none) = some (.ok (.ret (.tv t)) (o :: ρ'))) (hn : 0 < n) : dDef n m (some 0) body ρ = some (.ok (.tv t) (o :: List.replicate (n - 1) none)) := by
  rw [dDef_eq, h]
  obtain ⟨k, rfl⟩ : ∃ k, n = k + 1 := ⟨n - 1, by omega⟩
  simp [List.replicate_succ]
theorem def_ret0_pl {n m i : Nat} {body : DS} {ρ' : Rho} {t : T} {o : Option T} (h : body (ρ ++ List.replicate (m - n) none) = some (.ok (.ret (.pl i [])) (o :: ρ'))) (hi : i ≠ 0) (ht : (o :: ρ')[i]? = some (some t)) (hn : 0 < n) : dDef n m (some 0) body ρ = some (.ok (.tv t) (o :: List.replicate (n - 1) none)) := by
  rw [dDef_eq, h]
  obtain ⟨k, rfl⟩ : ∃ k, n = k + 1 := ⟨n - 1, by omega⟩
  obtain ⟨j, rfl⟩ : ∃ j, i = j + 1 := ⟨i - 1, by omega⟩
  simp only [List.getElem?_cons_succ] at ht
  simp [List.replicate_succ, ht]
/-- a statement that hands back t -/
def isRet (o : Option (Out Flw)) (t : T) : Prop := ∃ ρ', o = some (.ok (.ret (.tv t)) ρ')
@[simp] theorem isRet_some {ρ : Rho} {u t : T} : isRet (some (.ok (.ret (.tv u)) ρ)) t ↔ u = t := by
  constructor
  · rintro ⟨_, h⟩; cases h; rfl
  · rintro rfl; exact ⟨_, rfl⟩
theorem isRet_hd {d : DS} {r : List DS} {ρ : Rho} {t : T} (h : isRet (d ρ) t) : isRet (dSs (d :: r) ρ) t := by
  obtain ⟨ρ', h⟩ := h
  exact ⟨ρ', by rw [e_dSs1, e_bnd, h]; rfl⟩
theorem isRet_nx {d : DS} {r : List DS} {ρ : Rho} {t : T} (ρ' : Rho) (h : d ρ = some (.ok .nx ρ')) (k : isRet (dSs r ρ') t) : isRet (dSs (d :: r) ρ) t := by
  obtain ⟨ρ2, k⟩ := k
  exact ⟨ρ2, by rw [e_dSs1, e_bnd, h]; exact k⟩
theorem isRet_def {n m : Nat} {body : DS} {ρ : Rho} {t : T} (h : isRet (body (ρ ++ List.replicate (m - n) none)) t) : dDef n m none body ρ = some (.ok (.tv t) (List.replicate n none)) := by
  obtain ⟨ρ2, k⟩ := h
  rw [dDef_eq, k]; rfl
@[simp] theorem mulT_l2 {b : Int} : mulT (.int 2) (.int b) = some (.int (2 * b)) := mulT_l (by omega) (by omega)
theorem mulT_r2 {a : Int} : mulT (.int a) (.int 2) = some (.int (a * 2)) := mulT_r (by omega) (by omega)
@[simp] theorem mulT_l3 {b : Int} : mulT (.int 3) (.int b) = some (.int (3 * b)) := mulT_l (by omega) (by omega)
theorem mulT_r3 {a : Int} : mulT (.int a) (.int 3) = some (.int (a * 3)) := mulT_r (by omega) (by omega)
@[simp] theorem mulT_l7 {b : Int} : mulT (.int 7) (.int b) = some (.int (7 * b)) := mulT_l (by omega) (by omega)
theorem mulT_r7 {a : Int} : mulT (.int a) (.int 7) = some (.int (a * 7)) := mulT_r (by omega) (by omega)
@[simp] theorem mulT_l10 {b : Int} : mulT (.int 10) (.int b) = some (.int (10 * b)) := mulT_l (by omega) (by omega)
theorem mulT_r10 {a : Int} : mulT (.int a) (.int 10) = some (.int (a * 10)) := mulT_r (by omega) (by omega)
@[simp] theorem mulT_l1000 {b : Int} : mulT (.int 1000) (.int b) = some (.int (1000 * b)) := mulT_l (by omega) (by omega)
theorem mulT_r1000 {a : Int} : mulT (.int a) (.int 1000) = some (.int (a * 1000)) := mulT_r (by omega) (by omega)
@[simp] theorem mulT_l16807 {b : Int} : mulT (.int 16807) (.int b) = some (.int (16807 * b)) := mulT_l (by omega) (by omega)
theorem mulT_r16807 {a : Int} : mulT (.int a) (.int 16807) = some (.int (a * 16807)) := mulT_r (by omega) (by omega)
@[simp] theorem mulT_l48271 {b : Int} : mulT (.int 48271) (.int b) = some (.int (48271 * b)) := mulT_l (by omega) (by omega)
theorem mulT_r48271 {a : Int} : mulT (.int a) (.int 48271) = some (.int (a * 48271)) := mulT_r (by omega) (by omega)
@[simp] theorem mulT_l69621 {b : Int} : mulT (.int 69621) (.int b) = some (.int (69621 * b)) := mulT_l (by omega) (by omega)
theorem mulT_r69621 {a : Int} : mulT (.int a) (.int 69621) = some (.int (a * 69621)) := mulT_r (by omega) (by omega)
@[simp] theorem mulT_l2000000 {b : Int} : mulT (.int 2000000) (.int b) = some (.int (2000000 * b)) := mulT_l (by omega) (by omega)
theorem mulT_r2000000 {a : Int} : mulT (.int a) (.int 2000000) = some (.int (a * 2000000)) := mulT_r (by omega) (by omega)
@[simp] theorem rng1_0 : dRng1 [.int 0] = some (rngT 0 0) := dRng1_nat (n := 0) (by omega)
@[simp] theorem rng1_1 : dRng1 [.int 1] = some (rngT 0 1) := dRng1_nat (n := 1) (by omega)
@[simp] theorem rng1_2 : dRng1 [.int 2] = some (rngT 0 2) := dRng1_nat (n := 2) (by omega)
@[simp] theorem rng1_3 : dRng1 [.int 3] = some (rngT 0 3) := dRng1_nat (n := 3) (by omega)
@[simp] theorem rng1_4 : dRng1 [.int 4] = some (rngT 0 4) := dRng1_nat (n := 4) (by omega)
@[simp] theorem rng1_5 : dRng1 [.int 5] = some (rngT 0 5) := dRng1_nat (n := 5) (by omega)
@[simp] theorem rng1_6 : dRng1 [.int 6] = some (rngT 0 6) := dRng1_nat (n := 6) (by omega)
@[simp] theorem rng1_7 : dRng1 [.int 7] = some (rngT 0 7) := dRng1_nat (n := 7) (by omega)
@[simp] theorem rng1_8 : dRng1 [.int 8] = some (rngT 0 8) := dRng1_nat (n := 8) (by omega)
@[simp] theorem rng1_9 : dRng1 [.int 9] = some (rngT 0 9) := dRng1_nat (n := 9) (by omega)
@[simp] theorem rng1_10 : dRng1 [.int 10] = some (rngT 0 10) := dRng1_nat (n := 10) (by omega)
@[simp] theorem rng1_11 : dRng1 [.int 11] = some (rngT 0 11) := dRng1_nat (n := 11) (by omega)
@[simp] theorem rng1_12 : dRng1 [.int 12] = some (rngT 0 12) := dRng1_nat (n := 12) (by omega)
@[simp] theorem rng1_13 : dRng1 [.int 13] = some (rngT 0 13) := dRng1_nat (n := 13) (by omega)
@[simp] theorem rng1_14 : dRng1 [.int 14] = some (rngT 0 14) := dRng1_nat (n := 14) (by omega)
@[simp] theorem rng1_15 : dRng1 [.int 15] = some (rngT 0 15) := dRng1_nat (n := 15) (by omega)
@[simp] theorem rng1_16 : dRng1 [.int 16] = some (rngT 0 16) := dRng1_nat (n := 16) (by omega)
@[simp] theorem rng1_60 : dRng1 [.int 60] = some (rngT 0 60) := dRng1_nat (n := 60) (by omega)
@[simp] theorem rng1_64 : dRng1 [.int 64] = some (rngT 0 64) := dRng1_nat (n := 64) (by omega)
@[simp] theorem powT_18 : powT (.int 10) (.int 18) = some (.int 1000000000000000000) := rfl
@[simp] theorem modT_1000 {a : Int} : modT (.int a) (.int 1000) = some (.int (a % 1000)) := by first | rw [modT_int, if_pos (by omega)] | rw [fdivT_int, if_pos (by omega)]
@[simp] theorem modT_2147483647 {a : Int} : modT (.int a) (.int 2147483647) = some (.int (a % 2147483647)) := by first | rw [modT_int, if_pos (by omega)] | rw [fdivT_int, if_pos (by omega)]
@[simp] theorem fdivT_997 {a : Int} : fdivT (.int a) (.int 997) = some (.int (a / 997)) := by first | rw [modT_int, if_pos (by omega)] | rw [fdivT_int, if_pos (by omega)]
@[simp] theorem fdivT_1000 {a : Int} : fdivT (.int a) (.int 1000) = some (.int (a / 1000)) := by first | rw [modT_int, if_pos (by omega)] | rw [fdivT_int, if_pos (by omega)]
end
end MP

namespace MP
open PySem L2

/-! ### values: ints, texts, lists, records, pairs of a name and a value -/
def Shp : Kd → List T → Prop
  | .lst, ts => ts.length < 60
  | .tup, ts => ∃ x t, ts = [.str x, t]
  | .dct ks, ts => ∃ ns : List Str, ks = ns.map Sum.inr ∧ ns.Nodup ∧ ns.length = ts.length ∧ ns.length < 60 ∧ ∀ x ∈ ns, x.length < 1000
  | _, _ => False
mutual
def VAL : T → Prop
  | .int _ => True
  | .str x => x.length < 1000
  | .nd m k ts => m = false ∧ Shp k ts ∧ VALs ts
  | .non => False
  | .bl _ => False
  | .fn _ => False
def VALs : List T → Prop
  | [] => True
  | t :: ts => VAL t ∧ VALs ts
end
mutual
def dep : T → Nat
  | .nd _ _ ts => deps ts + 1
  | _ => 0
def deps : List T → Nat
  | [] => 0
  | t :: ts => max (dep t) (deps ts)
end
mutual
def size : T → Int
  | .str x => 1 + x.length
  | .nd _ .tup ts => 1 + sizes1 ts
  | .nd _ _ ts => 1 + sizes ts
  | _ => 1
def sizes : List T → Int
  | [] => 0
  | t :: ts => size t + sizes ts
def sizes1 : List T → Int
  | [] => 0
  | _ :: ts => sizes ts
end
def rank : T → Int
  | .int _ => 0
  | .bl _ => 0
  | .str _ => 1
  | .nd _ .lst _ => 2
  | .nd _ (.dct _) _ => 3
  | _ => 4
def namesK (ks : List Key) : List Str := ks.filterMap fun k => match k with
  | .inr x => some x
  | _ => none
def lkS (ks : List Key) (ts : List T) (x : Str) : T := (lkT ks ts (Sum.inr x)).getD .non
/-- the rows that are compared: a name and a value each -/
def rowsOf : T → List (Str × T)
  | .nd _ .lst ts => ts.map fun t => ("", t)
  | .nd _ (.dct ks) ts => (sortS (namesK ks)).map fun x => (x, lkS ks ts x)
  | .nd _ .tup [.str x, t] => [(x, t)]
  | _ => []
def parts (t : T) : List T := (rowsOf t).map (·.2)

theorem VALs_mem : ∀ {ts : List T}, VALs ts ↔ ∀ t ∈ ts, VAL t
  | [] => by simp [VALs]
  | t :: ts => by rw [VALs, VALs_mem (ts := ts)]; simp
theorem deps_mem : ∀ {ts : List T} {t : T}, t ∈ ts → dep t ≤ deps ts
  | u :: ts, t, h => by
    rw [deps]
    rcases List.mem_cons.mp h with rfl | h
    · omega
    · have := deps_mem h; omega
mutual
theorem VAL.strip : ∀ {t : T}, VAL t → strip t = t
  | .nd m k ts, h => by
    rw [VAL] at h
    rw [MP.strip, VALs.strip h.2.2, h.1]
  | .int _, _ => rfl
  | .str _, _ => rfl
  | .non, _ => rfl
  | .bl _, _ => rfl
  | .fn _, _ => rfl
theorem VALs.strip : ∀ {ts : List T}, VALs ts → strips ts = ts
  | [], _ => rfl
  | t :: ts, h => by
    rw [VALs] at h
    rw [strips, VAL.strip h.1, VALs.strip h.2]
end
theorem VAL.mk {t : T} (h : VAL t) : t.mk = false := by
  cases t with
  | nd m k ts => rw [VAL] at h; exact h.1
  | _ => rfl
/-- the five kinds -/
theorem VAL.cases {t : T} (h : VAL t) : (∃ i, t = .int i) ∨ (∃ x : Str, t = .str x ∧ x.length < 1000) ∨ (∃ ts, t = .lst ts ∧ ts.length < 60 ∧ VALs ts) ∨
    (∃ (ns : List Str) (ts : List T), t = .dct (ns.map Sum.inr) ts ∧ ns.Nodup ∧ ns.length = ts.length ∧ ns.length < 60 ∧ VALs ts) ∨ ∃ x u, t = .tup [.str x, u] ∧ x.length < 1000 ∧ VAL u := by
  cases t with
  | int i => exact .inl ⟨i, rfl⟩
  | str x => exact .inr (.inl ⟨x, rfl, by rw [VAL] at h; exact h⟩)
  | nd m k ts =>
    rw [VAL] at h
    obtain ⟨rfl, h1, h2⟩ := h
    cases k with
    | lst => exact .inr (.inr (.inl ⟨ts, rfl, h1, h2⟩))
    | tup =>
      obtain ⟨x, u, rfl⟩ := h1
      simp only [VALs, VAL] at h2
      exact .inr (.inr (.inr (.inr ⟨x, u, rfl, h2.1, h2.2.1⟩)))
    | dct ks =>
      obtain ⟨ns, rfl, h3, h4, h5, _⟩ := h1
      exact .inr (.inr (.inr (.inl ⟨ns, ts, rfl, h3, h4, h5, h2⟩)))
    | scr => exact h1.elim
    | dtt => exact h1.elim
    | obj => exact h1.elim
  | _ => exact (show False by rw [VAL] at h; exact h).elim
theorem VAL_int {i : Int} : VAL (.int i) := by rw [VAL]; trivial
theorem VAL_str {x : Str} (h : x.length < 1000) : VAL (.str x) := by rw [VAL]; exact h
theorem VAL_lst {ts : List T} (h : ts.length < 60) (h2 : VALs ts) : VAL (.lst ts) := by rw [VAL]; exact ⟨rfl, h, h2⟩
theorem VAL_tup {x : Str} {t : T} (h : x.length < 1000) (h2 : VAL t) : VAL (.tup [.str x, t]) := by
  rw [VAL]
  refine ⟨rfl, ⟨x, t, rfl⟩, ?_⟩
  simp only [VALs, VAL]
  exact ⟨h, h2, trivial⟩
theorem VAL_dct {ns : List Str} {ts : List T} (h1 : ns.Nodup) (h2 : ns.length = ts.length) (h3 : ns.length < 60) (h4 : VALs ts) (h5 : ∀ x ∈ ns, x.length < 1000) : VAL (.dct (ns.map Sum.inr) ts) := by
  rw [VAL]; exact ⟨rfl, ⟨ns, rfl, h1, h2, h3, h5⟩, h4⟩
theorem namesK_inr : ∀ ns : List Str, namesK (ns.map Sum.inr) = ns
  | [] => rfl
  | n :: ns => by
    have := namesK_inr ns
    simp only [namesK] at this ⊢
    simp [this]
theorem VAL.short {ns : List Str} {ts : List T} (h : VAL (.dct (ns.map Sum.inr) ts)) : ∀ x ∈ ns, x.length < 1000 := by
  rw [VAL] at h
  obtain ⟨_, ⟨ms, e, _, _, _, h5⟩, _⟩ := h
  have e' : ns = ms := by
    have := congrArg namesK e
    rwa [namesK_inr, namesK_inr] at this
  subst e'
  exact h5
theorem keyStrs_inr : ∀ ns : List Str, keyStrs (ns.map Sum.inr) = some ns
  | [] => rfl
  | n :: ns => by simp [keyStrs, keyStrs_inr ns]
theorem lkS_cons {k : Str} {ks : List Str} {t : T} {ts : List T} {x : Str} : lkS ((k :: ks).map Sum.inr) (t :: ts) x = if k = x then t else lkS (ks.map Sum.inr) ts x := by
  by_cases h : k = x
  · simp [lkS, lkT, h]
  · simp [lkS, lkT, h]
theorem lkT_inr : ∀ {ns : List Str} {ts : List T} {x : Str}, ns.length = ts.length → x ∈ ns → lkT (ns.map Sum.inr) ts (Sum.inr x : Key) = some (lkS (ns.map Sum.inr) ts x) ∧ lkS (ns.map Sum.inr) ts x ∈ ts
  | [], _, _, _, h => by cases h
  | n :: ns, [], _, h, _ => by simp at h
  | n :: ns, t :: ts, x, hl, h => by
    rw [lkS_cons]
    by_cases e : n = x
    · simp [lkT, e]
    · rw [if_neg e]
      have hx : x ∈ ns := by
        rcases List.mem_cons.mp h with q | q
        · exact absurd q.symm e
        · exact q
      have q := lkT_inr (ns := ns) (ts := ts) (by simpa using hl) hx
      refine ⟨?_, List.mem_cons_of_mem _ q.2⟩
      rw [List.map_cons, lkT]
      rw [if_neg (by intro z; cases z; exact e rfl)]
      exact q.1
theorem map_lkS : ∀ {ns : List Str} {ts : List T}, ns.Nodup → ns.length = ts.length → ns.map (lkS (ns.map Sum.inr) ts) = ts
  | [], [], _, _ => rfl
  | [], _ :: _, _, h => by simp at h
  | _ :: _, [], _, h => by simp at h
  | n :: ns, t :: ts, nd, hl => by
    rw [List.nodup_cons] at nd
    rw [List.map_cons, lkS_cons, if_pos rfl]
    congr 1
    rw [← map_lkS nd.2 (by simpa using hl : ns.length = ts.length)]
    apply List.map_congr_left
    intro x hx
    rw [lkS_cons, if_neg (by intro e; subst e; exact nd.1 hx), map_lkS nd.2 (by simpa using hl)]
theorem sizes_sum : ∀ ts : List T, sizes ts = (ts.map size).sum
  | [] => rfl
  | t :: ts => by rw [sizes, sizes_sum ts]; simp
theorem perm_sum {a b : List Int} (h : a.Perm b) : a.sum = b.sum := by
  induction h with
  | nil => rfl
  | cons x _ ih => simp [ih]
  | swap x y l => simp; omega
  | trans _ _ h1 h2 => exact h1.trans h2
theorem sorted_rows {ns : List Str} {ts : List T} {f : T → Int} (nd : ns.Nodup) (hl : ns.length = ts.length) : (((sortS ns).map (lkS (ns.map Sum.inr) ts)).map f).sum = (ts.map f).sum := by
  have h := ((sortS_perm ns).map (lkS (ns.map Sum.inr) ts)).map f
  rw [map_lkS nd hl] at h
  exact perm_sum h
theorem parts_dct {ns : List Str} {ts : List T} : parts (.dct (ns.map Sum.inr) ts) = (sortS ns).map (lkS (ns.map Sum.inr) ts) := by
  simp [parts, rowsOf, namesK_inr]
theorem parts_lst {ts : List T} : parts (.lst ts) = ts := by
  simp [parts, rowsOf]
  exact List.map_id ts
theorem parts_mem {t u : T} (h : VAL t) (hu : u ∈ parts t) : VAL u ∧ dep u < dep t := by
  rcases h.cases with ⟨i, rfl⟩ | ⟨x, rfl, _⟩ | ⟨ts, rfl, _, hv⟩ | ⟨ns, ts, rfl, nd, hl, _, hv⟩ | ⟨x, v, rfl, _, hv⟩
  · simp [parts, rowsOf] at hu
  · simp [parts, rowsOf] at hu
  · rw [parts_lst] at hu
    exact ⟨VALs_mem.mp hv u hu, by rw [dep]; have := deps_mem hu; omega⟩
  · rw [parts_dct] at hu
    obtain ⟨x, hx, rfl⟩ := List.mem_map.mp hu
    have q := (lkT_inr hl ((sortS_perm ns).mem_iff.mp hx)).2
    exact ⟨VALs_mem.mp hv _ q, by rw [dep]; have := deps_mem q; omega⟩
  · simp [parts, rowsOf] at hu
    subst hu
    exact ⟨hv, by rw [dep, deps, deps]; omega⟩
theorem size_parts {t : T} (h : VAL t) (h1 : 1 < rank t) : size t = 1 + ((parts t).map size).sum := by
  rcases h.cases with ⟨i, rfl⟩ | ⟨x, rfl, _⟩ | ⟨ts, rfl, _, hv⟩ | ⟨ns, ts, rfl, nd, hl, _, hv⟩ | ⟨x, v, rfl, _, hv⟩
  · simp [rank] at h1
  · simp [rank] at h1
  · rw [parts_lst, size, sizes_sum]
    simp
  · rw [parts_dct, sorted_rows nd hl, size, sizes_sum]
    simp
  · simp [parts, rowsOf, size, sizes1, sizes]
theorem parts_length {t : T} (h : VAL t) : (parts t).length < 60 := by
  rcases h.cases with ⟨i, rfl⟩ | ⟨x, rfl, _⟩ | ⟨ts, rfl, hl, hv⟩ | ⟨ns, ts, rfl, nd, hl, h60, hv⟩ | ⟨x, v, rfl, _, hv⟩
  · simp [parts, rowsOf]
  · simp [parts, rowsOf]
  · rw [parts_lst]; exact hl
  · rw [parts_dct, List.length_map, (sortS_perm ns).length_eq]; exact h60
  · simp [parts, rowsOf]

/-! ### list comprehensions whose element writes nothing -/
theorem set_none_set {ρ : Rho} {i : Nat} {t : T} (h : ρ[i]? = some none) : (ρ.set i (some t)).set i none = ρ := by
  rw [List.set_set]
  apply List.ext_getElem? 
  intro j
  by_cases e : i = j
  · subst e
    have hi : i < ρ.length := by
      rcases Nat.lt_or_ge i ρ.length with z | z
      · exact z
      · rw [List.getElem?_eq_none z] at h; cases h
    rw [List.getElem?_set_self hi, h]
  · rw [List.getElem?_set_ne e]
theorem lc_map {i : Nat} {el : DV} {g : T → T} {ρ : Rho} (hb : ρ[i]? = some none) : ∀ {ts : List T}, (∀ t ∈ ts, el (ρ.set i (some t)) = some (.ok (g t) (ρ.set i (some t)))) → lcL (sNm i) [i] dYes el ts ρ = some (ts.map g, ρ)
  | [], _ => rfl
  | t :: ts, h => by
    have hi : i < ρ.length := by
      rcases Nat.lt_or_ge i ρ.length with z | z
      · exact z
      · rw [List.getElem?_eq_none z] at hb; cases hb
    have ih := lc_map hb fun u hu => h u (List.mem_cons_of_mem _ hu)
    have w : wipeR (ρ.set i (some t)) [i] = ρ := by
      show wipeR ((ρ.set i (some t)).set i none) [] = ρ
      rw [set_none_set hb]; rfl
    rw [lcL]
    simp only [sNm, hi, if_true, e_dYes]
    rw [h t (by simp)]
    simp only [w, ih, List.map_cons]
end MP

namespace MP
open PySem L2

theorem sz60 {n : Nat} (h : n < 60) : n ≤ sizeLine := Nat.le_trans (Nat.le_of_lt h) (by decide)
theorem strips_ints {α : Type} {f : α → Int} : ∀ l : List α, strips (l.map fun u => T.int (f u)) = l.map fun u => T.int (f u)
  | [] => rfl
  | a :: l => by rw [List.map_cons, strips, strips_ints l]; rfl
theorem strips_strs : ∀ l : List Str, strips (l.map T.str) = l.map T.str
  | [] => rfl
  | a :: l => by rw [List.map_cons, strips, strips_strs l]; rfl
theorem intsOf_map {α : Type} {f : α → Int} : ∀ l : List α, intsOf (l.map fun u => T.int (f u)) = some (l.map f)
  | [] => rfl
  | a :: l => by simp [intsOf, intsOf_map l]

/-! ### the order of values -/
def sgI (a b : Int) : Int := if a < b then -1 else if b < a then 1 else 0
def sgS (a b : Str) : Int := if ltS a b = true then -1 else if ltS b a = true then 1 else 0
theorem sgI_self (a : Int) : sgI a a = 0 := by simp [sgI]
theorem sgS_self (a : Str) : sgS a a = 0 := by simp [sgS, ltS_irr]
theorem sgI_zero {a b : Int} (h : sgI a b = 0) : a = b := by
  unfold sgI at h
  split at h
  · omega
  · split at h <;> omega
theorem sgS_zero {a b : Str} (h : sgS a b = 0) : a = b := by
  unfold sgS at h
  split at h
  · omega
  · split at h
    · omega
    · rename_i h1 h2
      exact ltS_total (by simpa using h1) (by simpa using h2)
/-- the first row at which two differ -/
def fdR (c : T → T → Int) : List (Str × T) → List (Str × T) → Option Int
  | (x, a) :: r, (y, b) :: r' => if sgS x y = 0 then (if c a b = 0 then fdR c r r' else some (c a b)) else some (sgS x y)
  | _, _ => none
def cmpR (c : T → T → Int) (r r' : List (Str × T)) : Int := (fdR c r r').getD (sgI r.length r'.length)
def absI (i : Int) : Int := if i < 0 then -i else i
def numI (i : Int) : Int := 2 * absI i + (if i < 0 then 1 else 0)
def cmpK (c : T → T → Int) (a b : T) : Int := match a, b with
  | .int i, .int j => sgI (numI i) (numI j)
  | .str x, .str y => sgS x y
  | _, _ => cmpR c (rowsOf a) (rowsOf b)
def cmpN : Nat → T → T → Int
  | 0, _, _ => 0
  | n + 1, a, b => if sgI (size a) (size b) = 0 then (if sgI (rank a) (rank b) = 0 then cmpK (cmpN n) a b else sgI (rank a) (rank b)) else sgI (size a) (size b)
theorem fdR_self {c : T → T → Int} : ∀ {r : List (Str × T)}, (∀ p ∈ r, c p.2 p.2 = 0) → fdR c r r = none
  | [], _ => rfl
  | (x, a) :: r, h => by
    rw [fdR, if_pos (sgS_self x), if_pos (h (x, a) (by simp)), fdR_self fun p hp => h p (List.mem_cons_of_mem _ hp)]
theorem cmpN_self : ∀ (n : Nat) (a : T), cmpN n a a = 0
  | 0, _ => rfl
  | n + 1, a => by
    rw [cmpN, if_pos (sgI_self _), if_pos (sgI_self _)]
    have h : cmpR (cmpN n) (rowsOf a) (rowsOf a) = 0 := by
      rw [cmpR, fdR_self fun p _ => cmpN_self n p.2]
      exact sgI_self _
    cases a with
    | int i => exact sgI_self _
    | str x => exact sgS_self _
    | _ => exact h
/-- the pair (|i|, i < 0) in order, as one number -/
theorem num_lt {i j : Int} : (absI i < absI j ∨ absI i = absI j ∧ ¬ i < 0 ∧ j < 0) ↔ numI i < numI j := by
  unfold numI absI
  by_cases h1 : i < 0 <;> by_cases h2 : j < 0 <;> simp only [h1, h2, if_true, if_false, not_true_eq_false, not_false_eq_true, and_true, and_false, or_false, true_and] <;> omega
def rowT (p : Str × T) : T := .tup [.str p.1, p.2]
theorem pairs_cons {t u : T} {ts us : List T} : pairsT (t :: ts) (u :: us) = .tup [t, u] :: pairsT ts us := rfl
theorem rng_zero {lo : Int} : rngT lo 0 = [] := rfl
theorem rng_succ {lo : Int} {n : Nat} : rngT lo (n + 1) = .int lo :: rngT (lo + 1) n := by
  unfold rngT
  rw [List.range_succ_eq_map, List.map_cons, List.map_map]
  congr 1
  · simp
  · apply List.map_congr_left
    intro k _
    simp
    omega
theorem at_get {α : Type} {l : List α} {i : Nat} {x : α} (h : l[i]? = some x) : atI l (i : Int) = some x := atI_nat h
theorem rows_dep {a : T} {n : Nat} (h : VAL a) (hd : dep a < n + 1) : ∀ p ∈ rowsOf a, VAL p.2 ∧ dep p.2 < n := fun p hp => by
  have q := parts_mem h (List.mem_map_of_mem (f := (·.2)) hp)
  exact ⟨q.1, by omega⟩
theorem sorted_dct {ns : List Str} {m : Bool} {ts : List T} (h : ns.length < 60) : sortedT (T.nd m (.dct (ns.map Sum.inr)) ts) = some (.nd true .lst ((sortS ns).map T.str)) := by
  show (match keyStrs (ns.map Sum.inr) with
    | some ns => if ns.length < 64 then some (T.nd true .lst ((sortS ns).map T.str)) else none
    | none => none) = _
  rw [keyStrs_inr]
  simp
  omega
theorem mem_sort {ns : List Str} {x : Str} : x ∈ sortS ns ↔ x ∈ ns := (sortS_perm ns).mem_iff
theorem getT_dct {m : Bool} {ns : List Str} {ts : List T} {x : Str} (hl : ns.length = ts.length) (hx : x ∈ ns) : getT (.nd m (.dct (ns.map Sum.inr)) ts) (.str x) = some (lkS (ns.map Sum.inr) ts x) := by
  show (keyT (.str x)).bind (fun k => lkT (ns.map Sum.inr) ts k) = _
  exact (lkT_inr hl hx).1
theorem plain_vals {ts : List T} (h : VALs ts) : plains ts = true := by
  unfold plains
  rw [List.all_eq_true]
  intro t ht
  rw [(VALs_mem.mp h t ht).mk]; rfl
end MP

namespace MP
open PySem L2

/-! ### values: == and the order -/
mutual
theorem VAL.ok : ∀ {n : Nat} {t : T}, VAL t → dep t ≤ n → okT n t = true
  | n, .int _, _, _ => by cases n <;> rfl
  | n, .str _, _, _ => by cases n <;> rfl
  | n, .non, h, _ => by rw [VAL] at h; exact h.elim
  | n, .bl _, h, _ => by rw [VAL] at h; exact h.elim
  | n, .fn _, h, _ => by rw [VAL] at h; exact h.elim
  | n, .nd m k ts, h, hd => by
    rw [VAL] at h
    obtain ⟨rfl, hs, hv⟩ := h
    rw [dep] at hd
    cases n with
    | zero => omega
    | succ n =>
      rw [okT, Bool.and_eq_true]
      refine ⟨?_, VALs.ok hv (by omega)⟩
      cases k with
      | lst => rfl
      | tup => rfl
      | dct ks =>
        obtain ⟨ns, rfl, nd, hl, _⟩ := hs
        simp only [okK, Bool.and_eq_true, decide_eq_true_eq, List.length_map, beq_iff_eq]
        exact ⟨nodup_inr nd, hl⟩
      | scr => exact hs.elim
      | dtt _ => exact hs.elim
      | obj _ _ => exact hs.elim
theorem VALs.ok : ∀ {n : Nat} {ts : List T}, VALs ts → deps ts ≤ n → okTs n ts = true
  | n, [], _, _ => by rw [okTs]
  | n, t :: ts, h, hd => by
    rw [VALs] at h
    rw [deps] at hd
    rw [okTs, VAL.ok h.1 (by omega), VALs.ok h.2 (by omega)]; rfl
end
theorem VAL.non {t : T} (h : VAL t) : isNonT t = false := by
  cases t <;> first | rfl | (rw [VAL] at h; exact h.elim)
theorem sgI_neg (a b : Int) : sgI b a = - sgI a b := by
  unfold sgI
  split <;> split <;> first | omega | (split <;> omega) | rfl
theorem sgS_neg (a b : Str) : sgS b a = - sgS a b := by
  unfold sgS
  by_cases h1 : ltS a b = true
  · have h2 : ¬ ltS b a = true := fun h2 => by
      have := ltS_trans h1 h2
      rw [ltS_irr] at this; cases this
    rw [if_pos h1, if_neg h2, if_pos h1]; rfl
  · rw [if_neg h1, if_neg h1]
    split <;> rfl
theorem fdR_neg {c : T → T → Int} (hc : ∀ t u, c u t = - c t u) : ∀ r r' : List (Str × T), fdR c r' r = (fdR c r r').map fun i => -i
  | [], [] => rfl
  | [], (_, _) :: _ => rfl
  | (_, _) :: _, [] => rfl
  | (x, a) :: r, (y, b) :: r' => by
    rw [fdR, fdR, sgS_neg x y, hc a b, fdR_neg hc r r']
    by_cases h1 : sgS x y = 0
    · rw [if_pos h1, if_pos (by omega)]
      by_cases h2 : c a b = 0
      · rw [if_pos h2, if_pos (by omega)]
      · rw [if_neg h2, if_neg (by omega)]; rfl
    · rw [if_neg h1, if_neg (by omega)]; rfl
theorem cmpR_neg {c : T → T → Int} (hc : ∀ t u, c u t = - c t u) (r r' : List (Str × T)) : cmpR c r' r = - cmpR c r r' := by
  unfold cmpR
  rw [fdR_neg hc r r']
  cases fdR c r r' with
  | none => exact sgI_neg _ _
  | some f => rfl
theorem cmpN_neg : ∀ (n : Nat) (a b : T), cmpN n b a = - cmpN n a b
  | 0, _, _ => rfl
  | n + 1, a, b => by
    have hR : cmpR (cmpN n) (rowsOf b) (rowsOf a) = - cmpR (cmpN n) (rowsOf a) (rowsOf b) := cmpR_neg (cmpN_neg n) _ _
    have hK : cmpK (cmpN n) b a = - cmpK (cmpN n) a b := by
      cases a <;> cases b <;> first | exact sgI_neg _ _ | exact sgS_neg _ _ | exact hR
    rw [cmpN, cmpN, sgI_neg (size a) (size b), sgI_neg (rank a) (rank b), hK]
    by_cases h1 : sgI (size a) (size b) = 0
    · rw [if_pos h1, if_pos (by omega)]
      by_cases h2 : sgI (rank a) (rank b) = 0
      · rw [if_pos h2, if_pos (by omega)]
      · rw [if_neg h2, if_neg (by omega)]
    · rw [if_neg h1, if_neg (by omega)]
theorem fdR_ne {c : T → T → Int} {f : Int} : ∀ {r r' : List (Str × T)}, fdR c r r' = some f → f ≠ 0
  | [], _, h => by simp [fdR] at h
  | _ :: _, [], h => by simp [fdR] at h
  | (x, a) :: r, (y, b) :: r', h => by
    rw [fdR] at h
    split at h
    · split at h
      · exact fdR_ne h
      · cases h; assumption
    · cases h; assumption
theorem fdR_none {c : T → T → Int} : ∀ {r r' : List (Str × T)}, r.length = r'.length → (fdR c r r' = none ↔ ∀ (j : Nat) (p q : Str × T), r[j]? = some p → r'[j]? = some q → p.1 = q.1 ∧ c p.2 q.2 = 0)
  | [], [], _ => by simp [fdR]
  | [], _ :: _, h => by simp at h
  | _ :: _, [], h => by simp at h
  | (x, a) :: r, (y, b) :: r', h => by
    have ih := fdR_none (c := c) (r := r) (r' := r') (by simpa using h)
    rw [fdR]
    constructor
    · intro h' j p q hp hq
      split at h'
      · rename_i e1
        split at h'
        · rename_i e2
          cases j with
          | zero => simp at hp hq; subst hp hq; exact ⟨sgS_zero e1, e2⟩
          | succ j => exact ih.mp h' j p q (by simpa using hp) (by simpa using hq)
        · cases h'
      · cases h'
    · intro h'
      obtain ⟨e1, e2⟩ := h' 0 (x, a) (y, b) rfl rfl
      simp only at e1 e2
      subst e1
      rw [if_pos (sgS_self x), if_pos e2, ih]
      exact fun j p q hp hq => h' (j + 1) p q (by simpa using hp) (by simpa using hq)
theorem cmpR_zero {c : T → T → Int} {r r' : List (Str × T)} : cmpR c r r' = 0 ↔ r.length = r'.length ∧ ∀ (j : Nat) (p q : Str × T), r[j]? = some p → r'[j]? = some q → p.1 = q.1 ∧ c p.2 q.2 = 0 := by
  unfold cmpR
  constructor
  · intro h
    cases e : fdR c r r' with
    | some f => rw [e] at h; exact absurd h (fdR_ne e)
    | none =>
      rw [e] at h
      have hl : r.length = r'.length := by have := sgI_zero h; omega
      exact ⟨hl, (fdR_none hl).mp e⟩
  · rintro ⟨hl, h⟩
    rw [(fdR_none hl).mpr h, hl]
    exact sgI_self _
theorem sum_parts {n : Nat} {R R' : List (Str × T)} (hl : R.length = R'.length) (h : ∀ (j : Nat) (p q : Str × T), R[j]? = some p → R'[j]? = some q → size p.2 = size q.2) : ((R.map (·.2)).map size).sum = ((R'.map (·.2)).map size).sum := by
  congr 1
  apply List.ext_getElem?
  intro j
  simp only [List.getElem?_map]
  cases e : R[j]? with
  | none =>
    have : R'[j]? = none := by rw [List.getElem?_eq_none_iff] at e ⊢; omega
    rw [this]
  | some p =>
    have hj := (List.getElem?_eq_some_iff.mp e).1
    rw [List.getElem?_eq_getElem (by omega : j < R'.length)]
    exact congrArg some (h j p _ e (List.getElem?_eq_getElem (by omega : j < R'.length)))
theorem cmpN_size {n : Nat} {a b : T} (h : cmpN (n + 1) a b = 0) : size a = size b := by
  rw [cmpN] at h
  split at h
  · rename_i e; exact sgI_zero e
  · exact absurd h (by assumption)
theorem size_rows {a : T} (h : VAL a) (h1 : 1 < rank a) : size a = 1 + (((rowsOf a).map (·.2)).map size).sum := size_parts h h1
/-- equal rows: equal values -/
theorem cmp_rows {n : Nat} {a b : T} (va : VAL a) (vb : VAL b) (ra : 1 < rank a) (e : rank a = rank b) (da : dep a < n + 1) (db : dep b < n + 1) (hk : ∀ c, cmpK c a b = cmpR c (rowsOf a) (rowsOf b)) :
    cmpN (n + 1) a b = 0 ↔ (rowsOf a).length = (rowsOf b).length ∧ ∀ (j : Nat) (p q : Str × T), (rowsOf a)[j]? = some p → (rowsOf b)[j]? = some q → p.1 = q.1 ∧ cmpN n p.2 q.2 = 0 := by
  rw [cmpN, e, sgI_self, if_pos rfl, hk]
  constructor
  · intro h
    split at h
    · exact cmpR_zero.mp h
    · exact absurd h (by assumption)
  · rintro ⟨hl, h⟩
    have hs : size a = size b := by
      rw [size_rows va ra, size_rows vb (by omega), sum_parts (n := n) hl]
      intro j p q hp hq
      have dp := (rows_dep va da p (List.mem_of_getElem? hp)).2
      obtain ⟨_, z⟩ := h j p q hp hq
      cases n with
      | zero => omega
      | succ n => exact cmpN_size z
    rw [hs, sgI_self, if_pos rfl]
    exact cmpR_zero.mpr ⟨hl, h⟩
theorem rank_of_kind {a b : T} (va : VAL a) (vb : VAL b) (h : eqB a b = true) : rank a = rank b := by
  rcases va.cases with ⟨i, rfl⟩ | ⟨x, rfl, _⟩ | ⟨ts, rfl, _, hv⟩ | ⟨ns, ts, rfl, nd, hl, _, hv⟩ | ⟨x, v, rfl, _, hv⟩ <;>
    rcases vb.cases with ⟨j, rfl⟩ | ⟨y, rfl, _⟩ | ⟨us, rfl, _, hv'⟩ | ⟨ms, us, rfl, nd', hl', _, hv'⟩ | ⟨y, w, rfl, _, hv'⟩ <;>
    first | rfl | simp [eqB] at h
theorem numI_inj {i j : Int} (h : numI i = numI j) : i = j := by
  unfold numI absI at h
  split at h <;> split at h <;> omega
theorem sort_eq {ns ms : List Str} (h : ns.Perm ms) : sortS ns = sortS ms := by
  apply List.Perm.eq_of_pairwise (le := fun a b => ltS b a = false) ?_ (sortS_pw ns) (sortS_pw ms) (((sortS_perm ns).trans h).trans (sortS_perm ms).symm)
  intro a b _ _ h1 h2
  exact ltS_total h2 h1
theorem lkT_no : ∀ {ns : List Str} {ts : List T} {x : Str}, ns.length = ts.length → ¬ x ∈ ns → lkT (ns.map Sum.inr) ts (Sum.inr x : Key) = none
  | [], ts, _, _, _ => by cases ts <;> rfl
  | n :: ns, [], _, h, _ => by simp at h
  | n :: ns, t :: ts, x, hl, h => by
    rw [List.map_cons, lkT, if_neg (fun e => h (by cases e; simp))]
    exact lkT_no (by simpa using hl) fun z => h (List.mem_cons_of_mem _ z)
theorem perm_of_sub : ∀ {ns ms : List Str}, ns.Nodup → ms.Nodup → ns.length = ms.length → (∀ x ∈ ns, x ∈ ms) → ns.Perm ms
  | [], ms, _, _, hl, _ => by
    have : ms = [] := List.eq_nil_of_length_eq_zero hl.symm
    rw [this]
  | n :: ns, ms, nd, nd', hl, h => by
    rw [List.nodup_cons] at nd
    have hm : n ∈ ms := h n (by simp)
    have p := List.perm_cons_erase hm
    refine List.Perm.trans (List.Perm.cons n (perm_of_sub nd.2 (nd'.erase n) ?_ fun x hx => ?_)) p.symm
    · have := p.length_eq
      simp at this hl
      omega
    · have hx' := h x (List.mem_cons_of_mem _ hx)
      exact (List.mem_erase_of_ne (fun e => nd.1 (by rw [← e]; exact hx))).mpr hx'
theorem cmp_zero : ∀ (n : Nat) (a b : T), VAL a → VAL b → dep a < n → dep b < n → (cmpN n a b = 0 ↔ eqB a b = true)
  | 0, a, b, _, _, da, _ => absurd da (by omega)
  | n + 1, a, b, va, vb, da, db => by
    by_cases er : rank a = rank b
    · have ra := rows_dep va da
      have rb := rows_dep vb db
      rcases va.cases with ⟨i, rfl⟩ | ⟨x, rfl, hx⟩ | ⟨ts, rfl, h60, hv⟩ | ⟨ns, ts, rfl, nd, hl, h60, hv⟩ | ⟨x, v, rfl, hx, hv⟩
      · rcases vb.cases with ⟨j, rfl⟩ | ⟨y, rfl, hy⟩ | ⟨us, rfl, h60', hv'⟩ | ⟨ms, us, rfl, nd', hl', h60', hv'⟩ | ⟨y, w, rfl, hy, hv'⟩ <;> simp [rank] at er
        rw [cmpN]
        simp only [size, sgI_self, if_true, cmpK, rank, eqB, beq_iff_eq]
        exact ⟨fun h => numI_inj (sgI_zero h), fun h => by rw [h]; exact sgI_self _⟩
      · rcases vb.cases with ⟨j, rfl⟩ | ⟨y, rfl, hy⟩ | ⟨us, rfl, h60', hv'⟩ | ⟨ms, us, rfl, nd', hl', h60', hv'⟩ | ⟨y, w, rfl, hy, hv'⟩ <;> simp [rank] at er
        rw [cmpN]
        simp only [rank, sgI_self, if_true, cmpK, eqB, beq_iff_eq]
        constructor
        · intro h
          split at h
          · exact sgS_zero h
          · exact absurd h (by assumption)
        · intro h
          rw [h, sgI_self, if_pos rfl]
          exact sgS_self _
      · rcases vb.cases with ⟨j, rfl⟩ | ⟨y, rfl, hy⟩ | ⟨us, rfl, h60', hv'⟩ | ⟨ms, us, rfl, nd', hl', h60', hv'⟩ | ⟨y, w, rfl, hy, hv'⟩ <;> simp [rank] at er
        rw [cmp_rows va vb (by simp [rank]) (by simp [rank]) da db fun c => rfl]
        show _ ↔ eqBs ts us = true
        rw [eqBs_iff]
        simp only [rowsOf, List.length_map, List.getElem?_map]
        refine and_congr Iff.rfl ⟨fun h j t u ht hu => ?_, fun h j p q hp hq => ?_⟩
        · have wa := ra ("", t) (by simp only [rowsOf]; exact List.mem_map_of_mem (List.mem_of_getElem? ht))
          have wb := rb ("", u) (by simp only [rowsOf]; exact List.mem_map_of_mem (List.mem_of_getElem? hu))
          exact (cmp_zero n t u wa.1 wb.1 wa.2 wb.2).mp (h j ("", t) ("", u) (by rw [ht]; rfl) (by rw [hu]; rfl)).2
        · cases ht : ts[j]? with
          | none => rw [ht] at hp; cases hp
          | some t =>
            cases hu : us[j]? with
            | none => rw [hu] at hq; cases hq
            | some u =>
              rw [ht] at hp; rw [hu] at hq
              cases hp; cases hq
              have wa := ra ("", t) (by simp only [rowsOf]; exact List.mem_map_of_mem (List.mem_of_getElem? ht))
              have wb := rb ("", u) (by simp only [rowsOf]; exact List.mem_map_of_mem (List.mem_of_getElem? hu))
              exact ⟨rfl, (cmp_zero n t u wa.1 wb.1 wa.2 wb.2).mpr (h j t u ht hu)⟩
      · rcases vb.cases with ⟨j, rfl⟩ | ⟨y, rfl, hy⟩ | ⟨us, rfl, h60', hv'⟩ | ⟨ms, us, rfl, nd', hl', h60', hv'⟩ | ⟨y, w, rfl, hy, hv'⟩ <;> simp [rank] at er
        rw [cmp_rows va vb (by simp [rank]) (by simp [rank]) da db fun c => rfl]
        show _ ↔ ((ns.map (Sum.inr : Str → Key)).length == (ms.map (Sum.inr : Str → Key)).length && eqBd (ms.map Sum.inr) us (ns.map Sum.inr) ts) = true
        simp only [Bool.and_eq_true, beq_iff_eq, List.length_map, eqBd_iff]
        have la : (rowsOf (.dct (ns.map Sum.inr) ts)).length = ns.length := by simp [rowsOf, namesK_inr, (sortS_perm ns).length_eq]
        have lb : (rowsOf (.dct (ms.map Sum.inr) us)).length = ms.length := by simp [rowsOf, namesK_inr, (sortS_perm ms).length_eq]
        have ga : ∀ j : Nat, (rowsOf (.dct (ns.map Sum.inr) ts))[j]? = ((sortS ns)[j]?).map fun x => (x, lkS (ns.map Sum.inr) ts x) := fun j => by simp [rowsOf, namesK_inr]
        have gb : ∀ j : Nat, (rowsOf (.dct (ms.map Sum.inr) us))[j]? = ((sortS ms)[j]?).map fun x => (x, lkS (ms.map Sum.inr) us x) := fun j => by simp [rowsOf, namesK_inr]
        rw [la, lb]
        refine and_congr_right fun hlen => ⟨fun h => ?_, fun h => ?_⟩
        · -- equal rows: the same names
          have hn : sortS ns = sortS ms := by
            apply List.ext_getElem?
            intro j
            have h1 := ga j
            have h2 := gb j
            cases ea : (sortS ns)[j]? with
            | none =>
              rw [List.getElem?_eq_none_iff] at ea
              symm
              rw [List.getElem?_eq_none_iff, (sortS_perm ms).length_eq, ← hlen, ← (sortS_perm ns).length_eq]
              exact ea
            | some x =>
              cases eb : (sortS ms)[j]? with
              | none =>
                rw [List.getElem?_eq_none_iff, (sortS_perm ms).length_eq, ← hlen, ← (sortS_perm ns).length_eq] at eb
                rw [List.getElem?_eq_none_iff.mpr eb] at ea; cases ea
              | some y =>
                rw [ea] at h1; rw [eb] at h2
                have := (h j _ _ h1 h2).1
                simp only at this
                rw [this]
          intro j k t hk ht
          rw [List.getElem?_map] at hk
          cases ex : ns[j]? with
          | none => rw [ex] at hk; cases hk
          | some x =>
            rw [ex] at hk; cases hk
            have hx : x ∈ ns := List.mem_of_getElem? ex
            have hx' : x ∈ ms := mem_sort.mp (hn ▸ mem_sort.mpr hx)
            obtain ⟨i, hi⟩ := List.getElem?_of_mem (mem_sort.mpr hx)
            have h1 := ga i
            have h2 := gb i
            rw [hi] at h1
            rw [← hn, hi] at h2
            have z := (h i _ _ h1 h2).2
            have wa := ra _ (List.mem_of_getElem? h1)
            have wb := rb _ (List.mem_of_getElem? h2)
            have et : lkS (ns.map Sum.inr) ts x = t := by
              have q1 := (lkT_inr hl hx).1
              rw [lkT_self (nodup_inr nd) (by rw [List.getElem?_map, ex]; rfl) ht] at q1
              exact (Option.some.inj q1).symm
            refine ⟨lkS (ms.map Sum.inr) us x, (lkT_inr hl' hx').1, ?_⟩
            rw [← et]
            exact (cmp_zero n _ _ wa.1 wb.1 wa.2 wb.2).mp z
        · -- the same names and equal values: equal rows
          have sub : ∀ x ∈ ns, x ∈ ms ∧ eqB (lkS (ns.map Sum.inr) ts x) (lkS (ms.map Sum.inr) us x) = true := fun x hx => by
            obtain ⟨j, hj⟩ := List.getElem?_of_mem hx
            have hjt : j < ts.length := by have := (List.getElem?_eq_some_iff.mp hj).1; omega
            obtain ⟨u, hu, e⟩ := h j (Sum.inr x) ts[j] (by rw [List.getElem?_map, hj]; rfl) (List.getElem?_eq_getElem hjt)
            have q1 := (lkT_inr hl hx).1
            rw [lkT_self (nodup_inr nd) (by rw [List.getElem?_map, hj]; rfl) (List.getElem?_eq_getElem hjt)] at q1
            have hx' : x ∈ ms := by
              rcases Classical.em (x ∈ ms) with z | z
              · exact z
              · rw [lkT_no hl' z] at hu; cases hu
            rw [(lkT_inr hl' hx').1] at hu
            rw [← Option.some.inj q1, Option.some.inj hu]
            exact ⟨hx', e⟩
          have hp : ns.Perm ms := perm_of_sub nd nd' hlen fun x hx => (sub x hx).1
          have hn := sort_eq hp
          intro j p q hpj hqj
          rw [ga] at hpj
          rw [gb, ← hn] at hqj
          cases ex : (sortS ns)[j]? with
          | none => rw [ex] at hpj; cases hpj
          | some x =>
            have h1 := ga j
            have h2 := gb j
            rw [ex] at hpj hqj h1
            rw [← hn, ex] at h2
            cases hpj; cases hqj
            have wa := ra _ (List.mem_of_getElem? h1)
            have wb := rb _ (List.mem_of_getElem? h2)
            have hx : x ∈ ns := mem_sort.mp (List.mem_of_getElem? ex)
            exact ⟨rfl, (cmp_zero n _ _ wa.1 wb.1 wa.2 wb.2).mpr (sub x hx).2⟩
      · rcases vb.cases with ⟨j, rfl⟩ | ⟨y, rfl, hy⟩ | ⟨us, rfl, h60', hv'⟩ | ⟨ms, us, rfl, nd', hl', h60', hv'⟩ | ⟨y, w, rfl, hy, hv'⟩ <;> simp [rank] at er
        rw [cmp_rows va vb (by simp [rank]) (by simp [rank]) da db fun c => rfl]
        have wa := ra (x, v) (by simp [rowsOf])
        have wb := rb (y, w) (by simp [rowsOf])
        have ih := cmp_zero n v w wa.1 wb.1 wa.2 wb.2
        show _ ↔ (x == y && (eqB v w && true)) = true
        simp only [rowsOf, List.length_singleton, true_and, Bool.and_true, Bool.and_eq_true, beq_iff_eq, ← ih]
        constructor
        · intro h
          exact h 0 (x, v) (y, w) rfl rfl
        · intro h j p q hp hq
          cases j with
          | zero => cases hp; cases hq; exact h
          | succ j => simp at hp
    · constructor
      · intro h
        rw [cmpN] at h
        split at h
        · split at h
          · exact absurd (sgI_zero (by assumption)) er
          · exact absurd h (by assumption)
        · exact absurd h (by assumption)
      · exact fun h => absurd (rank_of_kind va vb h) er
mutual
theorem eqB_refl : ∀ {n : Nat} {t : T}, okT n t = true → eqB t t = true
  | n, .int _, _ => by simp [eqB]
  | n, .str _, _ => by simp [eqB]
  | n, .bl _, _ => by simp [eqB]
  | n, .non, _ => rfl
  | n, .fn _, h => by cases n <;> cases h
  | 0, .nd _ _ _, h => by cases h
  | n + 1, .nd m k ts, h => by
    rw [okT, Bool.and_eq_true] at h
    have ih := eqBs_refl h.2
    cases k with
    | lst => exact ih
    | tup => exact ih
    | dct ks =>
      have h1 := h.1
      simp [okK] at h1
      show (ks.length == ks.length && eqBd ks ts ks ts) = true
      rw [beq_self_eq_true, Bool.true_and, eqBd_iff]
      intro j k t hk ht
      exact ⟨t, lkT_self h1.1 hk ht, (eqBs_iff.mp ih).2 j t t ht ht⟩
    | _ => cases h.1
theorem eqBs_refl : ∀ {n : Nat} {ts : List T}, okTs n ts = true → eqBs ts ts = true
  | n, [], _ => rfl
  | n, t :: ts, h => by
    rw [okTs, Bool.and_eq_true] at h
    rw [eqBs, eqB_refl h.1, eqBs_refl h.2]; rfl
end
theorem neT_refl {t : T} (h : okT 60 t = true) : neT t t = some false := by
  unfold neT; rw [h, eqB_refl h]; rfl
theorem eqT_refl {t : T} (h : okT 60 t = true) : eqT t t = some true := by
  unfold eqT; rw [h, eqB_refl h]; rfl
/-! ### places -/
theorem ixN_in {n : Nat} {i : Int} (h0 : 0 ≤ i) (h : i < n) : ixN n i = some i.toNat := by
  unfold ixN; rw [if_pos h0, if_pos h]
theorem atI_in {α : Type} {l : List α} {i : Int} (h0 : 0 ≤ i) (h : i < l.length) : ∃ x, atI l i = some x ∧ l[i.toNat]? = some x ∧ x ∈ l := by
  have hj : i.toNat < l.length := by omega
  refine ⟨l[i.toNat], ?_, List.getElem?_eq_getElem hj, List.getElem_mem hj⟩
  unfold atI
  rw [ixN_in h0 h]
  exact List.getElem?_eq_getElem hj
theorem setT_in {m : Bool} {ts : List T} {i : Int} {v : T} (h0 : 0 ≤ i) (h : i < ts.length) : setT (.nd m .lst ts) (.int i) v = some (.nd m .lst (ts.set i.toNat v)) := by
  show (match ixN ts.length i with
    | some j => some (T.nd m .lst (ts.set j v))
    | none => none) = _
  rw [ixN_in h0 h]
end MP

namespace K10
open PySem L2 MP
inductive Fi where
  | is_name | types_of | is_always | always_types | field_of | case_of | are_ascending | is_definition | is_shaped | l_cell | l_digits | l_draw | l_kind | l_some | l_defs | l_types | l_broken | law | Format__init | Format_of | Format_names
  deriving DecidableEq
def top (i : Nat) : Stmt := PySem.Challenge.pw_formatfit_k10_parts_of_definitions.main.body.getD i (.Pass ⟨0, 0, 0, 0⟩)
abbrev n_is_name : List Str := ["text", "sign"]
abbrev io_is_name : Option Nat := none
abbrev n_types_of : List Str := ["definition", "field", "case"]
abbrev io_types_of : Option Nat := none
abbrev n_is_always : List Str := ["field"]
abbrev io_is_always : Option Nat := none
abbrev n_always_types : List Str := ["definition", "field"]
abbrev io_always_types : Option Nat := none
abbrev n_field_of : List Str := ["definition", "name", "field"]
abbrev io_field_of : Option Nat := none
abbrev n_case_of : List Str := ["definition", "tag", "case"]
abbrev io_case_of : Option Nat := none
abbrev n_are_ascending : List Str := ["names", "name", "place"]
abbrev io_are_ascending : Option Nat := none
abbrev n_is_definition : List Str := ["definition", "field", "case"]
abbrev io_is_definition : Option Nat := none
abbrev n_is_shaped : List Str := ["form", "name", "definition", "other"]
abbrev io_is_shaped : Option Nat := none
abbrev n_l_cell : List Str := ["_law_script", "_law_k"]
abbrev io_l_cell : Option Nat := none
abbrev n_l_digits : List Str := ["_law_script", "_law_first", "_law_last", "_law_digits_here", "_law_k", "_law_cell_here", "_law_turn", "_law_seed"]
abbrev io_l_digits : Option Nat := none
abbrev n_l_draw : List Str := ["_law_box", "_law_many", "_law_at"]
abbrev io_l_draw : Option Nat := some 0
abbrev n_l_kind : List Str := ["_law_box", "_law_name_here", "_law_kind_here", "_law_least"]
abbrev io_l_kind : Option Nat := some 0
abbrev n_l_some : List Str := ["_law_definition", "_law_at"]
abbrev io_l_some : Option Nat := none
abbrev n_l_defs : List Str := ["_law_box", "_law_defs_here", "_law_name_here", "_law_fields", "_law_k", "_law_other", "_law_some_here", "_law_way", "_law_cases", "_law_fallback", "_law_case"]
abbrev io_l_defs : Option Nat := some 0
abbrev n_l_types : List Str := ["_law_definition", "_law_row"]
abbrev io_l_types : Option Nat := none
abbrev n_l_broken : List Str := ["_law_box", "_law_defs_here", "_law_other", "_law_kind_here"]
abbrev io_l_broken : Option Nat := some 0
abbrev n_law : List Str := ["_law_script", "_law_box", "_law_defs_here", "_law_loose", "_law_name_here", "_law_definition", "_law_told", "_law_row"]
abbrev io_law : Option Nat := none
abbrev n_Format__init : List Str := ["self", "root", "definitions"]
abbrev io_Format__init : Option Nat := some 0
abbrev n_Format_of : List Str := ["self", "name"]
abbrev io_Format_of : Option Nat := none
abbrev n_Format_names : List Str := ["self"]
abbrev io_Format_names : Option Nat := none
@[reducible] def fam : FamC Fi where
  nm := fun i => match i with
    | .is_name => "is_name"
    | .types_of => "types_of"
    | .is_always => "is_always"
    | .always_types => "always_types"
    | .field_of => "field_of"
    | .case_of => "case_of"
    | .are_ascending => "are_ascending"
    | .is_definition => "is_definition"
    | .is_shaped => "is_shaped"
    | .l_cell => "_law_cell"
    | .l_digits => "_law_digits"
    | .l_draw => "_law_draw"
    | .l_kind => "_law_kind"
    | .l_some => "_law_some"
    | .l_defs => "_law_defs"
    | .l_types => "_law_types"
    | .l_broken => "_law_broken"
    | .law => "law"
    | .Format__init => "__init__"
    | .Format_of => "of"
    | .Format_names => "names"
  ql := fun i => match i with
    | .is_name => "is_name"
    | .types_of => "types_of"
    | .is_always => "is_always"
    | .always_types => "always_types"
    | .field_of => "field_of"
    | .case_of => "case_of"
    | .are_ascending => "are_ascending"
    | .is_definition => "is_definition"
    | .is_shaped => "is_shaped"
    | .l_cell => "_law_cell"
    | .l_digits => "_law_digits"
    | .l_draw => "_law_draw"
    | .l_kind => "_law_kind"
    | .l_some => "_law_some"
    | .l_defs => "_law_defs"
    | .l_types => "_law_types"
    | .l_broken => "_law_broken"
    | .law => "law"
    | .Format__init => "Format.__init__"
    | .Format_of => "Format.of"
    | .Format_names => "Format.names"
  fr := fun i => match i with
    | .is_name => true
    | .types_of => true
    | .is_always => true
    | .always_types => true
    | .field_of => true
    | .case_of => true
    | .are_ascending => true
    | .is_definition => true
    | .is_shaped => true
    | .l_cell => true
    | .l_digits => true
    | .l_draw => true
    | .l_kind => true
    | .l_some => true
    | .l_defs => true
    | .l_types => true
    | .l_broken => true
    | .law => true
    | .Format__init => false
    | .Format_of => false
    | .Format_names => false
  st := fun i => match i with
    | .is_name => (top 4)
    | .types_of => (top 13)
    | .is_always => (top 14)
    | .always_types => (top 15)
    | .field_of => (top 16)
    | .case_of => (top 17)
    | .are_ascending => (top 18)
    | .is_definition => (top 19)
    | .is_shaped => (top 20)
    | .l_cell => (top 22)
    | .l_digits => (top 23)
    | .l_draw => (top 24)
    | .l_kind => (top 35)
    | .l_some => (top 36)
    | .l_defs => (top 37)
    | .l_types => (top 41)
    | .l_broken => (top 42)
    | .law => (top 43)
    | .Format__init => (inCls (top 12) 0)
    | .Format_of => (inCls (top 12) 1)
    | .Format_names => (inCls (top 12) 2)
  ps := fun i => match i with
    | .is_name => ["text"]
    | .types_of => ["definition"]
    | .is_always => ["field"]
    | .always_types => ["definition"]
    | .field_of => ["definition", "name"]
    | .case_of => ["definition", "tag"]
    | .are_ascending => ["names"]
    | .is_definition => ["definition"]
    | .is_shaped => ["form"]
    | .l_cell => ["_law_script", "_law_k"]
    | .l_digits => ["_law_script", "_law_first", "_law_last"]
    | .l_draw => ["_law_box", "_law_many"]
    | .l_kind => ["_law_box", "_law_name_here"]
    | .l_some => ["_law_definition", "_law_at"]
    | .l_defs => ["_law_box"]
    | .l_types => ["_law_definition"]
    | .l_broken => ["_law_box", "_law_defs_here"]
    | .law => ["_law_script"]
    | .Format__init => ["self", "root", "definitions"]
    | .Format_of => ["self", "name"]
    | .Format_names => ["self"]
  io := fun i => match i with
    | .is_name => io_is_name
    | .types_of => io_types_of
    | .is_always => io_is_always
    | .always_types => io_always_types
    | .field_of => io_field_of
    | .case_of => io_case_of
    | .are_ascending => io_are_ascending
    | .is_definition => io_is_definition
    | .is_shaped => io_is_shaped
    | .l_cell => io_l_cell
    | .l_digits => io_l_digits
    | .l_draw => io_l_draw
    | .l_kind => io_l_kind
    | .l_some => io_l_some
    | .l_defs => io_l_defs
    | .l_types => io_l_types
    | .l_broken => io_l_broken
    | .law => io_law
    | .Format__init => io_Format__init
    | .Format_of => io_Format_of
    | .Format_names => io_Format_names
  nb := ["all", "len", "range", "int", "min", "tuple", "dict", "sorted", "isinstance", "list"]
abbrev fdo (r : Fi → DR) (i : Fi) : FnD := ⟨(fam.ps i).length, fam.io i, r i⟩
def fuel : Nat := 100000
theorem sc_is_name : FnScope n_is_name (fam.ps .is_name) (defScope (fam.st .is_name)) := ⟨rfl, rfl, rfl, by decide +kernel, rfl, by decide +kernel, by decide +kernel⟩
theorem sc_types_of : FnScope n_types_of (fam.ps .types_of) (defScope (fam.st .types_of)) := ⟨rfl, rfl, rfl, by decide +kernel, rfl, by decide +kernel, by decide +kernel⟩
theorem sc_is_always : FnScope n_is_always (fam.ps .is_always) (defScope (fam.st .is_always)) := ⟨rfl, rfl, rfl, by decide +kernel, rfl, by decide +kernel, by decide +kernel⟩
theorem sc_always_types : FnScope n_always_types (fam.ps .always_types) (defScope (fam.st .always_types)) := ⟨rfl, rfl, rfl, by decide +kernel, rfl, by decide +kernel, by decide +kernel⟩
theorem sc_field_of : FnScope n_field_of (fam.ps .field_of) (defScope (fam.st .field_of)) := ⟨rfl, rfl, rfl, by decide +kernel, rfl, by decide +kernel, by decide +kernel⟩
theorem sc_case_of : FnScope n_case_of (fam.ps .case_of) (defScope (fam.st .case_of)) := ⟨rfl, rfl, rfl, by decide +kernel, rfl, by decide +kernel, by decide +kernel⟩
theorem sc_are_ascending : FnScope n_are_ascending (fam.ps .are_ascending) (defScope (fam.st .are_ascending)) := ⟨rfl, rfl, rfl, by decide +kernel, rfl, by decide +kernel, by decide +kernel⟩
theorem sc_is_definition : FnScope n_is_definition (fam.ps .is_definition) (defScope (fam.st .is_definition)) := ⟨rfl, rfl, rfl, by decide +kernel, rfl, by decide +kernel, by decide +kernel⟩
theorem sc_is_shaped : FnScope n_is_shaped (fam.ps .is_shaped) (defScope (fam.st .is_shaped)) := ⟨rfl, rfl, rfl, by decide +kernel, rfl, by decide +kernel, by decide +kernel⟩
theorem sc_l_cell : FnScope n_l_cell (fam.ps .l_cell) (defScope (fam.st .l_cell)) := ⟨rfl, rfl, rfl, by decide +kernel, rfl, by decide +kernel, by decide +kernel⟩
theorem sc_l_digits : FnScope n_l_digits (fam.ps .l_digits) (defScope (fam.st .l_digits)) := ⟨rfl, rfl, rfl, by decide +kernel, rfl, by decide +kernel, by decide +kernel⟩
theorem sc_l_draw : FnScope n_l_draw (fam.ps .l_draw) (defScope (fam.st .l_draw)) := ⟨rfl, rfl, rfl, by decide +kernel, rfl, by decide +kernel, by decide +kernel⟩
theorem sc_l_kind : FnScope n_l_kind (fam.ps .l_kind) (defScope (fam.st .l_kind)) := ⟨rfl, rfl, rfl, by decide +kernel, rfl, by decide +kernel, by decide +kernel⟩
theorem sc_l_some : FnScope n_l_some (fam.ps .l_some) (defScope (fam.st .l_some)) := ⟨rfl, rfl, rfl, by decide +kernel, rfl, by decide +kernel, by decide +kernel⟩
theorem sc_l_defs : FnScope n_l_defs (fam.ps .l_defs) (defScope (fam.st .l_defs)) := ⟨rfl, rfl, rfl, by decide +kernel, rfl, by decide +kernel, by decide +kernel⟩
theorem sc_l_types : FnScope n_l_types (fam.ps .l_types) (defScope (fam.st .l_types)) := ⟨rfl, rfl, rfl, by decide +kernel, rfl, by decide +kernel, by decide +kernel⟩
theorem sc_l_broken : FnScope n_l_broken (fam.ps .l_broken) (defScope (fam.st .l_broken)) := ⟨rfl, rfl, rfl, by decide +kernel, rfl, by decide +kernel, by decide +kernel⟩
theorem sc_law : FnScope n_law (fam.ps .law) (defScope (fam.st .law)) := ⟨rfl, rfl, rfl, by decide +kernel, rfl, by decide +kernel, by decide +kernel⟩
theorem sc_Format__init : FnScope n_Format__init (fam.ps .Format__init) (defScope (fam.st .Format__init)) := ⟨rfl, rfl, rfl, by decide +kernel, rfl, by decide +kernel, by decide +kernel⟩
theorem sc_Format_of : FnScope n_Format_of (fam.ps .Format_of) (defScope (fam.st .Format_of)) := ⟨rfl, rfl, rfl, by decide +kernel, rfl, by decide +kernel, by decide +kernel⟩
theorem sc_Format_names : FnScope n_Format_names (fam.ps .Format_names) (defScope (fam.st .Format_names)) := ⟨rfl, rfl, rfl, by decide +kernel, rfl, by decide +kernel, by decide +kernel⟩
section
variable {P : Program} {w : World} {K : PySem.W.Frag} {mg : Str → Option Value} {base : Heap} {cl fx : Str → Option Addr} {tb : Addr → Prop} {tc tp : Fi → Addr} {cc_Format : Addr} {ad : Fi → Addr} {fdt : Fi → FuncData} {k : Nat} {r : Fi → DR} {f : Addr} {cdv : Value} {A : Around} {outer : List PySem.Env} {s : Shared} {H : Hp} {E : XK}
theorem nob_all (TT : FamTopC fam K mg ad fdt) : mg "all" = none := TT.nob _ (by decide +kernel)
theorem nob_len (TT : FamTopC fam K mg ad fdt) : mg "len" = none := TT.nob _ (by decide +kernel)
theorem nob_range (TT : FamTopC fam K mg ad fdt) : mg "range" = none := TT.nob _ (by decide +kernel)
theorem nob_int (TT : FamTopC fam K mg ad fdt) : mg "int" = none := TT.nob _ (by decide +kernel)
theorem nob_min (TT : FamTopC fam K mg ad fdt) : mg "min" = none := TT.nob _ (by decide +kernel)
theorem nob_tuple (TT : FamTopC fam K mg ad fdt) : mg "tuple" = none := TT.nob _ (by decide +kernel)
theorem nob_dict (TT : FamTopC fam K mg ad fdt) : mg "dict" = none := TT.nob _ (by decide +kernel)
theorem nob_sorted (TT : FamTopC fam K mg ad fdt) : mg "sorted" = none := TT.nob _ (by decide +kernel)
theorem nob_isinstance (TT : FamTopC fam K mg ad fdt) : mg "isinstance" = none := TT.nob _ (by decide +kernel)
theorem nob_list (TT : FamTopC fam K mg ad fdt) : mg "list" = none := TT.nob _ (by decide +kernel)
def gx : Fi → Bool
  | .is_name => true
  | .types_of => false
  | .is_always => false
  | .always_types => false
  | .field_of => false
  | .case_of => false
  | .are_ascending => true
  | .is_definition => false
  | .is_shaped => true
  | .l_cell => false
  | .l_digits => false
  | .l_draw => false
  | .l_kind => false
  | .l_some => false
  | .l_defs => false
  | .l_types => false
  | .l_broken => false
  | .law => false
  | .Format__init => false
  | .Format_of => false
  | .Format_names => false
structure Ct (cl : Str → Option Addr) (K : PySem.W.Frag) (mg : Str → Option Value) (ad : Fi → Addr) (cc_Format : Addr) : Prop where
  c_Format : cl "Format" = some cc_Format
  k_Format : ClK K cc_Format ["root", "definitions"]
  g_Format : mg "Format" = some (.ref cc_Format)
  mk_Format : Mk K cc_Format (ad .Format__init)
  m_Format_of : Meth K cc_Format "of" (ad .Format_of)
  m_Format_names : Meth K cc_Format "names" (ad .Format_names)
structure Cn (mg : Str → Option Value) : Prop where
  c_LETTERS : ∃ t, mg "LETTERS" = some (.str "abcdefghijklmnopqrstuvwxyz" t)
  c_FIGURES : ∃ t, mg "FIGURES" = some (.str "0123456789" t)
  c_NAME_MOST : ∃ t, mg "NAME_MOST" = some (.int 8 t)
  c_DEFINITIONS_MOST : ∃ t, mg "DEFINITIONS_MOST" = some (.int 12 t)
  c_BOUND_MOST : ∃ t, mg "BOUND_MOST" = some (.int 999999 t)
  c_LENGTH_MOST : ∃ t, mg "LENGTH_MOST" = some (.int 9 t)
  c_FIELDS_MOST : ∃ t, mg "FIELDS_MOST" = some (.int 4 t)
  c_CASES_MOST : ∃ t, mg "CASES_MOST" = some (.int 4 t)
  c_OPTIONAL : ∃ t, mg "OPTIONAL" = some (.str "optional" t)
@[simp] def s_is_name_1a1 (r : Fi → DR) : DS := dRet (dR (dC (.bl false)))
@[simp] def s_is_name_1 (r : Fi → DR) : DS := dIfS (dOr (dNot (dChn leT leT (dC (.int 1)) (dV false (dU1 lenT (dH (dVar 0)))) (dC (.int 8)))) (dCmpT nmemT (dH (dR (dSubv 0 (dC (.int 0))))) (dH (dR (dC (.str "abcdefghijklmnopqrstuvwxyz")))))) (dSs [s_is_name_1a1 r]) (dSs [])
@[simp] def s_is_name_2 (r : Fi → DR) : DS := dRet (dGn false (sNm 1) [1] (dItV (dV false (dVar 0))) (dOrV (dCmp memT (dH (dVar 1)) (dH (dR (dC (.str "abcdefghijklmnopqrstuvwxyz"))))) (dCmp memT (dH (dVar 1)) (dH (dR (dC (.str "0123456789")))))))
def b_is_name (r : Fi → DR) : DS := dSs [s_is_name_1 r, s_is_name_2 r]
theorem b_is_name_ok (G : FamOk fam.toFam P w K mg base ⟨K, cl, fx, tb⟩ ad fdt k r) (TT : FamTopC fam K mg ad fdt) (CN : Cn mg) (CT : Ct cl K mg ad cc_Format) (GT : GTab gx mg base tb fdt tc tp) (hcd : cdv = .ref (tc .is_name)) (hr1 : Room (k + 1) (A.deeper (PyProof.Rows.envOfC "is_name" (defScope (fam.st .is_name)) s.heap.objs.size f cdv))) :
    PSs (cxOf (L2.CX P w) P w K mg base n_is_name "is_name" (defScope (fam.st .is_name)) f cdv A outer s H E) (defBody (fam.st .is_name)) (tS ⟨K, cl, fx, tb⟩ (fun e d _ H' => E e d H') io_is_name (b_is_name r)) :=
  have hr : Room k (A.deeper (PyProof.Rows.envOfC "is_name" (defScope (fam.st .is_name)) s.heap.objs.size f cdv)) := hr1.mono (Nat.le_succ k)
  (Ss_cons (S_if (PW.pt (W_or (T_not (T_chn (op_leTop) (op_leTop) V_int (toV (b_len rfl rfl (nob_len TT) (toH (R_var (pv 0))) rfl)) (V_glob (t := .int 8) (v := .int 8) rfl CN.c_NAME_MOST.choose_spec ⟨_, rfl⟩ (fun _ => Rep.int.mpr rfl)) rfl)) (W_or1 (T_cmpH (op_nTt rfl (ru64 hr)) rfl (toH (toR (V_subv rfl (ru1 hr) (pv 0) V_int (fun _ _ => rfl)))) (toH (toR (V_glob (t := .str "abcdefghijklmnopqrstuvwxyz") (v := .str "abcdefghijklmnopqrstuvwxyz") rfl CN.c_LETTERS.choose_spec ⟨_, rfl⟩ (fun _ => Rep.str.mpr rfl)))))))) (Ss_cons (S_ret (toR V_bl)) Ss_nil) Ss_nil) (Ss_cons (S_ret (R_all (own := [("sign", 1)]) stores_nm (GT.t .is_name rfl) hr1 rfl (nob_all TT) (GT.b .is_name rfl) hcd ⟨blkOk_by (own := [("sign", 1)]) (N := n_is_name) (sc := defScope (fam.st .is_name)) (by decide +kernel), rfl, by decide +kernel, rfl⟩ sc_is_name.nd (I_seq rfl (toV (R_var (pv 0)))) (fun _ _ _ _ _ _ hr => (G_name (pg_name (i := 1) sc_is_name.nd rfl (by first | exact Or.inl rfl | exact Or.inr rfl)))) (fun _ _ _ _ _ _ hr => (V_or (cmpH (op_inTt rfl (ru64 hr)) rfl (toH (R_var (pv 1))) (toH (toR (V_glob (t := .str "abcdefghijklmnopqrstuvwxyz") (v := .str "abcdefghijklmnopqrstuvwxyz") rfl CN.c_LETTERS.choose_spec ⟨_, rfl⟩ (fun _ => Rep.str.mpr rfl))))) (V_one (cmpH (op_inTt rfl (ru64 hr)) rfl (toH (R_var (pv 1))) (toH (toR (V_glob (t := .str "0123456789") (v := .str "0123456789") rfl CN.c_FIGURES.choose_spec ⟨_, rfl⟩ (fun _ => Rep.str.mpr rfl)))))))) (fun _ => rfl))) Ss_nil))
@[simp] def s_types_of_1a1 (r : Fi → DR) : DS := dRet (dLst (dVs [dSubv 0 (dC (.int 1))]))
@[simp] def s_types_of_1 (r : Fi → DR) : DS := dIfS (dCmpT eqT (dH (dR (dSubv 0 (dC (.int 0))))) (dH (dR (dC (.str "list"))))) (dSs [s_types_of_1a1 r]) (dSs [])
@[simp] def s_types_of_2a1 (r : Fi → DR) : DS := dRet (dLc (sNm 1) [1] (dItV (dSubv 0 (dC (.int 1)))) (dYes) (dSubv 1 (dC (.int 1))))
@[simp] def s_types_of_2 (r : Fi → DR) : DS := dIfS (dCmpT eqT (dH (dR (dSubv 0 (dC (.int 0))))) (dH (dR (dC (.str "record"))))) (dSs [s_types_of_2a1 r]) (dSs [])
@[simp] def s_types_of_3a1 (r : Fi → DR) : DS := dRet (dLc (sNm 2) [2] (dItV (dSubv 0 (dC (.int 1)))) (dYes) (dSubv 2 (dC (.int 1))))
@[simp] def s_types_of_3 (r : Fi → DR) : DS := dIfS (dCmpT eqT (dH (dR (dSubv 0 (dC (.int 0))))) (dH (dR (dC (.str "choice"))))) (dSs [s_types_of_3a1 r]) (dSs [])
@[simp] def s_types_of_4 (r : Fi → DR) : DS := dRet (dLst (dVs []))
def b_types_of (r : Fi → DR) : DS := dSs [s_types_of_1 r, s_types_of_2 r, s_types_of_3 r, s_types_of_4 r]
theorem b_types_of_ok (G : FamOk fam.toFam P w K mg base ⟨K, cl, fx, tb⟩ ad fdt k r) (TT : FamTopC fam K mg ad fdt) (CN : Cn mg) (CT : Ct cl K mg ad cc_Format) (GT : GTab gx mg base tb fdt tc tp) (hr1 : Room (k + 1) (A.deeper (PyProof.Rows.envOfC "types_of" (defScope (fam.st .types_of)) s.heap.objs.size f cdv))) :
    PSs (cxOf (L2.CX P w) P w K mg base n_types_of "types_of" (defScope (fam.st .types_of)) f cdv A outer s H E) (defBody (fam.st .types_of)) (tS ⟨K, cl, fx, tb⟩ (fun e d _ H' => E e d H') io_types_of (b_types_of r)) :=
  have hr : Room k (A.deeper (PyProof.Rows.envOfC "types_of" (defScope (fam.st .types_of)) s.heap.objs.size f cdv)) := hr1.mono (Nat.le_succ k)
  (Ss_cons (S_if (T_cmpH (op_eqTt rfl (ru64 hr)) rfl (toH (toR (V_subv rfl (ru1 hr) (pv 0) V_int (fun _ _ => rfl)))) (toH (toR V_str))) (Ss_cons (S_ret (R_lst (A_cons (V_subv rfl (ru1 hr) (pv 0) V_int (fun _ _ => rfl)) A_nil rfl))) Ss_nil) Ss_nil) (Ss_cons (S_if (T_cmpH (op_eqTt rfl (ru64 hr)) rfl (toH (toR (V_subv rfl (ru1 hr) (pv 0) V_int (fun _ _ => rfl)))) (toH (toR V_str))) (Ss_cons (S_ret (R_lc (own := [("field", 1)]) stores_nm rfl sc_types_of.nd (I_seq rfl (V_subv rfl (ru1 hr) (pv 0) V_int (fun _ _ => rfl))) (blkOk_by (own := [("field", 1)]) (N := n_types_of) (sc := defScope (fam.st .types_of)) (by decide +kernel)) (fun _ _ _ _ _ => (G_name (pg_name (i := 1) sc_types_of.nd rfl (by first | exact Or.inl rfl | exact Or.inr rfl)))) (fun _ _ _ _ _ => Ts_nil) (fun _ _ _ _ _ => (V_subv rfl (ru1 hr) (pv 1) V_int (fun _ _ => rfl))) (fun _ => rfl))) Ss_nil) Ss_nil) (Ss_cons (S_if (T_cmpH (op_eqTt rfl (ru64 hr)) rfl (toH (toR (V_subv rfl (ru1 hr) (pv 0) V_int (fun _ _ => rfl)))) (toH (toR V_str))) (Ss_cons (S_ret (R_lc (own := [("case", 2)]) stores_nm rfl sc_types_of.nd (I_seq rfl (V_subv rfl (ru1 hr) (pv 0) V_int (fun _ _ => rfl))) (blkOk_by (own := [("case", 2)]) (N := n_types_of) (sc := defScope (fam.st .types_of)) (by decide +kernel)) (fun _ _ _ _ _ => (G_name (pg_name (i := 2) sc_types_of.nd rfl (by first | exact Or.inl rfl | exact Or.inr rfl)))) (fun _ _ _ _ _ => Ts_nil) (fun _ _ _ _ _ => (V_subv rfl (ru1 hr) (pv 2) V_int (fun _ _ => rfl))) (fun _ => rfl))) Ss_nil) Ss_nil) (Ss_cons (S_ret (R_lst A_nil)) Ss_nil))))
@[simp] def s_is_always_1 (r : Fi → DR) : DS := dRet (dR (dCmp neT (dH (dR (dSubv 0 (dC (.int 2))))) (dH (dR (dC (.str "optional"))))))
def b_is_always (r : Fi → DR) : DS := dSs [s_is_always_1 r]
theorem b_is_always_ok (G : FamOk fam.toFam P w K mg base ⟨K, cl, fx, tb⟩ ad fdt k r) (TT : FamTopC fam K mg ad fdt) (CN : Cn mg) (CT : Ct cl K mg ad cc_Format) (GT : GTab gx mg base tb fdt tc tp) (hr1 : Room (k + 1) (A.deeper (PyProof.Rows.envOfC "is_always" (defScope (fam.st .is_always)) s.heap.objs.size f cdv))) :
    PSs (cxOf (L2.CX P w) P w K mg base n_is_always "is_always" (defScope (fam.st .is_always)) f cdv A outer s H E) (defBody (fam.st .is_always)) (tS ⟨K, cl, fx, tb⟩ (fun e d _ H' => E e d H') io_is_always (b_is_always r)) :=
  have hr : Room k (A.deeper (PyProof.Rows.envOfC "is_always" (defScope (fam.st .is_always)) s.heap.objs.size f cdv)) := hr1.mono (Nat.le_succ k)
  (Ss_cons (S_ret (toR (cmpH (op_neTt rfl (ru64 hr)) rfl (toH (toR (V_subv rfl (ru1 hr) (pv 0) V_int (fun _ _ => rfl)))) (toH (toR (V_glob (t := .str "optional") (v := .str "optional") rfl CN.c_OPTIONAL.choose_spec ⟨_, rfl⟩ (fun _ => Rep.str.mpr rfl))))))) Ss_nil)
@[simp] def s_always_types_1 (r : Fi → DR) : DS := dRet (dLc (sNm 1) [1] (dItV (dSubv 0 (dC (.int 1)))) (dTru (dH (dCall (fdo r .is_always) (dArgs false (fdo r .is_always).io 0 [dVar 1])))) (dSubv 1 (dC (.int 1))))
def b_always_types (r : Fi → DR) : DS := dSs [s_always_types_1 r]
theorem b_always_types_ok (G : FamOk fam.toFam P w K mg base ⟨K, cl, fx, tb⟩ ad fdt k r) (TT : FamTopC fam K mg ad fdt) (CN : Cn mg) (CT : Ct cl K mg ad cc_Format) (GT : GTab gx mg base tb fdt tc tp) (hr1 : Room (k + 1) (A.deeper (PyProof.Rows.envOfC "always_types" (defScope (fam.st .always_types)) s.heap.objs.size f cdv))) :
    PSs (cxOf (L2.CX P w) P w K mg base n_always_types "always_types" (defScope (fam.st .always_types)) f cdv A outer s H E) (defBody (fam.st .always_types)) (tS ⟨K, cl, fx, tb⟩ (fun e d _ H' => E e d H') io_always_types (b_always_types r)) :=
  have hr : Room k (A.deeper (PyProof.Rows.envOfC "always_types" (defScope (fam.st .always_types)) s.heap.objs.size f cdv)) := hr1.mono (Nat.le_succ k)
  (Ss_cons (S_ret (R_lc (own := [("field", 1)]) stores_nm rfl sc_always_types.nd (I_seq rfl (V_subv rfl (ru1 hr) (pv 0) V_int (fun _ _ => rfl))) (blkOk_by (own := [("field", 1)]) (N := n_always_types) (sc := defScope (fam.st .always_types)) (by decide +kernel)) (fun _ _ _ _ _ => (G_name (pg_name (i := 1) sc_always_types.nd rfl (by first | exact Or.inl rfl | exact Or.inr rfl)))) (fun _ _ _ _ _ => (Ts_one (T_tru rfl (fun _ => rfl) (toH (R_call (G.ok .is_always) hr rfl (TT.mgf .is_always rfl) (TT.fn .is_always).kp (TT.bn .is_always) (fun _ => px_blk) (Ao_cons (toG (R_var (pv 1))) Ao_nil rfl) rfl rfl))))) (fun _ _ _ _ _ => (V_subv rfl (ru1 hr) (pv 1) V_int (fun _ _ => rfl))) (fun _ => rfl))) Ss_nil)
def s_field_of_1l1a1 (r : Fi → DR) : DS := dRet (dVar 2)
def s_field_of_1l1 (r : Fi → DR) : DS := dIfS (dCmpT eqT (dH (dR (dSubv 2 (dC (.int 0))))) (dH (dVar 1))) (dSs [s_field_of_1l1a1 r]) (dSs [])
@[simp] def s_field_of_1 (r : Fi → DR) : DS := dFor (sNm 2) (dItV (dSubv 0 (dC (.int 1)))) (dSs [s_field_of_1l1 r])
@[simp] def s_field_of_2 (r : Fi → DR) : DS := dRet (dR (dC .non))
def b_field_of (r : Fi → DR) : DS := dSs [s_field_of_1 r, s_field_of_2 r]
theorem b_field_of_ok (G : FamOk fam.toFam P w K mg base ⟨K, cl, fx, tb⟩ ad fdt k r) (TT : FamTopC fam K mg ad fdt) (CN : Cn mg) (CT : Ct cl K mg ad cc_Format) (GT : GTab gx mg base tb fdt tc tp) (hr1 : Room (k + 1) (A.deeper (PyProof.Rows.envOfC "field_of" (defScope (fam.st .field_of)) s.heap.objs.size f cdv))) :
    PSs (cxOf (L2.CX P w) P w K mg base n_field_of "field_of" (defScope (fam.st .field_of)) f cdv A outer s H E) (defBody (fam.st .field_of)) (tS ⟨K, cl, fx, tb⟩ (fun e d _ H' => E e d H') io_field_of (b_field_of r)) :=
  have hr : Room k (A.deeper (PyProof.Rows.envOfC "field_of" (defScope (fam.st .field_of)) s.heap.objs.size f cdv)) := hr1.mono (Nat.le_succ k)
  (Ss_cons (S_for PassesOwn.leaving rfl (I_seq rfl (V_subv rfl (ru1 hr) (pv 0) V_int (fun _ _ => rfl))) (G_name (pg_name (i := 2) sc_field_of.nd rfl (by first | exact Or.inl rfl | exact Or.inr rfl))) (Ss_cons (S_if (T_cmpH (op_eqTt rfl (ru64 hr)) rfl (toH (toR (V_subv rfl (ru1 hr) (pv 2) V_int (fun _ _ => rfl)))) (toH (R_var (pv 1)))) (Ss_cons (S_ret (R_var (pv 2))) Ss_nil) Ss_nil) Ss_nil) rfl (fun _ => rfl)) (Ss_cons (S_ret (toR V_non)) Ss_nil))
def s_case_of_1l1a1 (r : Fi → DR) : DS := dRet (dR (dSubv 2 (dC (.int 1))))
def s_case_of_1l1 (r : Fi → DR) : DS := dIfS (dCmpT eqT (dH (dR (dSubv 2 (dC (.int 0))))) (dH (dVar 1))) (dSs [s_case_of_1l1a1 r]) (dSs [])
@[simp] def s_case_of_1 (r : Fi → DR) : DS := dFor (sNm 2) (dItV (dSubv 0 (dC (.int 1)))) (dSs [s_case_of_1l1 r])
@[simp] def s_case_of_2 (r : Fi → DR) : DS := dRet (dR (dC .non))
def b_case_of (r : Fi → DR) : DS := dSs [s_case_of_1 r, s_case_of_2 r]
theorem b_case_of_ok (G : FamOk fam.toFam P w K mg base ⟨K, cl, fx, tb⟩ ad fdt k r) (TT : FamTopC fam K mg ad fdt) (CN : Cn mg) (CT : Ct cl K mg ad cc_Format) (GT : GTab gx mg base tb fdt tc tp) (hr1 : Room (k + 1) (A.deeper (PyProof.Rows.envOfC "case_of" (defScope (fam.st .case_of)) s.heap.objs.size f cdv))) :
    PSs (cxOf (L2.CX P w) P w K mg base n_case_of "case_of" (defScope (fam.st .case_of)) f cdv A outer s H E) (defBody (fam.st .case_of)) (tS ⟨K, cl, fx, tb⟩ (fun e d _ H' => E e d H') io_case_of (b_case_of r)) :=
  have hr : Room k (A.deeper (PyProof.Rows.envOfC "case_of" (defScope (fam.st .case_of)) s.heap.objs.size f cdv)) := hr1.mono (Nat.le_succ k)
  (Ss_cons (S_for PassesOwn.leaving rfl (I_seq rfl (V_subv rfl (ru1 hr) (pv 0) V_int (fun _ _ => rfl))) (G_name (pg_name (i := 2) sc_case_of.nd rfl (by first | exact Or.inl rfl | exact Or.inr rfl))) (Ss_cons (S_if (T_cmpH (op_eqTt rfl (ru64 hr)) rfl (toH (toR (V_subv rfl (ru1 hr) (pv 2) V_int (fun _ _ => rfl)))) (toH (R_var (pv 1)))) (Ss_cons (S_ret (toR (V_subv rfl (ru1 hr) (pv 2) V_int (fun _ _ => rfl)))) Ss_nil) Ss_nil) Ss_nil) rfl (fun _ => rfl)) (Ss_cons (S_ret (toR V_non)) Ss_nil))
@[simp] def s_are_ascending_1a1 (r : Fi → DR) : DS := dRet (dR (dC (.bl false)))
@[simp] def s_are_ascending_1 (r : Fi → DR) : DS := dIfS (dNot (dTru (dH (dGn false (sNm 1) [1] (dItV (dV false (dVar 0))) (dV false (dCall (fdo r .is_name) (dArgs false (fdo r .is_name).io 0 [dVar 1]))))))) (dSs [s_are_ascending_1a1 r]) (dSs [])
@[simp] def s_are_ascending_2 (r : Fi → DR) : DS := dRet (dGn false (sNm 2) [2] (dItA dRng1 (dVs [dV false (dB subT (dV false (dU1 lenT (dH (dVar 0)))) (dC (.int 1)))])) (dCmp ltT (dH (dR (dSubv 0 (dV false (dVar 2))))) (dH (dR (dSubv 0 (dV true (dB addT (dV true (dVar 2)) (dC (.int 1)))))))))
def b_are_ascending (r : Fi → DR) : DS := dSs [s_are_ascending_1 r, s_are_ascending_2 r]
theorem b_are_ascending_ok (G : FamOk fam.toFam P w K mg base ⟨K, cl, fx, tb⟩ ad fdt k r) (TT : FamTopC fam K mg ad fdt) (CN : Cn mg) (CT : Ct cl K mg ad cc_Format) (GT : GTab gx mg base tb fdt tc tp) (hcd : cdv = .ref (tc .are_ascending)) (hr1 : Room (k + 1) (A.deeper (PyProof.Rows.envOfC "are_ascending" (defScope (fam.st .are_ascending)) s.heap.objs.size f cdv))) :
    PSs (cxOf (L2.CX P w) P w K mg base n_are_ascending "are_ascending" (defScope (fam.st .are_ascending)) f cdv A outer s H E) (defBody (fam.st .are_ascending)) (tS ⟨K, cl, fx, tb⟩ (fun e d _ H' => E e d H') io_are_ascending (b_are_ascending r)) :=
  have hr : Room k (A.deeper (PyProof.Rows.envOfC "are_ascending" (defScope (fam.st .are_ascending)) s.heap.objs.size f cdv)) := hr1.mono (Nat.le_succ k)
  (Ss_cons (S_if (T_not (T_tru rfl (fun _ => rfl) (toH (R_all (own := [("name", 1)]) stores_nm (GT.t .are_ascending rfl) hr1 rfl (nob_all TT) (GT.b .are_ascending rfl) hcd ⟨blkOk_by (own := [("name", 1)]) (N := n_are_ascending) (sc := defScope (fam.st .are_ascending)) (by decide +kernel), rfl, by decide +kernel, rfl⟩ sc_are_ascending.nd (I_seq rfl (toV (R_var (pv 0)))) (fun _ _ _ _ _ _ hr => (G_name (pg_name (i := 1) sc_are_ascending.nd rfl (by first | exact Or.inl rfl | exact Or.inr rfl)))) (fun _ _ _ _ _ _ hr => (toV (R_call (G.ok .is_name) hr rfl (TT.mgf .is_name rfl) (TT.fn .is_name).kp (TT.bn .is_name) (fun _ => px_gn) (Ao_cons (toG (R_var (pv 1))) Ao_nil rfl) rfl rfl))) (fun _ => rfl))))) (Ss_cons (S_ret (toR V_bl)) Ss_nil) Ss_nil) (Ss_cons (S_ret (R_all (own := [("place", 2)]) stores_nm (GT.t .are_ascending rfl) hr1 rfl (nob_all TT) (GT.b .are_ascending rfl) hcd ⟨blkOk_by (own := [("place", 2)]) (N := n_are_ascending) (sc := defScope (fam.st .are_ascending)) (by decide +kernel), rfl, by decide +kernel, rfl⟩ sc_are_ascending.nd (I_range1 rfl (nob_range TT) (A_cons (toV (R_bin (op_subT) (toV (b_len rfl rfl (nob_len TT) (toH (R_var (pv 0))) rfl)) V_int)) A_nil rfl) rfl) (fun _ _ _ _ _ _ hr => (G_name (pg_name (i := 2) sc_are_ascending.nd rfl (by first | exact Or.inl rfl | exact Or.inr rfl)))) (fun _ _ _ _ _ _ hr => (cmpH (op_ltTop rfl (ru0 hr)) rfl (toH (toR (V_subv rfl (ru1 hr) (pv 0) (toV (R_var (pv 2))) (fun _ _ => rfl)))) (toH (toR (V_subv rfl (ru1 hr) (pv 0) (toV (R_bin (op_addT rfl) (toV (R_var (pv 2))) V_int)) (fun _ _ => rfl)))))) (fun _ => rfl))) Ss_nil))
@[simp] def s_is_definition_1a1 (r : Fi → DR) : DS := dRet (dR (dChn3V leT leT leT (dU negT (dH (dR (dC (.int 999999))))) (dSubv 0 (dC (.int 1))) (dSubv 0 (dC (.int 2))) (dC (.int 999999))))
@[simp] def s_is_definition_1 (r : Fi → DR) : DS := dIfS (dCmpT eqT (dH (dR (dSubv 0 (dC (.int 0))))) (dH (dR (dC (.str "integer"))))) (dSs [s_is_definition_1a1 r]) (dSs [])
@[simp] def s_is_definition_2a1 (r : Fi → DR) : DS := dRet (dR (dChnV leT leT (dC (.int 0)) (dSubv 0 (dC (.int 1))) (dC (.int 9))))
@[simp] def s_is_definition_2 (r : Fi → DR) : DS := dIfS (dCmpT eqT (dH (dR (dSubv 0 (dC (.int 0))))) (dH (dR (dC (.str "text"))))) (dSs [s_is_definition_2a1 r]) (dSs [])
@[simp] def s_is_definition_3a1 (r : Fi → DR) : DS := dRet (dR (dChn3V leT leT leT (dC (.int 0)) (dSubv 0 (dC (.int 2))) (dSubv 0 (dC (.int 3))) (dC (.int 9))))
@[simp] def s_is_definition_3 (r : Fi → DR) : DS := dIfS (dCmpT eqT (dH (dR (dSubv 0 (dC (.int 0))))) (dH (dR (dC (.str "list"))))) (dSs [s_is_definition_3a1 r]) (dSs [])
@[simp] def s_is_definition_4a1 (r : Fi → DR) : DS := dRet (dR (dAndV (dCmp leT (dH (dU1 lenT (dH (dR (dSubv 0 (dC (.int 1))))))) (dH (dR (dC (.int 4))))) (dV false (dCall (fdo r .are_ascending) (dArgs false (fdo r .are_ascending).io 0 [dLc (sNm 1) [1] (dItV (dSubv 0 (dC (.int 1)))) (dYes) (dSubv 1 (dC (.int 0)))])))))
@[simp] def s_is_definition_4 (r : Fi → DR) : DS := dIfS (dCmpT eqT (dH (dR (dSubv 0 (dC (.int 0))))) (dH (dR (dC (.str "record"))))) (dSs [s_is_definition_4a1 r]) (dSs [])
@[simp] def s_is_definition_5a1 (r : Fi → DR) : DS := dRet (dR (dAndV (dChnV leT leT (dC (.int 1)) (dV false (dU1 lenT (dH (dR (dSubv 0 (dC (.int 1))))))) (dC (.int 4))) (dV false (dCall (fdo r .are_ascending) (dArgs false (fdo r .are_ascending).io 0 [dLc (sNm 2) [2] (dItV (dSubv 0 (dC (.int 1)))) (dYes) (dSubv 2 (dC (.int 0)))])))))
@[simp] def s_is_definition_5 (r : Fi → DR) : DS := dIfS (dCmpT eqT (dH (dR (dSubv 0 (dC (.int 0))))) (dH (dR (dC (.str "choice"))))) (dSs [s_is_definition_5a1 r]) (dSs [])
@[simp] def s_is_definition_6 (r : Fi → DR) : DS := dRet (dR (dC (.bl true)))
def b_is_definition (r : Fi → DR) : DS := dSs [s_is_definition_1 r, s_is_definition_2 r, s_is_definition_3 r, s_is_definition_4 r, s_is_definition_5 r, s_is_definition_6 r]
theorem b_is_definition_ok (G : FamOk fam.toFam P w K mg base ⟨K, cl, fx, tb⟩ ad fdt k r) (TT : FamTopC fam K mg ad fdt) (CN : Cn mg) (CT : Ct cl K mg ad cc_Format) (GT : GTab gx mg base tb fdt tc tp) (hr1 : Room (k + 1) (A.deeper (PyProof.Rows.envOfC "is_definition" (defScope (fam.st .is_definition)) s.heap.objs.size f cdv))) :
    PSs (cxOf (L2.CX P w) P w K mg base n_is_definition "is_definition" (defScope (fam.st .is_definition)) f cdv A outer s H E) (defBody (fam.st .is_definition)) (tS ⟨K, cl, fx, tb⟩ (fun e d _ H' => E e d H') io_is_definition (b_is_definition r)) :=
  have hr : Room k (A.deeper (PyProof.Rows.envOfC "is_definition" (defScope (fam.st .is_definition)) s.heap.objs.size f cdv)) := hr1.mono (Nat.le_succ k)
  (Ss_cons (S_if (T_cmpH (op_eqTt rfl (ru64 hr)) rfl (toH (toR (V_subv rfl (ru1 hr) (pv 0) V_int (fun _ _ => rfl)))) (toH (toR V_str))) (Ss_cons (S_ret (toR (V_chn3 (op_leTop) (op_leTop) (op_leTop) (neg_ok (toH (toR (V_glob (t := .int 999999) (v := .int 999999) rfl CN.c_BOUND_MOST.choose_spec ⟨_, rfl⟩ (fun _ => Rep.int.mpr rfl))))) (V_subv rfl (ru1 hr) (pv 0) V_int (fun _ _ => rfl)) (V_subv rfl (ru1 hr) (pv 0) V_int (fun _ _ => rfl)) (V_glob (t := .int 999999) (v := .int 999999) rfl CN.c_BOUND_MOST.choose_spec ⟨_, rfl⟩ (fun _ => Rep.int.mpr rfl)) rfl))) Ss_nil) Ss_nil) (Ss_cons (S_if (T_cmpH (op_eqTt rfl (ru64 hr)) rfl (toH (toR (V_subv rfl (ru1 hr) (pv 0) V_int (fun _ _ => rfl)))) (toH (toR V_str))) (Ss_cons (S_ret (toR (V_chn (op_leTop) (op_leTop) V_int (V_subv rfl (ru1 hr) (pv 0) V_int (fun _ _ => rfl)) (V_glob (t := .int 9) (v := .int 9) rfl CN.c_LENGTH_MOST.choose_spec ⟨_, rfl⟩ (fun _ => Rep.int.mpr rfl)) rfl))) Ss_nil) Ss_nil) (Ss_cons (S_if (T_cmpH (op_eqTt rfl (ru64 hr)) rfl (toH (toR (V_subv rfl (ru1 hr) (pv 0) V_int (fun _ _ => rfl)))) (toH (toR V_str))) (Ss_cons (S_ret (toR (V_chn3 (op_leTop) (op_leTop) (op_leTop) V_int (V_subv rfl (ru1 hr) (pv 0) V_int (fun _ _ => rfl)) (V_subv rfl (ru1 hr) (pv 0) V_int (fun _ _ => rfl)) (V_glob (t := .int 9) (v := .int 9) rfl CN.c_LENGTH_MOST.choose_spec ⟨_, rfl⟩ (fun _ => Rep.int.mpr rfl)) rfl))) Ss_nil) Ss_nil) (Ss_cons (S_if (T_cmpH (op_eqTt rfl (ru64 hr)) rfl (toH (toR (V_subv rfl (ru1 hr) (pv 0) V_int (fun _ _ => rfl)))) (toH (toR V_str))) (Ss_cons (S_ret (toR (V_and (cmpH (op_leTop) rfl (toH (b_len rfl rfl (nob_len TT) (toH (toR (V_subv rfl (ru1 hr) (pv 0) V_int (fun _ _ => rfl)))) rfl)) (toH (toR (V_glob (t := .int 4) (v := .int 4) rfl CN.c_FIELDS_MOST.choose_spec ⟨_, rfl⟩ (fun _ => Rep.int.mpr rfl))))) (V_one (toV (R_call (G.ok .are_ascending) hr rfl (TT.mgf .are_ascending rfl) (TT.fn .are_ascending).kp (TT.bn .are_ascending) px_top (Ao_cons (toG (R_lc (own := [("field", 1)]) stores_nm rfl sc_is_definition.nd (I_seq rfl (V_subv rfl (ru1 hr) (pv 0) V_int (fun _ _ => rfl))) (blkOk_by (own := [("field", 1)]) (N := n_is_definition) (sc := defScope (fam.st .is_definition)) (by decide +kernel)) (fun _ _ _ _ _ => (G_name (pg_name (i := 1) sc_is_definition.nd rfl (by first | exact Or.inl rfl | exact Or.inr rfl)))) (fun _ _ _ _ _ => Ts_nil) (fun _ _ _ _ _ => (V_subv rfl (ru1 hr) (pv 1) V_int (fun _ _ => rfl))) (fun _ => rfl))) Ao_nil rfl) rfl rfl)))))) Ss_nil) Ss_nil) (Ss_cons (S_if (T_cmpH (op_eqTt rfl (ru64 hr)) rfl (toH (toR (V_subv rfl (ru1 hr) (pv 0) V_int (fun _ _ => rfl)))) (toH (toR V_str))) (Ss_cons (S_ret (toR (V_and (V_chn (op_leTop) (op_leTop) V_int (toV (b_len rfl rfl (nob_len TT) (toH (toR (V_subv rfl (ru1 hr) (pv 0) V_int (fun _ _ => rfl)))) rfl)) (V_glob (t := .int 4) (v := .int 4) rfl CN.c_CASES_MOST.choose_spec ⟨_, rfl⟩ (fun _ => Rep.int.mpr rfl)) rfl) (V_one (toV (R_call (G.ok .are_ascending) hr rfl (TT.mgf .are_ascending rfl) (TT.fn .are_ascending).kp (TT.bn .are_ascending) px_top (Ao_cons (toG (R_lc (own := [("case", 2)]) stores_nm rfl sc_is_definition.nd (I_seq rfl (V_subv rfl (ru1 hr) (pv 0) V_int (fun _ _ => rfl))) (blkOk_by (own := [("case", 2)]) (N := n_is_definition) (sc := defScope (fam.st .is_definition)) (by decide +kernel)) (fun _ _ _ _ _ => (G_name (pg_name (i := 2) sc_is_definition.nd rfl (by first | exact Or.inl rfl | exact Or.inr rfl)))) (fun _ _ _ _ _ => Ts_nil) (fun _ _ _ _ _ => (V_subv rfl (ru1 hr) (pv 2) V_int (fun _ _ => rfl))) (fun _ => rfl))) Ao_nil rfl) rfl rfl)))))) Ss_nil) Ss_nil) (Ss_cons (S_ret (toR V_bl)) Ss_nil))))))
@[simp] def s_is_shaped_1a1 (r : Fi → DR) : DS := dRet (dR (dC (.bl false)))
@[simp] def s_is_shaped_1 (r : Fi → DR) : DS := dIfS (dOr (dNot (dChn leT leT (dC (.int 1)) (dV false (dU1 lenT (dH (dR (dFldv "Format" 0 "definitions"))))) (dC (.int 12)))) (dNot (dTru (dH (dGnF false (sNm 1) [1] "Format" 0 "definitions" (dV true (dCall (fdo r .is_name) (dArgs true (fdo r .is_name).io 0 [dVar 1])))))))) (dSs [s_is_shaped_1a1 r]) (dSs [])
@[simp] def s_is_shaped_2a1 (r : Fi → DR) : DS := dRet (dR (dC (.bl false)))
@[simp] def s_is_shaped_2 (r : Fi → DR) : DS := dIfS (dCmpT nmemT (dH (dR (dFldv "Format" 0 "root"))) (dH (dR (dFldv "Format" 0 "definitions")))) (dSs [s_is_shaped_2a1 r]) (dSs [])
def s_is_shaped_3l1 (r : Fi → DR) : DS := dAsg io_is_shaped 2 (dMeth false "Format" "of" 0 (fdo r .Format_of) (dArgs false (fdo r .Format_of).io 1 [dVar 1]))
def s_is_shaped_3l2a1 (r : Fi → DR) : DS := dRet (dR (dC (.bl false)))
def s_is_shaped_3l2 (r : Fi → DR) : DS := dIfS (dOr (dNot (dTru (dH (dCall (fdo r .is_definition) (dArgs false (fdo r .is_definition).io 0 [dVar 2]))))) (dNot (dTru (dH (dGn false (sNm 3) [3] (dItV (dV false (dCall (fdo r .types_of) (dArgs false (fdo r .types_of).io 0 [dVar 2])))) (dCmp memT (dH (dVar 3)) (dH (dR (dFldv "Format" 0 "definitions"))))))))) (dSs [s_is_shaped_3l2a1 r]) (dSs [])
@[simp] def s_is_shaped_3 (r : Fi → DR) : DS := dFor (sNm 1) (dItV (dV false (dMeth false "Format" "names" 0 (fdo r .Format_names) doNil))) (dSs [s_is_shaped_3l1 r, s_is_shaped_3l2 r])
@[simp] def s_is_shaped_4 (r : Fi → DR) : DS := dRet (dR (dC (.bl true)))
def b_is_shaped (r : Fi → DR) : DS := dSs [s_is_shaped_1 r, s_is_shaped_2 r, s_is_shaped_3 r, s_is_shaped_4 r]
theorem b_is_shaped_ok (G : FamOk fam.toFam P w K mg base ⟨K, cl, fx, tb⟩ ad fdt k r) (TT : FamTopC fam K mg ad fdt) (CN : Cn mg) (CT : Ct cl K mg ad cc_Format) (GT : GTab gx mg base tb fdt tc tp) (hcd : cdv = .ref (tc .is_shaped)) (hr1 : Room (k + 1) (A.deeper (PyProof.Rows.envOfC "is_shaped" (defScope (fam.st .is_shaped)) s.heap.objs.size f cdv))) :
    PSs (cxOf (L2.CX P w) P w K mg base n_is_shaped "is_shaped" (defScope (fam.st .is_shaped)) f cdv A outer s H E) (defBody (fam.st .is_shaped)) (tS ⟨K, cl, fx, tb⟩ (fun e d _ H' => E e d H') io_is_shaped (b_is_shaped r)) :=
  have hr : Room k (A.deeper (PyProof.Rows.envOfC "is_shaped" (defScope (fam.st .is_shaped)) s.heap.objs.size f cdv)) := hr1.mono (Nat.le_succ k)
  (Ss_cons (S_if (PW.pt (W_or (T_not (T_chn (op_leTop) (op_leTop) V_int (toV (b_len rfl rfl (nob_len TT) (toH (toR (V_fldv rfl CT.c_Format CT.k_Format (by decide +kernel : ("definitions" : Str) ∈ (["root", "definitions"] : List Str)) (pv 0) rfl))) rfl)) (V_glob (t := .int 12) (v := .int 12) rfl CN.c_DEFINITIONS_MOST.choose_spec ⟨_, rfl⟩ (fun _ => Rep.int.mpr rfl)) rfl)) (W_or1 (T_not (T_tru rfl (fun _ => rfl) (toH (R_allF CT.c_Format CT.k_Format (by decide +kernel : ("definitions" : Str) ∈ (["root", "definitions"] : List Str)) (own := [("name", 1)]) stores_nm (GT.t .is_shaped rfl) hr1 rfl (nob_all TT) (GT.b .is_shaped rfl) hcd ⟨blkOk_by (own := [("name", 1)]) (N := n_is_shaped) (sc := defScope (fam.st .is_shaped)) (by decide +kernel), rfl, by decide +kernel, rfl⟩ sc_is_shaped.nd (pv 0) rfl (fun _ _ _ _ _ _ hr => (G_name (pg_name (i := 1) sc_is_shaped.nd rfl (by first | exact Or.inl rfl | exact Or.inr rfl)))) (fun _ _ _ _ _ _ hr => (toV (R_call (G.ok .is_name) hr rfl (TT.mgf .is_name rfl) (TT.fn .is_name).kp (TT.bn .is_name) (fun _ => px_gn) (Ao_cons (toG (R_var (pv 1))) Ao_nil rfl) rfl rfl)))))))))) (Ss_cons (S_ret (toR V_bl)) Ss_nil) Ss_nil) (Ss_cons (S_if (T_cmpH (op_nTt rfl (ru64 hr)) rfl (toH (toR (V_fldv rfl CT.c_Format CT.k_Format (by decide +kernel : ("root" : Str) ∈ (["root", "definitions"] : List Str)) (pv 0) rfl))) (toH (toR (V_fldv rfl CT.c_Format CT.k_Format (by decide +kernel : ("definitions" : Str) ∈ (["root", "definitions"] : List Str)) (pv 0) rfl)))) (Ss_cons (S_ret (toR V_bl)) Ss_nil) Ss_nil) (Ss_cons (S_for PassesOwn.leaving rfl (I_seq rfl (toV (R_meth0 (G.ok .Format_names) hr (TT.bn .Format_names) px_top (pv 0) CT.c_Format CT.k_Format.cls CT.m_Format_names rfl))) (G_name (pg_name (i := 1) sc_is_shaped.nd rfl (by first | exact Or.inl rfl | exact Or.inr rfl))) (Ss_cons (S_asg_core (fun _ _ _ h => h) (ps_set (i := 2) sc_is_shaped.nd rfl (by first | exact Or.inl rfl | exact Or.inr rfl) (R_meth (G.ok .Format_of) hr (TT.bn .Format_of) px_top (pv 0) CT.c_Format CT.k_Format.cls CT.m_Format_of (Ao_cons (toG (R_var (pv 1))) Ao_nil rfl) rfl rfl))) (Ss_cons (S_if (PW.pt (W_or (T_not (T_tru rfl (fun _ => rfl) (toH (R_call (G.ok .is_definition) hr rfl (TT.mgf .is_definition rfl) (TT.fn .is_definition).kp (TT.bn .is_definition) px_top (Ao_cons (toG (R_var (pv 2))) Ao_nil rfl) rfl rfl)))) (W_or1 (T_not (T_tru rfl (fun _ => rfl) (toH (R_all (own := [("other", 3)]) stores_nm (GT.t .is_shaped rfl) hr1 rfl (nob_all TT) (GT.b .is_shaped rfl) hcd ⟨blkOk_by (own := [("other", 3)]) (N := n_is_shaped) (sc := defScope (fam.st .is_shaped)) (by decide +kernel), rfl, by decide +kernel, rfl⟩ sc_is_shaped.nd (I_seq rfl (toV (R_call (G.ok .types_of) hr rfl (TT.mgf .types_of rfl) (TT.fn .types_of).kp (TT.bn .types_of) px_top (Ao_cons (toG (R_var (pv 2))) Ao_nil rfl) rfl rfl))) (fun _ _ _ _ _ _ hr => (G_name (pg_name (i := 3) sc_is_shaped.nd rfl (by first | exact Or.inl rfl | exact Or.inr rfl)))) (fun _ _ _ _ _ _ hr => (cmpH (op_inTt rfl (ru64 hr)) rfl (toH (R_var (pv 3))) (toH (toR (V_fldv rfl CT.c_Format CT.k_Format (by decide +kernel : ("definitions" : Str) ∈ (["root", "definitions"] : List Str)) (pv 0) rfl))))) (fun _ => rfl)))))))) (Ss_cons (S_ret (toR V_bl)) Ss_nil) Ss_nil) Ss_nil)) rfl (fun _ => rfl)) (Ss_cons (S_ret (toR V_bl)) Ss_nil))))
@[simp] def s_l_cell_1a1 (r : Fi → DR) : DS := dRet (dR (dSubv 0 (dV false (dVar 1))))
@[simp] def s_l_cell_1 (r : Fi → DR) : DS := dIfS (dCmpT ltT (dH (dVar 1)) (dH (dU1 lenT (dH (dVar 0))))) (dSs [s_l_cell_1a1 r]) (dSs [])
@[simp] def s_l_cell_2 (r : Fi → DR) : DS := dRet (dR (dC (.int 0)))
def b_l_cell (r : Fi → DR) : DS := dSs [s_l_cell_1 r, s_l_cell_2 r]
theorem b_l_cell_ok (G : FamOk fam.toFam P w K mg base ⟨K, cl, fx, tb⟩ ad fdt k r) (TT : FamTopC fam K mg ad fdt) (CN : Cn mg) (CT : Ct cl K mg ad cc_Format) (GT : GTab gx mg base tb fdt tc tp) (hr1 : Room (k + 1) (A.deeper (PyProof.Rows.envOfC "_law_cell" (defScope (fam.st .l_cell)) s.heap.objs.size f cdv))) :
    PSs (cxOf (L2.CX P w) P w K mg base n_l_cell "_law_cell" (defScope (fam.st .l_cell)) f cdv A outer s H E) (defBody (fam.st .l_cell)) (tS ⟨K, cl, fx, tb⟩ (fun e d _ H' => E e d H') io_l_cell (b_l_cell r)) :=
  have hr : Room k (A.deeper (PyProof.Rows.envOfC "_law_cell" (defScope (fam.st .l_cell)) s.heap.objs.size f cdv)) := hr1.mono (Nat.le_succ k)
  (Ss_cons (S_if (T_cmpH (op_ltTop rfl (ru0 hr)) rfl (toH (R_var (pv 1))) (toH (b_len rfl rfl (nob_len TT) (toH (R_var (pv 0))) rfl))) (Ss_cons (S_ret (toR (V_subv rfl (ru1 hr) (pv 0) (toV (R_var (pv 1))) (fun _ _ => rfl)))) Ss_nil) Ss_nil) (Ss_cons (S_ret (toR V_int)) Ss_nil))
@[simp] def s_l_digits_1 (r : Fi → DR) : DS := dAsg io_l_digits 3 (dLst (dVs []))
def s_l_digits_2l1 (r : Fi → DR) : DS := dAsg io_l_digits 5 (dCall (fdo r .l_cell) (dArgs false (fdo r .l_cell).io 0 [dVar 0, dVar 4]))
def s_l_digits_2l2a1 (r : Fi → DR) : DS := dAsg io_l_digits 5 (dB subT (dC (.int 1)) (dV false (dB mulT (dC (.int 2)) (dV false (dVar 5)))))
def s_l_digits_2l2 (r : Fi → DR) : DS := dIfS (dCmpT ltT (dH (dVar 5)) (dH (dR (dC (.int 0))))) (dSs [s_l_digits_2l2a1 r]) (dSs [])
def s_l_digits_2l3a1l1a1 (r : Fi → DR) : DS := dApp 3 (dV false (dB modT (dV false (dU1 intT (dH (dVar 5)))) (dC (.int 1000))))
def s_l_digits_2l3a1l1a2 (r : Fi → DR) : DS := dAsg io_l_digits 5 (dB fdivT (dV false (dVar 5)) (dC (.int 1000)))
def s_l_digits_2l3a1l1 (r : Fi → DR) : DS := dIfS (dCmpT gtT (dH (dVar 5)) (dH (dR (dC (.int 0))))) (dSs [s_l_digits_2l3a1l1a1 r, s_l_digits_2l3a1l1a2 r]) (dSs [])
def s_l_digits_2l3a1 (r : Fi → DR) : DS := dFor (sNm 6) (dItA dRng1 (dVs [dC (.int 60)])) (dSs [s_l_digits_2l3a1l1 r])
def s_l_digits_2l3b1 (r : Fi → DR) : DS := dAsg io_l_digits 7 (dB modT (dV false (dU1 intT (dH (dB addT (dV false (dB addT (dV false (dB mulT (dV false (dVar 5)) (dC (.int 48271)))) (dV false (dB mulT (dV false (dVar 4)) (dC (.int 69621)))))) (dC (.int 11)))))) (dC (.int 2147483647)))
def s_l_digits_2l3b2l1 (r : Fi → DR) : DS := dAsg io_l_digits 7 (dB modT (dV false (dU1 intT (dH (dB addT (dV false (dB addT (dV false (dB mulT (dV false (dVar 7)) (dC (.int 16807)))) (dV false (dB mulT (dC (.int 7)) (dV false (dVar 6)))))) (dC (.int 1)))))) (dC (.int 2147483647)))
def s_l_digits_2l3b2l2 (r : Fi → DR) : DS := dApp 3 (dV false (dB modT (dV false (dU1 intT (dH (dB fdivT (dV false (dVar 7)) (dC (.int 997)))))) (dC (.int 1000))))
def s_l_digits_2l3b2 (r : Fi → DR) : DS := dFor (sNm 6) (dItA dRng1 (dVs [dC (.int 12)])) (dSs [s_l_digits_2l3b2l1 r, s_l_digits_2l3b2l2 r])
def s_l_digits_2l3 (r : Fi → DR) : DS := dIfS (dCmpT geT (dH (dVar 5)) (dH (dB powT (dC (.int 10)) (dC (.int 18))))) (dSs [s_l_digits_2l3a1 r]) (dSs [s_l_digits_2l3b1 r, s_l_digits_2l3b2 r])
@[simp] def s_l_digits_2 (r : Fi → DR) : DS := dFor (sNm 4) (dItA dRng2 (dVs [dV false (dVar 1), dV false (dVar 2)])) (dSs [s_l_digits_2l1 r, s_l_digits_2l2 r, s_l_digits_2l3 r])
@[simp] def s_l_digits_3 (r : Fi → DR) : DS := dRet (dVar 3)
def b_l_digits (r : Fi → DR) : DS := dSs [s_l_digits_1 r, s_l_digits_2 r, s_l_digits_3 r]
theorem b_l_digits_ok (G : FamOk fam.toFam P w K mg base ⟨K, cl, fx, tb⟩ ad fdt k r) (TT : FamTopC fam K mg ad fdt) (CN : Cn mg) (CT : Ct cl K mg ad cc_Format) (GT : GTab gx mg base tb fdt tc tp) (hr1 : Room (k + 1) (A.deeper (PyProof.Rows.envOfC "_law_digits" (defScope (fam.st .l_digits)) s.heap.objs.size f cdv))) :
    PSs (cxOf (L2.CX P w) P w K mg base n_l_digits "_law_digits" (defScope (fam.st .l_digits)) f cdv A outer s H E) (defBody (fam.st .l_digits)) (tS ⟨K, cl, fx, tb⟩ (fun e d _ H' => E e d H') io_l_digits (b_l_digits r)) :=
  have hr : Room k (A.deeper (PyProof.Rows.envOfC "_law_digits" (defScope (fam.st .l_digits)) s.heap.objs.size f cdv)) := hr1.mono (Nat.le_succ k)
  (Ss_cons (S_asg_core (fun _ _ _ h => h) (ps_set (i := 3) sc_l_digits.nd rfl (by first | exact Or.inl rfl | exact Or.inr rfl) (R_lst A_nil))) (Ss_cons (S_for PassesOwn.leaving rfl (I_range2 rfl (nob_range TT) (A_cons (toV (R_var (pv 1))) (A_cons (toV (R_var (pv 2))) A_nil rfl) rfl) rfl rfl) (G_name (pg_name (i := 4) sc_l_digits.nd rfl (by first | exact Or.inl rfl | exact Or.inr rfl))) (Ss_cons (S_asg_core (fun _ _ _ h => h) (ps_set (i := 5) sc_l_digits.nd rfl (by first | exact Or.inl rfl | exact Or.inr rfl) (R_call (G.ok .l_cell) hr rfl (TT.mgf .l_cell rfl) (TT.fn .l_cell).kp (TT.bn .l_cell) px_top (Ao_cons (toG (R_var (pv 0))) (Ao_cons (toG (R_var (pv 4))) Ao_nil rfl) rfl) rfl rfl))) (Ss_cons (S_if (T_cmpH (op_ltTop rfl (ru0 hr)) rfl (toH (R_var (pv 5))) (toH (toR V_int))) (Ss_cons (S_asg_core (fun _ _ _ h => h) (ps_set (i := 5) sc_l_digits.nd rfl (by first | exact Or.inl rfl | exact Or.inr rfl) (R_bin (op_subT) V_int (toV (R_bin (op_mulT) V_int (toV (R_var (pv 5)))))))) Ss_nil) Ss_nil) (Ss_cons (S_if (T_cmpH (op_geTop) rfl (toH (R_var (pv 5))) (toH (R_bin (op_powT) V_int V_int))) (Ss_cons (S_for PassesOwn.leaving rfl (I_range1 rfl (nob_range TT) (A_cons V_int A_nil rfl) rfl) (G_name (pg_name (i := 6) sc_l_digits.nd rfl (by first | exact Or.inl rfl | exact Or.inr rfl))) (Ss_cons (S_if (T_cmpH (op_gtTop rfl (ru0 hr)) rfl (toH (R_var (pv 5))) (toH (toR V_int))) (Ss_cons (S_app (pv 3) (toV (R_bin (op_modT) (toV (b_int rfl (nob_int TT) (toH (R_var (pv 5))) rfl)) V_int)) rfl (fun h => pe_bm PySem.F.plainAttrs_list PySem.F.slot_list_append PySem.F.type_list_append mt_append (pv 3) h) rfl) (Ss_cons (S_asg_core (fun _ _ _ h => h) (ps_set (i := 5) sc_l_digits.nd rfl (by first | exact Or.inl rfl | exact Or.inr rfl) (R_bin (op_fdivT) (toV (R_var (pv 5))) V_int))) Ss_nil)) Ss_nil) Ss_nil) rfl (fun _ => rfl)) Ss_nil) (Ss_cons (S_asg_core (fun _ _ _ h => h) (ps_set (i := 7) sc_l_digits.nd rfl (by first | exact Or.inl rfl | exact Or.inr rfl) (R_bin (op_modT) (toV (b_int rfl (nob_int TT) (toH (R_bin (op_addT rfl) (toV (R_bin (op_addT rfl) (toV (R_bin (op_mulT) (toV (R_var (pv 5))) V_int)) (toV (R_bin (op_mulT) (toV (R_var (pv 4))) V_int)))) V_int)) rfl)) V_int))) (Ss_cons (S_for PassesOwn.leaving rfl (I_range1 rfl (nob_range TT) (A_cons V_int A_nil rfl) rfl) (G_name (pg_name (i := 6) sc_l_digits.nd rfl (by first | exact Or.inl rfl | exact Or.inr rfl))) (Ss_cons (S_asg_core (fun _ _ _ h => h) (ps_set (i := 7) sc_l_digits.nd rfl (by first | exact Or.inl rfl | exact Or.inr rfl) (R_bin (op_modT) (toV (b_int rfl (nob_int TT) (toH (R_bin (op_addT rfl) (toV (R_bin (op_addT rfl) (toV (R_bin (op_mulT) (toV (R_var (pv 7))) V_int)) (toV (R_bin (op_mulT) V_int (toV (R_var (pv 6))))))) V_int)) rfl)) V_int))) (Ss_cons (S_app (pv 3) (toV (R_bin (op_modT) (toV (b_int rfl (nob_int TT) (toH (R_bin (op_fdivT) (toV (R_var (pv 7))) V_int)) rfl)) V_int)) rfl (fun h => pe_bm PySem.F.plainAttrs_list PySem.F.slot_list_append PySem.F.type_list_append mt_append (pv 3) h) rfl) Ss_nil)) rfl (fun _ => rfl)) Ss_nil))) Ss_nil))) rfl (fun _ => rfl)) (Ss_cons (S_ret (R_var (pv 3))) Ss_nil)))
@[simp] def s_l_draw_1 (r : Fi → DR) : DS := dAsg io_l_draw 2 (dR (dSubv 0 (dC (.int 1))))
@[simp] def s_l_draw_2 (r : Fi → DR) : DS := dSeti 0 (dV false (dB addT (dV false (dVar 2)) (dC (.int 1)))) (dC (.int 1))
@[simp] def s_l_draw_3a1 (r : Fi → DR) : DS := dRet (dB modT (dV false (dU1 intT (dH (dR (dSub (dSubv 0 (dC (.int 0))) (dV false (dVar 2))))))) (dV false (dVar 1)))
@[simp] def s_l_draw_3 (r : Fi → DR) : DS := dIfS (dCmpT ltT (dH (dVar 2)) (dH (dU1 lenT (dH (dR (dSubv 0 (dC (.int 0)))))))) (dSs [s_l_draw_3a1 r]) (dSs [])
@[simp] def s_l_draw_4 (r : Fi → DR) : DS := dRet (dR (dC (.int 0)))
def b_l_draw (r : Fi → DR) : DS := dSs [s_l_draw_1 r, s_l_draw_2 r, s_l_draw_3 r, s_l_draw_4 r]
theorem b_l_draw_ok (G : FamOk fam.toFam P w K mg base ⟨K, cl, fx, tb⟩ ad fdt k r) (TT : FamTopC fam K mg ad fdt) (CN : Cn mg) (CT : Ct cl K mg ad cc_Format) (GT : GTab gx mg base tb fdt tc tp) (hr1 : Room (k + 1) (A.deeper (PyProof.Rows.envOfC "_law_draw" (defScope (fam.st .l_draw)) s.heap.objs.size f cdv))) :
    PSs (cxOf (L2.CX P w) P w K mg base n_l_draw "_law_draw" (defScope (fam.st .l_draw)) f cdv A outer s H E) (defBody (fam.st .l_draw)) (tS ⟨K, cl, fx, tb⟩ (fun e d _ H' => E e d H') io_l_draw (b_l_draw r)) :=
  have hr : Room k (A.deeper (PyProof.Rows.envOfC "_law_draw" (defScope (fam.st .l_draw)) s.heap.objs.size f cdv)) := hr1.mono (Nat.le_succ k)
  (Ss_cons (S_asg_core (fun _ _ _ h => h) (ps_set (i := 2) sc_l_draw.nd rfl (by first | exact Or.inl rfl | exact Or.inr rfl) (toR (V_subv rfl (ru1 hr) (pv 0) V_int (fun _ _ => rfl))))) (Ss_cons (S_seti (ru1 hr) (toV (R_bin (op_addT rfl) (toV (R_var (pv 2))) V_int)) (pv 0) V_int rfl rfl (fun _ => rfl)) (Ss_cons (S_if (T_cmpH (op_ltTop rfl (ru0 hr)) rfl (toH (R_var (pv 2))) (toH (b_len rfl rfl (nob_len TT) (toH (toR (V_subv rfl (ru1 hr) (pv 0) V_int (fun _ _ => rfl)))) rfl))) (Ss_cons (S_ret (R_bin (op_modT) (toV (b_int rfl (nob_int TT) (toH (toR (V_sub rfl (ru1 hr) (V_subv rfl (ru1 hr) (pv 0) V_int (fun _ _ => rfl)) (toV (R_var (pv 2))) (fun _ _ => rfl)))) rfl)) (toV (R_var (pv 1))))) Ss_nil) Ss_nil) (Ss_cons (S_ret (toR V_int)) Ss_nil))))
@[simp] def s_l_kind_1 (r : Fi → DR) : DS := dAsg io_l_kind 2 (dCall (fdo r .l_draw) (dArgs false (fdo r .l_draw).io 0 [dVar 0, dR (dC (.int 6))]))
@[simp] def s_l_kind_2a1 (r : Fi → DR) : DS := dRet (dTup (dVs [dC (.str "any")]))
@[simp] def s_l_kind_2 (r : Fi → DR) : DS := dIfS (dCmpT eqT (dH (dVar 2)) (dH (dR (dC (.int 0))))) (dSs [s_l_kind_2a1 r]) (dSs [])
@[simp] def s_l_kind_3a1 (r : Fi → DR) : DS := dAsg io_l_kind 3 (dB subT (dV false (dCall (fdo r .l_draw) (dArgs false (fdo r .l_draw).io 0 [dVar 0, dR (dC (.int 12))]))) (dC (.int 6)))
@[simp] def s_l_kind_3a2 (r : Fi → DR) : DS := dRet (dTup (dVs [dC (.str "integer"), dV false (dVar 3), dV false (dB addT (dV false (dVar 3)) (dV false (dCall (fdo r .l_draw) (dArgs false (fdo r .l_draw).io 0 [dVar 0, dR (dC (.int 8))]))))]))
@[simp] def s_l_kind_3 (r : Fi → DR) : DS := dIfS (dCmpT eqT (dH (dVar 2)) (dH (dR (dC (.int 1))))) (dSs [s_l_kind_3a1 r, s_l_kind_3a2 r]) (dSs [])
@[simp] def s_l_kind_4a1 (r : Fi → DR) : DS := dRet (dTup (dVs [dC (.str "text"), dV false (dCall (fdo r .l_draw) (dArgs false (fdo r .l_draw).io 0 [dVar 0, dR (dC (.int 4))]))]))
@[simp] def s_l_kind_4 (r : Fi → DR) : DS := dIfS (dCmpT eqT (dH (dVar 2)) (dH (dR (dC (.int 2))))) (dSs [s_l_kind_4a1 r]) (dSs [])
@[simp] def s_l_kind_5a1 (r : Fi → DR) : DS := dAsg io_l_kind 3 (dCall (fdo r .l_draw) (dArgs false (fdo r .l_draw).io 0 [dVar 0, dR (dC (.int 3))]))
@[simp] def s_l_kind_5a2 (r : Fi → DR) : DS := dRet (dTup (dVs [dC (.str "list"), dSub (dC (.str "abcd")) (dV false (dCall (fdo r .l_draw) (dArgs false (fdo r .l_draw).io 0 [dVar 0, dR (dC (.int 4))]))), dV false (dVar 3), dV false (dB addT (dV false (dVar 3)) (dV false (dCall (fdo r .l_draw) (dArgs false (fdo r .l_draw).io 0 [dVar 0, dR (dC (.int 3))]))))]))
@[simp] def s_l_kind_5 (r : Fi → DR) : DS := dIfS (dCmpT eqT (dH (dVar 2)) (dH (dR (dC (.int 3))))) (dSs [s_l_kind_5a1 r, s_l_kind_5a2 r]) (dSs [])
@[simp] def s_l_kind_6a1 (r : Fi → DR) : DS := dRet (dTup (dVs [dC (.str "record"), dV false (dTup (dVs []))]))
@[simp] def s_l_kind_6 (r : Fi → DR) : DS := dIfS (dCmpT eqT (dH (dVar 2)) (dH (dR (dC (.int 4))))) (dSs [s_l_kind_6a1 r]) (dSs [])
@[simp] def s_l_kind_7 (r : Fi → DR) : DS := dRet (dTup (dVs [dC (.str "choice"), dV false (dTup (dVs [dV false (dTup (dVs [dC (.str "t"), dSub (dC (.str "abcd")) (dV false (dCall (fdo r .l_draw) (dArgs false (fdo r .l_draw).io 0 [dVar 0, dR (dC (.int 4))])))]))])), dC .non]))
def b_l_kind (r : Fi → DR) : DS := dSs [s_l_kind_1 r, s_l_kind_2 r, s_l_kind_3 r, s_l_kind_4 r, s_l_kind_5 r, s_l_kind_6 r, s_l_kind_7 r]
theorem b_l_kind_ok (G : FamOk fam.toFam P w K mg base ⟨K, cl, fx, tb⟩ ad fdt k r) (TT : FamTopC fam K mg ad fdt) (CN : Cn mg) (CT : Ct cl K mg ad cc_Format) (GT : GTab gx mg base tb fdt tc tp) (hr1 : Room (k + 1) (A.deeper (PyProof.Rows.envOfC "_law_kind" (defScope (fam.st .l_kind)) s.heap.objs.size f cdv))) :
    PSs (cxOf (L2.CX P w) P w K mg base n_l_kind "_law_kind" (defScope (fam.st .l_kind)) f cdv A outer s H E) (defBody (fam.st .l_kind)) (tS ⟨K, cl, fx, tb⟩ (fun e d _ H' => E e d H') io_l_kind (b_l_kind r)) :=
  have hr : Room k (A.deeper (PyProof.Rows.envOfC "_law_kind" (defScope (fam.st .l_kind)) s.heap.objs.size f cdv)) := hr1.mono (Nat.le_succ k)
  (Ss_cons (S_asg_core (fun _ _ _ h => h) (ps_set (i := 2) sc_l_kind.nd rfl (by first | exact Or.inl rfl | exact Or.inr rfl) (R_call (G.ok .l_draw) hr rfl (TT.mgf .l_draw rfl) (TT.fn .l_draw).kp (TT.bn .l_draw) px_top (Ao_cons (toG (R_var (pv 0))) (Ao_cons (toG (toR V_int)) Ao_nil rfl) rfl) rfl rfl))) (Ss_cons (S_if (T_cmpH (op_eqTt rfl (ru64 hr)) rfl (toH (R_var (pv 2))) (toH (toR V_int))) (Ss_cons (S_ret (R_tup (A_cons V_str A_nil rfl))) Ss_nil) Ss_nil) (Ss_cons (S_if (T_cmpH (op_eqTt rfl (ru64 hr)) rfl (toH (R_var (pv 2))) (toH (toR V_int))) (Ss_cons (S_asg_core (fun _ _ _ h => h) (ps_set (i := 3) sc_l_kind.nd rfl (by first | exact Or.inl rfl | exact Or.inr rfl) (R_bin (op_subT) (toV (R_call (G.ok .l_draw) hr rfl (TT.mgf .l_draw rfl) (TT.fn .l_draw).kp (TT.bn .l_draw) px_top (Ao_cons (toG (R_var (pv 0))) (Ao_cons (toG (toR V_int)) Ao_nil rfl) rfl) rfl rfl)) V_int))) (Ss_cons (S_ret (R_tup (A_cons V_str (A_cons (toV (R_var (pv 3))) (A_cons (toV (R_bin (op_addT rfl) (toV (R_var (pv 3))) (toV (R_call (G.ok .l_draw) hr rfl (TT.mgf .l_draw rfl) (TT.fn .l_draw).kp (TT.bn .l_draw) px_top (Ao_cons (toG (R_var (pv 0))) (Ao_cons (toG (toR V_int)) Ao_nil rfl) rfl) rfl rfl)))) A_nil rfl) rfl) rfl))) Ss_nil)) Ss_nil) (Ss_cons (S_if (T_cmpH (op_eqTt rfl (ru64 hr)) rfl (toH (R_var (pv 2))) (toH (toR V_int))) (Ss_cons (S_ret (R_tup (A_cons V_str (A_cons (toV (R_call (G.ok .l_draw) hr rfl (TT.mgf .l_draw rfl) (TT.fn .l_draw).kp (TT.bn .l_draw) px_top (Ao_cons (toG (R_var (pv 0))) (Ao_cons (toG (toR V_int)) Ao_nil rfl) rfl) rfl rfl)) A_nil rfl) rfl))) Ss_nil) Ss_nil) (Ss_cons (S_if (T_cmpH (op_eqTt rfl (ru64 hr)) rfl (toH (R_var (pv 2))) (toH (toR V_int))) (Ss_cons (S_asg_core (fun _ _ _ h => h) (ps_set (i := 3) sc_l_kind.nd rfl (by first | exact Or.inl rfl | exact Or.inr rfl) (R_call (G.ok .l_draw) hr rfl (TT.mgf .l_draw rfl) (TT.fn .l_draw).kp (TT.bn .l_draw) px_top (Ao_cons (toG (R_var (pv 0))) (Ao_cons (toG (toR V_int)) Ao_nil rfl) rfl) rfl rfl))) (Ss_cons (S_ret (R_tup (A_cons V_str (A_cons (V_sub rfl (ru1 hr) V_str (toV (R_call (G.ok .l_draw) hr rfl (TT.mgf .l_draw rfl) (TT.fn .l_draw).kp (TT.bn .l_draw) px_top (Ao_cons (toG (R_var (pv 0))) (Ao_cons (toG (toR V_int)) Ao_nil rfl) rfl) rfl rfl)) (fun _ _ => rfl)) (A_cons (toV (R_var (pv 3))) (A_cons (toV (R_bin (op_addT rfl) (toV (R_var (pv 3))) (toV (R_call (G.ok .l_draw) hr rfl (TT.mgf .l_draw rfl) (TT.fn .l_draw).kp (TT.bn .l_draw) px_top (Ao_cons (toG (R_var (pv 0))) (Ao_cons (toG (toR V_int)) Ao_nil rfl) rfl) rfl rfl)))) A_nil rfl) rfl) rfl) rfl))) Ss_nil)) Ss_nil) (Ss_cons (S_if (T_cmpH (op_eqTt rfl (ru64 hr)) rfl (toH (R_var (pv 2))) (toH (toR V_int))) (Ss_cons (S_ret (R_tup (A_cons V_str (A_cons (toV (R_tup A_nil)) A_nil rfl) rfl))) Ss_nil) Ss_nil) (Ss_cons (S_ret (R_tup (A_cons V_str (A_cons (toV (R_tup (A_cons (toV (R_tup (A_cons V_str (A_cons (V_sub rfl (ru1 hr) V_str (toV (R_call (G.ok .l_draw) hr rfl (TT.mgf .l_draw rfl) (TT.fn .l_draw).kp (TT.bn .l_draw) px_top (Ao_cons (toG (R_var (pv 0))) (Ao_cons (toG (toR V_int)) Ao_nil rfl) rfl) rfl rfl)) (fun _ _ => rfl)) A_nil rfl) rfl))) A_nil rfl))) (A_cons V_non A_nil rfl) rfl) rfl))) Ss_nil)))))))
@[simp] def s_l_some_1a1 (r : Fi → DR) : DS := dRet (dR (dSubv 0 (dC (.int 1))))
@[simp] def s_l_some_1 (r : Fi → DR) : DS := dIfS (dCmpT eqT (dH (dR (dSubv 0 (dC (.int 0))))) (dH (dR (dC (.str "integer"))))) (dSs [s_l_some_1a1 r]) (dSs [])
@[simp] def s_l_some_2a1 (r : Fi → DR) : DS := dRet (dSlc (dC (.str "abz")) (dONone) (dOSome (dV false (dUn min2T (dVs [dSubv 0 (dC (.int 1)), dV false (dVar 1)])))))
@[simp] def s_l_some_2 (r : Fi → DR) : DS := dIfS (dCmpT eqT (dH (dR (dSubv 0 (dC (.int 0))))) (dH (dR (dC (.str "text"))))) (dSs [s_l_some_2a1 r]) (dSs [])
@[simp] def s_l_some_3a1 (r : Fi → DR) : DS := dRet (dLst (dVs []))
@[simp] def s_l_some_3 (r : Fi → DR) : DS := dIfS (dAnd (dCmpT eqT (dH (dR (dSubv 0 (dC (.int 0))))) (dH (dR (dC (.str "list"))))) (dCmpT eqT (dH (dR (dSubv 0 (dC (.int 2))))) (dH (dR (dC (.int 0)))))) (dSs [s_l_some_3a1 r]) (dSs [])
@[simp] def s_l_some_4a1 (r : Fi → DR) : DS := dRet (dR (dC .non))
@[simp] def s_l_some_4 (r : Fi → DR) : DS := dIfS (dCmpT eqT (dH (dR (dSubv 0 (dC (.int 0))))) (dH (dR (dC (.str "record"))))) (dSs [s_l_some_4a1 r]) (dSs [])
@[simp] def s_l_some_5a1 (r : Fi → DR) : DS := dRet (dR (dSub (dV false (dLst (dVs [dC (.int 3), dC (.str "ab"), dV false (dLst (dVs [dC (.int 1), dC (.str "z")])), dV false (dDct ["a", "b"] [dC (.int 1), dV false (dTup (dVs [dC (.str "t"), dC (.int 0)]))]), dV false (dTup (dVs [dC (.str "t"), dU negT (dH (dR (dC (.int 5))))]))]))) (dV false (dVar 1))))
@[simp] def s_l_some_5 (r : Fi → DR) : DS := dIfS (dCmpT eqT (dH (dR (dSubv 0 (dC (.int 0))))) (dH (dR (dC (.str "any"))))) (dSs [s_l_some_5a1 r]) (dSs [])
@[simp] def s_l_some_6 (r : Fi → DR) : DS := dRet (dR (dC .non))
def b_l_some (r : Fi → DR) : DS := dSs [s_l_some_1 r, s_l_some_2 r, s_l_some_3 r, s_l_some_4 r, s_l_some_5 r, s_l_some_6 r]
theorem b_l_some_ok (G : FamOk fam.toFam P w K mg base ⟨K, cl, fx, tb⟩ ad fdt k r) (TT : FamTopC fam K mg ad fdt) (CN : Cn mg) (CT : Ct cl K mg ad cc_Format) (GT : GTab gx mg base tb fdt tc tp) (hr1 : Room (k + 1) (A.deeper (PyProof.Rows.envOfC "_law_some" (defScope (fam.st .l_some)) s.heap.objs.size f cdv))) :
    PSs (cxOf (L2.CX P w) P w K mg base n_l_some "_law_some" (defScope (fam.st .l_some)) f cdv A outer s H E) (defBody (fam.st .l_some)) (tS ⟨K, cl, fx, tb⟩ (fun e d _ H' => E e d H') io_l_some (b_l_some r)) :=
  have hr : Room k (A.deeper (PyProof.Rows.envOfC "_law_some" (defScope (fam.st .l_some)) s.heap.objs.size f cdv)) := hr1.mono (Nat.le_succ k)
  (Ss_cons (S_if (T_cmpH (op_eqTt rfl (ru64 hr)) rfl (toH (toR (V_subv rfl (ru1 hr) (pv 0) V_int (fun _ _ => rfl)))) (toH (toR V_str))) (Ss_cons (S_ret (toR (V_subv rfl (ru1 hr) (pv 0) V_int (fun _ _ => rfl)))) Ss_nil) Ss_nil) (Ss_cons (S_if (T_cmpH (op_eqTt rfl (ru64 hr)) rfl (toH (toR (V_subv rfl (ru1 hr) (pv 0) V_int (fun _ _ => rfl)))) (toH (toR V_str))) (Ss_cons (S_ret (R_slc rfl V_str O_none (O_some (toV (b_min2 rfl rfl (nob_min TT) (A_cons (V_subv rfl (ru1 hr) (pv 0) V_int (fun _ _ => rfl)) (A_cons (toV (R_var (pv 1))) A_nil rfl) rfl) rfl))))) Ss_nil) Ss_nil) (Ss_cons (S_if (PW.pt (W_and (T_cmpH (op_eqTt rfl (ru64 hr)) rfl (toH (toR (V_subv rfl (ru1 hr) (pv 0) V_int (fun _ _ => rfl)))) (toH (toR V_str))) (W_and1 (T_cmpH (op_eqTt rfl (ru64 hr)) rfl (toH (toR (V_subv rfl (ru1 hr) (pv 0) V_int (fun _ _ => rfl)))) (toH (toR V_int)))))) (Ss_cons (S_ret (R_lst A_nil)) Ss_nil) Ss_nil) (Ss_cons (S_if (T_cmpH (op_eqTt rfl (ru64 hr)) rfl (toH (toR (V_subv rfl (ru1 hr) (pv 0) V_int (fun _ _ => rfl)))) (toH (toR V_str))) (Ss_cons (S_ret (toR V_non)) Ss_nil) Ss_nil) (Ss_cons (S_if (T_cmpH (op_eqTt rfl (ru64 hr)) rfl (toH (toR (V_subv rfl (ru1 hr) (pv 0) V_int (fun _ _ => rfl)))) (toH (toR V_str))) (Ss_cons (S_ret (toR (V_sub rfl (ru1 hr) (toV (R_lst (A_cons V_int (A_cons V_str (A_cons (toV (R_lst (A_cons V_int (A_cons V_str A_nil rfl) rfl))) (A_cons (toV (R_dct (pps_cons pe_str V_int (pps_cons pe_str (toV (R_tup (A_cons V_str (A_cons V_int A_nil rfl) rfl))) pps_nil)) rfl (by decide +kernel) rfl rfl (by simp) (by decide) (by decide))) (A_cons (toV (R_tup (A_cons V_str (A_cons (neg_ok (toH (toR V_int))) A_nil rfl) rfl))) A_nil rfl) rfl) rfl) rfl) rfl))) (toV (R_var (pv 1))) (fun _ _ => rfl)))) Ss_nil) Ss_nil) (Ss_cons (S_ret (toR V_non)) Ss_nil))))))
@[simp] def s_l_defs_1 (r : Fi → DR) : DS := dAsg io_l_defs 1 (dDct0)
def s_l_defs_2l1 (r : Fi → DR) : DS := dSeti 1 (dV false (dCall (fdo r .l_kind) (dArgs false (fdo r .l_kind).io 0 [dVar 0, dVar 2]))) (dV false (dVar 2))
@[simp] def s_l_defs_2 (r : Fi → DR) : DS := dFor (sNm 2) (dItV (dC (.str "abcd"))) (dSs [s_l_defs_2l1 r])
def s_l_defs_3l1a1 (r : Fi → DR) : DS := dAsg io_l_defs 3 (dLst (dVs []))
def s_l_defs_3l1a2l1 (r : Fi → DR) : DS := dAsg io_l_defs 5 (dR (dSub (dC (.str "abcd")) (dV false (dCall (fdo r .l_draw) (dArgs false (fdo r .l_draw).io 0 [dVar 0, dR (dC (.int 4))])))))
def s_l_defs_3l1a2l2 (r : Fi → DR) : DS := dAsg io_l_defs 6 (dCall (fdo r .l_some) (dArgs false (fdo r .l_some).io 0 [dR (dSubv 1 (dV false (dVar 5))), dCall (fdo r .l_draw) (dArgs false (fdo r .l_draw).io 0 [dVar 0, dR (dC (.int 5))])]))
def s_l_defs_3l1a2l3 (r : Fi → DR) : DS := dAsg io_l_defs 7 (dCall (fdo r .l_draw) (dArgs false (fdo r .l_draw).io 0 [dVar 0, dR (dC (.int 5))]))
def s_l_defs_3l1a2l4a1 (r : Fi → DR) : DS := dApp 3 (dV false (dTup (dVs [dSub (dV false (dLst (dVs [dC (.str "f"), dC (.str "g"), dC (.str "optional"), dC (.str "root")]))) (dV false (dVar 4)), dV false (dVar 5), dC (.str "required")])))
def s_l_defs_3l1a2l4b1a1 (r : Fi → DR) : DS := dApp 3 (dV false (dTup (dVs [dSub (dV false (dLst (dVs [dC (.str "f"), dC (.str "g"), dC (.str "optional"), dC (.str "root")]))) (dV false (dVar 4)), dV false (dVar 5), dC (.str "optional")])))
def s_l_defs_3l1a2l4b1b1a1 (r : Fi → DR) : DS := dApp 3 (dV false (dTup (dVs [dSub (dV false (dLst (dVs [dC (.str "f"), dC (.str "g"), dC (.str "optional"), dC (.str "root")]))) (dV false (dVar 4)), dV false (dVar 5), dC (.str "default"), dV false (dVar 6)])))
def s_l_defs_3l1a2l4b1b1 (r : Fi → DR) : DS := dIfS (dAnd (dCmpT eqT (dH (dVar 7)) (dH (dR (dC (.int 2))))) (dTst (fun t => some (!isNonT t)) (dH (dVar 6)))) (dSs [s_l_defs_3l1a2l4b1b1a1 r]) (dSs [])
def s_l_defs_3l1a2l4b1 (r : Fi → DR) : DS := dIfS (dCmpT eqT (dH (dVar 7)) (dH (dR (dC (.int 1))))) (dSs [s_l_defs_3l1a2l4b1a1 r]) (dSs [s_l_defs_3l1a2l4b1b1 r])
def s_l_defs_3l1a2l4 (r : Fi → DR) : DS := dIfS (dCmpT eqT (dH (dVar 7)) (dH (dR (dC (.int 0))))) (dSs [s_l_defs_3l1a2l4a1 r]) (dSs [s_l_defs_3l1a2l4b1 r])
def s_l_defs_3l1a2 (r : Fi → DR) : DS := dFor (sNm 4) (dItA dRng1 (dVs [dC (.int 4)])) (dSs [s_l_defs_3l1a2l1 r, s_l_defs_3l1a2l2 r, s_l_defs_3l1a2l3 r, s_l_defs_3l1a2l4 r])
def s_l_defs_3l1a3 (r : Fi → DR) : DS := dSeti 1 (dV false (dTup (dVs [dC (.str "record"), dV false (dUn tupleT (dVs [dV false (dVar 3)]))]))) (dV false (dVar 2))
def s_l_defs_3l1b1a1 (r : Fi → DR) : DS := dAsg io_l_defs 8 (dLc (sNm 10) [10] (dItV (dSub (dSubv 1 (dV false (dVar 2))) (dC (.int 1)))) (dYes) (dV false (dVar 10)))
def s_l_defs_3l1b1a2a1 (r : Fi → DR) : DS := dApp 8 (dV false (dTup (dVs [dC (.str "u"), dSub (dC (.str "abcd")) (dV false (dCall (fdo r .l_draw) (dArgs false (fdo r .l_draw).io 0 [dVar 0, dR (dC (.int 4))])))])))
def s_l_defs_3l1b1a2 (r : Fi → DR) : DS := dIfS (dCmpT eqT (dH (dCall (fdo r .l_draw) (dArgs false (fdo r .l_draw).io 0 [dVar 0, dR (dC (.int 2))]))) (dH (dR (dC (.int 0))))) (dSs [s_l_defs_3l1b1a2a1 r]) (dSs [])
def s_l_defs_3l1b1a3 (r : Fi → DR) : DS := dAsg io_l_defs 9 (dR (dC .non))
def s_l_defs_3l1b1a4 (r : Fi → DR) : DS := dAsg io_l_defs 6 (dCall (fdo r .l_some) (dArgs false (fdo r .l_some).io 0 [dR (dSubv 1 (dSub (dSubv 8 (dC (.int 0))) (dC (.int 1)))), dCall (fdo r .l_draw) (dArgs false (fdo r .l_draw).io 0 [dVar 0, dR (dC (.int 5))])]))
def s_l_defs_3l1b1a5a1 (r : Fi → DR) : DS := dAsg io_l_defs 9 (dTup (dVs [dC (.str "t"), dV false (dVar 6)]))
def s_l_defs_3l1b1a5 (r : Fi → DR) : DS := dIfS (dAnd (dTst (fun t => some (!isNonT t)) (dH (dVar 6))) (dCmpT eqT (dH (dCall (fdo r .l_draw) (dArgs false (fdo r .l_draw).io 0 [dVar 0, dR (dC (.int 2))]))) (dH (dR (dC (.int 0)))))) (dSs [s_l_defs_3l1b1a5a1 r]) (dSs [])
def s_l_defs_3l1b1a6 (r : Fi → DR) : DS := dSeti 1 (dV false (dTup (dVs [dC (.str "choice"), dV false (dUn tupleT (dVs [dV false (dVar 8)])), dV false (dVar 9)]))) (dV false (dVar 2))
def s_l_defs_3l1b1 (r : Fi → DR) : DS := dIfS (dCmpT eqT (dH (dR (dSub (dSubv 1 (dV false (dVar 2))) (dC (.int 0))))) (dH (dR (dC (.str "choice"))))) (dSs [s_l_defs_3l1b1a1 r, s_l_defs_3l1b1a2 r, s_l_defs_3l1b1a3 r, s_l_defs_3l1b1a4 r, s_l_defs_3l1b1a5 r, s_l_defs_3l1b1a6 r]) (dSs [])
def s_l_defs_3l1 (r : Fi → DR) : DS := dIfS (dCmpT eqT (dH (dR (dSub (dSubv 1 (dV false (dVar 2))) (dC (.int 0))))) (dH (dR (dC (.str "record"))))) (dSs [s_l_defs_3l1a1 r, s_l_defs_3l1a2 r, s_l_defs_3l1a3 r]) (dSs [s_l_defs_3l1b1 r])
@[simp] def s_l_defs_3 (r : Fi → DR) : DS := dFor (sNm 2) (dItV (dC (.str "abcd"))) (dSs [s_l_defs_3l1 r])
@[simp] def s_l_defs_4 (r : Fi → DR) : DS := dRet (dVar 1)
def b_l_defs (r : Fi → DR) : DS := dSs [s_l_defs_1 r, s_l_defs_2 r, s_l_defs_3 r, s_l_defs_4 r]
theorem b_l_defs_ok (G : FamOk fam.toFam P w K mg base ⟨K, cl, fx, tb⟩ ad fdt k r) (TT : FamTopC fam K mg ad fdt) (CN : Cn mg) (CT : Ct cl K mg ad cc_Format) (GT : GTab gx mg base tb fdt tc tp) (hr1 : Room (k + 1) (A.deeper (PyProof.Rows.envOfC "_law_defs" (defScope (fam.st .l_defs)) s.heap.objs.size f cdv))) :
    PSs (cxOf (L2.CX P w) P w K mg base n_l_defs "_law_defs" (defScope (fam.st .l_defs)) f cdv A outer s H E) (defBody (fam.st .l_defs)) (tS ⟨K, cl, fx, tb⟩ (fun e d _ H' => E e d H') io_l_defs (b_l_defs r)) :=
  have hr : Room k (A.deeper (PyProof.Rows.envOfC "_law_defs" (defScope (fam.st .l_defs)) s.heap.objs.size f cdv)) := hr1.mono (Nat.le_succ k)
  (Ss_cons (S_asg_core (fun _ _ _ h => h) (ps_set (i := 1) sc_l_defs.nd rfl (by first | exact Or.inl rfl | exact Or.inr rfl) R_dct0)) (Ss_cons (S_for PassesOwn.leaving rfl (I_seq rfl V_str) (G_name (pg_name (i := 2) sc_l_defs.nd rfl (by first | exact Or.inl rfl | exact Or.inr rfl))) (Ss_cons (S_seti (ru1 hr) (toV (R_call (G.ok .l_kind) hr rfl (TT.mgf .l_kind rfl) (TT.fn .l_kind).kp (TT.bn .l_kind) px_top (Ao_cons (toG (R_var (pv 0))) (Ao_cons (toG (R_var (pv 2))) Ao_nil rfl) rfl) rfl rfl)) (pv 1) (toV (R_var (pv 2))) rfl rfl (fun _ => rfl)) Ss_nil) rfl (fun _ => rfl)) (Ss_cons (S_for PassesOwn.leaving rfl (I_seq rfl V_str) (G_name (pg_name (i := 2) sc_l_defs.nd rfl (by first | exact Or.inl rfl | exact Or.inr rfl))) (Ss_cons (S_if (T_cmpH (op_eqTt rfl (ru64 hr)) rfl (toH (toR (V_sub rfl (ru1 hr) (V_subv rfl (ru1 hr) (pv 1) (toV (R_var (pv 2))) (fun _ _ => rfl)) V_int (fun _ _ => rfl)))) (toH (toR V_str))) (Ss_cons (S_asg_core (fun _ _ _ h => h) (ps_set (i := 3) sc_l_defs.nd rfl (by first | exact Or.inl rfl | exact Or.inr rfl) (R_lst A_nil))) (Ss_cons (S_for PassesOwn.leaving rfl (I_range1 rfl (nob_range TT) (A_cons V_int A_nil rfl) rfl) (G_name (pg_name (i := 4) sc_l_defs.nd rfl (by first | exact Or.inl rfl | exact Or.inr rfl))) (Ss_cons (S_asg_core (fun _ _ _ h => h) (ps_set (i := 5) sc_l_defs.nd rfl (by first | exact Or.inl rfl | exact Or.inr rfl) (toR (V_sub rfl (ru1 hr) V_str (toV (R_call (G.ok .l_draw) hr rfl (TT.mgf .l_draw rfl) (TT.fn .l_draw).kp (TT.bn .l_draw) px_top (Ao_cons (toG (R_var (pv 0))) (Ao_cons (toG (toR V_int)) Ao_nil rfl) rfl) rfl rfl)) (fun _ _ => rfl))))) (Ss_cons (S_asg_core (fun _ _ _ h => h) (ps_set (i := 6) sc_l_defs.nd rfl (by first | exact Or.inl rfl | exact Or.inr rfl) (R_call (G.ok .l_some) hr rfl (TT.mgf .l_some rfl) (TT.fn .l_some).kp (TT.bn .l_some) px_top (Ao_cons (toG (toR (V_subv rfl (ru1 hr) (pv 1) (toV (R_var (pv 5))) (fun _ _ => rfl)))) (Ao_cons (toG (R_call (G.ok .l_draw) hr rfl (TT.mgf .l_draw rfl) (TT.fn .l_draw).kp (TT.bn .l_draw) px_top (Ao_cons (toG (R_var (pv 0))) (Ao_cons (toG (toR V_int)) Ao_nil rfl) rfl) rfl rfl)) Ao_nil rfl) rfl) rfl rfl))) (Ss_cons (S_asg_core (fun _ _ _ h => h) (ps_set (i := 7) sc_l_defs.nd rfl (by first | exact Or.inl rfl | exact Or.inr rfl) (R_call (G.ok .l_draw) hr rfl (TT.mgf .l_draw rfl) (TT.fn .l_draw).kp (TT.bn .l_draw) px_top (Ao_cons (toG (R_var (pv 0))) (Ao_cons (toG (toR V_int)) Ao_nil rfl) rfl) rfl rfl))) (Ss_cons (S_if (T_cmpH (op_eqTt rfl (ru64 hr)) rfl (toH (R_var (pv 7))) (toH (toR V_int))) (Ss_cons (S_app (pv 3) (toV (R_tup (A_cons (V_sub rfl (ru1 hr) (toV (R_lst (A_cons V_str (A_cons V_str (A_cons V_str (A_cons V_str A_nil rfl) rfl) rfl) rfl))) (toV (R_var (pv 4))) (fun _ _ => rfl)) (A_cons (toV (R_var (pv 5))) (A_cons V_str A_nil rfl) rfl) rfl))) rfl (fun h => pe_bm PySem.F.plainAttrs_list PySem.F.slot_list_append PySem.F.type_list_append mt_append (pv 3) h) rfl) Ss_nil) (Ss_cons (S_if (T_cmpH (op_eqTt rfl (ru64 hr)) rfl (toH (R_var (pv 7))) (toH (toR V_int))) (Ss_cons (S_app (pv 3) (toV (R_tup (A_cons (V_sub rfl (ru1 hr) (toV (R_lst (A_cons V_str (A_cons V_str (A_cons V_str (A_cons V_str A_nil rfl) rfl) rfl) rfl))) (toV (R_var (pv 4))) (fun _ _ => rfl)) (A_cons (toV (R_var (pv 5))) (A_cons V_str A_nil rfl) rfl) rfl))) rfl (fun h => pe_bm PySem.F.plainAttrs_list PySem.F.slot_list_append PySem.F.type_list_append mt_append (pv 3) h) rfl) Ss_nil) (Ss_cons (S_if (PW.pt (W_and (T_cmpH (op_eqTt rfl (ru64 hr)) rfl (toH (R_var (pv 7))) (toH (toR V_int))) (W_and1 (T_notN (toH (R_var (pv 6))))))) (Ss_cons (S_app (pv 3) (toV (R_tup (A_cons (V_sub rfl (ru1 hr) (toV (R_lst (A_cons V_str (A_cons V_str (A_cons V_str (A_cons V_str A_nil rfl) rfl) rfl) rfl))) (toV (R_var (pv 4))) (fun _ _ => rfl)) (A_cons (toV (R_var (pv 5))) (A_cons V_str (A_cons (toV (R_var (pv 6))) A_nil rfl) rfl) rfl) rfl))) rfl (fun h => pe_bm PySem.F.plainAttrs_list PySem.F.slot_list_append PySem.F.type_list_append mt_append (pv 3) h) rfl) Ss_nil) Ss_nil) Ss_nil)) Ss_nil)) Ss_nil)))) rfl (fun _ => rfl)) (Ss_cons (S_seti (ru1 hr) (toV (R_tup (A_cons V_str (A_cons (toV (b_tuple rfl rfl (nob_tuple TT) (A_cons (toV (R_var (pv 3))) A_nil rfl) rfl)) A_nil rfl) rfl))) (pv 1) (toV (R_var (pv 2))) rfl rfl (fun _ => rfl)) Ss_nil))) (Ss_cons (S_if (T_cmpH (op_eqTt rfl (ru64 hr)) rfl (toH (toR (V_sub rfl (ru1 hr) (V_subv rfl (ru1 hr) (pv 1) (toV (R_var (pv 2))) (fun _ _ => rfl)) V_int (fun _ _ => rfl)))) (toH (toR V_str))) (Ss_cons (S_lc (i := 8) (own := [("_law_case", 10)]) stores_nm rfl sc_l_defs.nd rfl rfl (sw_true rfl rfl rfl (by decide +kernel)) (I_seq rfl (V_sub rfl (ru1 hr) (V_subv rfl (ru1 hr) (pv 1) (toV (R_var (pv 2))) (fun _ _ => rfl)) V_int (fun _ _ => rfl))) (blkOk_by (own := [("_law_case", 10)]) (N := n_l_defs) (sc := defScope (fam.st .l_defs)) (by decide +kernel)) (fun _ _ _ _ _ => (G_name (pg_name (i := 10) sc_l_defs.nd rfl (by first | exact Or.inl rfl | exact Or.inr rfl)))) (fun _ _ _ _ _ => Ts_nil) (fun _ _ _ _ _ => (toV (R_var (pv 10)))) (fun _ => rfl)) (Ss_cons (S_if (T_cmpH (op_eqTt rfl (ru64 hr)) rfl (toH (R_call (G.ok .l_draw) hr rfl (TT.mgf .l_draw rfl) (TT.fn .l_draw).kp (TT.bn .l_draw) px_top (Ao_cons (toG (R_var (pv 0))) (Ao_cons (toG (toR V_int)) Ao_nil rfl) rfl) rfl rfl)) (toH (toR V_int))) (Ss_cons (S_app (pv 8) (toV (R_tup (A_cons V_str (A_cons (V_sub rfl (ru1 hr) V_str (toV (R_call (G.ok .l_draw) hr rfl (TT.mgf .l_draw rfl) (TT.fn .l_draw).kp (TT.bn .l_draw) px_top (Ao_cons (toG (R_var (pv 0))) (Ao_cons (toG (toR V_int)) Ao_nil rfl) rfl) rfl rfl)) (fun _ _ => rfl)) A_nil rfl) rfl))) rfl (fun h => pe_bm PySem.F.plainAttrs_list PySem.F.slot_list_append PySem.F.type_list_append mt_append (pv 8) h) rfl) Ss_nil) Ss_nil) (Ss_cons (S_asg_core (fun _ _ _ h => h) (ps_set (i := 9) sc_l_defs.nd rfl (by first | exact Or.inl rfl | exact Or.inr rfl) (toR V_non))) (Ss_cons (S_asg_core (fun _ _ _ h => h) (ps_set (i := 6) sc_l_defs.nd rfl (by first | exact Or.inl rfl | exact Or.inr rfl) (R_call (G.ok .l_some) hr rfl (TT.mgf .l_some rfl) (TT.fn .l_some).kp (TT.bn .l_some) px_top (Ao_cons (toG (toR (V_subv rfl (ru1 hr) (pv 1) (V_sub rfl (ru1 hr) (V_subv rfl (ru1 hr) (pv 8) V_int (fun _ _ => rfl)) V_int (fun _ _ => rfl)) (fun _ _ => rfl)))) (Ao_cons (toG (R_call (G.ok .l_draw) hr rfl (TT.mgf .l_draw rfl) (TT.fn .l_draw).kp (TT.bn .l_draw) px_top (Ao_cons (toG (R_var (pv 0))) (Ao_cons (toG (toR V_int)) Ao_nil rfl) rfl) rfl rfl)) Ao_nil rfl) rfl) rfl rfl))) (Ss_cons (S_if (PW.pt (W_and (T_notN (toH (R_var (pv 6)))) (W_and1 (T_cmpH (op_eqTt rfl (ru64 hr)) rfl (toH (R_call (G.ok .l_draw) hr rfl (TT.mgf .l_draw rfl) (TT.fn .l_draw).kp (TT.bn .l_draw) px_top (Ao_cons (toG (R_var (pv 0))) (Ao_cons (toG (toR V_int)) Ao_nil rfl) rfl) rfl rfl)) (toH (toR V_int)))))) (Ss_cons (S_asg_core (fun _ _ _ h => h) (ps_set (i := 9) sc_l_defs.nd rfl (by first | exact Or.inl rfl | exact Or.inr rfl) (R_tup (A_cons V_str (A_cons (toV (R_var (pv 6))) A_nil rfl) rfl)))) Ss_nil) Ss_nil) (Ss_cons (S_seti (ru1 hr) (toV (R_tup (A_cons V_str (A_cons (toV (b_tuple rfl rfl (nob_tuple TT) (A_cons (toV (R_var (pv 8))) A_nil rfl) rfl)) (A_cons (toV (R_var (pv 9))) A_nil rfl) rfl) rfl))) (pv 1) (toV (R_var (pv 2))) rfl rfl (fun _ => rfl)) Ss_nil)))))) Ss_nil) Ss_nil)) Ss_nil) rfl (fun _ => rfl)) (Ss_cons (S_ret (R_var (pv 1))) Ss_nil))))
@[simp] def s_l_types_1a1 (r : Fi → DR) : DS := dRet (dLst (dVs [dSubv 0 (dC (.int 1))]))
@[simp] def s_l_types_1 (r : Fi → DR) : DS := dIfS (dCmpT eqT (dH (dR (dSubv 0 (dC (.int 0))))) (dH (dR (dC (.str "list"))))) (dSs [s_l_types_1a1 r]) (dSs [])
@[simp] def s_l_types_2a1 (r : Fi → DR) : DS := dRet (dLc (sNm 1) [1] (dItV (dSubv 0 (dC (.int 1)))) (dYes) (dSubv 1 (dC (.int 1))))
@[simp] def s_l_types_2 (r : Fi → DR) : DS := dIfS (dOr (dCmpT eqT (dH (dR (dSubv 0 (dC (.int 0))))) (dH (dR (dC (.str "record"))))) (dCmpT eqT (dH (dR (dSubv 0 (dC (.int 0))))) (dH (dR (dC (.str "choice")))))) (dSs [s_l_types_2a1 r]) (dSs [])
@[simp] def s_l_types_3 (r : Fi → DR) : DS := dRet (dLst (dVs []))
def b_l_types (r : Fi → DR) : DS := dSs [s_l_types_1 r, s_l_types_2 r, s_l_types_3 r]
theorem b_l_types_ok (G : FamOk fam.toFam P w K mg base ⟨K, cl, fx, tb⟩ ad fdt k r) (TT : FamTopC fam K mg ad fdt) (CN : Cn mg) (CT : Ct cl K mg ad cc_Format) (GT : GTab gx mg base tb fdt tc tp) (hr1 : Room (k + 1) (A.deeper (PyProof.Rows.envOfC "_law_types" (defScope (fam.st .l_types)) s.heap.objs.size f cdv))) :
    PSs (cxOf (L2.CX P w) P w K mg base n_l_types "_law_types" (defScope (fam.st .l_types)) f cdv A outer s H E) (defBody (fam.st .l_types)) (tS ⟨K, cl, fx, tb⟩ (fun e d _ H' => E e d H') io_l_types (b_l_types r)) :=
  have hr : Room k (A.deeper (PyProof.Rows.envOfC "_law_types" (defScope (fam.st .l_types)) s.heap.objs.size f cdv)) := hr1.mono (Nat.le_succ k)
  (Ss_cons (S_if (T_cmpH (op_eqTt rfl (ru64 hr)) rfl (toH (toR (V_subv rfl (ru1 hr) (pv 0) V_int (fun _ _ => rfl)))) (toH (toR V_str))) (Ss_cons (S_ret (R_lst (A_cons (V_subv rfl (ru1 hr) (pv 0) V_int (fun _ _ => rfl)) A_nil rfl))) Ss_nil) Ss_nil) (Ss_cons (S_if (PW.pt (W_or (T_cmpH (op_eqTt rfl (ru64 hr)) rfl (toH (toR (V_subv rfl (ru1 hr) (pv 0) V_int (fun _ _ => rfl)))) (toH (toR V_str))) (W_or1 (T_cmpH (op_eqTt rfl (ru64 hr)) rfl (toH (toR (V_subv rfl (ru1 hr) (pv 0) V_int (fun _ _ => rfl)))) (toH (toR V_str)))))) (Ss_cons (S_ret (R_lc (own := [("_law_row", 1)]) stores_nm rfl sc_l_types.nd (I_seq rfl (V_subv rfl (ru1 hr) (pv 0) V_int (fun _ _ => rfl))) (blkOk_by (own := [("_law_row", 1)]) (N := n_l_types) (sc := defScope (fam.st .l_types)) (by decide +kernel)) (fun _ _ _ _ _ => (G_name (pg_name (i := 1) sc_l_types.nd rfl (by first | exact Or.inl rfl | exact Or.inr rfl)))) (fun _ _ _ _ _ => Ts_nil) (fun _ _ _ _ _ => (V_subv rfl (ru1 hr) (pv 1) V_int (fun _ _ => rfl))) (fun _ => rfl))) Ss_nil) Ss_nil) (Ss_cons (S_ret (R_lst A_nil)) Ss_nil)))
@[simp] def s_l_broken_1 (r : Fi → DR) : DS := dAsg io_l_broken 2 (dUn dictT (dVs [dV false (dVar 1)]))
@[simp] def s_l_broken_2 (r : Fi → DR) : DS := dAsg io_l_broken 3 (dCall (fdo r .l_draw) (dArgs false (fdo r .l_draw).io 0 [dVar 0, dR (dC (.int 8))]))
@[simp] def s_l_broken_3 (r : Fi → DR) : DS := dSeti 2 (dV false (dR (dSub (dV false (dLst (dVs [dV false (dTup (dVs [dC (.str "list"), dC (.str "q"), dC (.int 0), dC (.int 1)])), dV false (dTup (dVs [dC (.str "integer"), dC (.int 3), dC (.int 2)])), dV false (dTup (dVs [dC (.str "text"), dC (.int 10)])), dV false (dTup (dVs [dC (.str "list"), dC (.str "a"), dC (.int 2), dC (.int 1)])), dV false (dTup (dVs [dC (.str "record"), dV false (dTup (dVs [dV false (dTup (dVs [dC (.str "g"), dC (.str "a"), dC (.str "required")])), dV false (dTup (dVs [dC (.str "f"), dC (.str "a"), dC (.str "required")]))]))])), dV false (dTup (dVs [dC (.str "choice"), dV false (dTup (dVs [])), dC .non])), dV false (dTup (dVs [dC (.str "choice"), dV false (dTup (dVs [dV false (dTup (dVs [dC (.str "t"), dC (.str "a")])), dV false (dTup (dVs [dC (.str "t"), dC (.str "b")]))])), dC .non])), dV false (dTup (dVs [dC (.str "record"), dV false (dTup (dVs [dV false (dTup (dVs [dC (.str "F"), dC (.str "a"), dC (.str "optional")]))]))]))]))) (dV false (dVar 3))))) (dC (.str "a"))
@[simp] def s_l_broken_4 (r : Fi → DR) : DS := dRet (dVar 2)
def b_l_broken (r : Fi → DR) : DS := dSs [s_l_broken_1 r, s_l_broken_2 r, s_l_broken_3 r, s_l_broken_4 r]
theorem b_l_broken_ok (G : FamOk fam.toFam P w K mg base ⟨K, cl, fx, tb⟩ ad fdt k r) (TT : FamTopC fam K mg ad fdt) (CN : Cn mg) (CT : Ct cl K mg ad cc_Format) (GT : GTab gx mg base tb fdt tc tp) (hr1 : Room (k + 1) (A.deeper (PyProof.Rows.envOfC "_law_broken" (defScope (fam.st .l_broken)) s.heap.objs.size f cdv))) :
    PSs (cxOf (L2.CX P w) P w K mg base n_l_broken "_law_broken" (defScope (fam.st .l_broken)) f cdv A outer s H E) (defBody (fam.st .l_broken)) (tS ⟨K, cl, fx, tb⟩ (fun e d _ H' => E e d H') io_l_broken (b_l_broken r)) :=
  have hr : Room k (A.deeper (PyProof.Rows.envOfC "_law_broken" (defScope (fam.st .l_broken)) s.heap.objs.size f cdv)) := hr1.mono (Nat.le_succ k)
  (Ss_cons (S_asg_core (fun _ _ _ h => h) (ps_set (i := 2) sc_l_broken.nd rfl (by first | exact Or.inl rfl | exact Or.inr rfl) (b_dict rfl (nob_dict TT) (A_cons (toV (R_var (pv 1))) A_nil rfl) rfl))) (Ss_cons (S_asg_core (fun _ _ _ h => h) (ps_set (i := 3) sc_l_broken.nd rfl (by first | exact Or.inl rfl | exact Or.inr rfl) (R_call (G.ok .l_draw) hr rfl (TT.mgf .l_draw rfl) (TT.fn .l_draw).kp (TT.bn .l_draw) px_top (Ao_cons (toG (R_var (pv 0))) (Ao_cons (toG (toR V_int)) Ao_nil rfl) rfl) rfl rfl))) (Ss_cons (S_seti (ru1 hr) (toV (toR (V_sub rfl (ru1 hr) (toV (R_lst (A_cons (toV (R_tup (A_cons V_str (A_cons V_str (A_cons V_int (A_cons V_int A_nil rfl) rfl) rfl) rfl))) (A_cons (toV (R_tup (A_cons V_str (A_cons V_int (A_cons V_int A_nil rfl) rfl) rfl))) (A_cons (toV (R_tup (A_cons V_str (A_cons V_int A_nil rfl) rfl))) (A_cons (toV (R_tup (A_cons V_str (A_cons V_str (A_cons V_int (A_cons V_int A_nil rfl) rfl) rfl) rfl))) (A_cons (toV (R_tup (A_cons V_str (A_cons (toV (R_tup (A_cons (toV (R_tup (A_cons V_str (A_cons V_str (A_cons V_str A_nil rfl) rfl) rfl))) (A_cons (toV (R_tup (A_cons V_str (A_cons V_str (A_cons V_str A_nil rfl) rfl) rfl))) A_nil rfl) rfl))) A_nil rfl) rfl))) (A_cons (toV (R_tup (A_cons V_str (A_cons (toV (R_tup A_nil)) (A_cons V_non A_nil rfl) rfl) rfl))) (A_cons (toV (R_tup (A_cons V_str (A_cons (toV (R_tup (A_cons (toV (R_tup (A_cons V_str (A_cons V_str A_nil rfl) rfl))) (A_cons (toV (R_tup (A_cons V_str (A_cons V_str A_nil rfl) rfl))) A_nil rfl) rfl))) (A_cons V_non A_nil rfl) rfl) rfl))) (A_cons (toV (R_tup (A_cons V_str (A_cons (toV (R_tup (A_cons (toV (R_tup (A_cons V_str (A_cons V_str (A_cons V_str A_nil rfl) rfl) rfl))) A_nil rfl))) A_nil rfl) rfl))) A_nil rfl) rfl) rfl) rfl) rfl) rfl) rfl) rfl))) (toV (R_var (pv 3))) (fun _ _ => rfl)))) (pv 2) V_str rfl rfl (fun _ => rfl)) (Ss_cons (S_ret (R_var (pv 2))) Ss_nil))))
@[simp] def s_law_1 (r : Fi → DR) : DS := dAsg io_law 1 (dLst (dVs [dV false (dCall (fdo r .l_digits) (dArgs false (fdo r .l_digits).io 0 [dVar 0, dR (dC (.int 0)), dR (dC (.int 63))])), dC (.int 0)]))
@[simp] def s_law_2 (r : Fi → DR) : DS := dAsg io_law 2 (dCall (fdo r .l_defs) (dArgs false (fdo r .l_defs).io 0 [dVar 1]))
@[simp] def s_law_3a1 (r : Fi → DR) : DS := dRet (dR (dC (.bl false)))
@[simp] def s_law_3 (r : Fi → DR) : DS := dIfS (dOr (dTst blT (dU (fun t => match t with | .bl c => some (.bl (!decide (c = true))) | _ => none) (dV false (dCall (fdo r .is_shaped) (dArgs false (fdo r .is_shaped).io 0 [dMake "Format" (fdo r .Format__init) (dArgs false none 0 [dR (dC (.str "a")), dVar 2])]))))) (dTst blT (dU (fun t => match t with | .bl c => some (.bl (!decide (c = false))) | _ => none) (dV false (dCall (fdo r .is_shaped) (dArgs false (fdo r .is_shaped).io 0 [dMake "Format" (fdo r .Format__init) (dArgs false none 0 [dR (dC (.str "q")), dVar 2])])))))) (dSs [s_law_3a1 r]) (dSs [])
@[simp] def s_law_4a1 (r : Fi → DR) : DS := dRet (dR (dC (.bl false)))
@[simp] def s_law_4 (r : Fi → DR) : DS := dIfS (dTst blT (dU (fun t => match t with | .bl c => some (.bl (!decide (c = false))) | _ => none) (dV false (dCall (fdo r .is_shaped) (dArgs false (fdo r .is_shaped).io 0 [dMake "Format" (fdo r .Format__init) (dArgs false none 0 [dR (dC (.str "a")), dCall (fdo r .l_broken) (dArgs false (fdo r .l_broken).io 0 [dVar 1, dVar 2])])]))))) (dSs [s_law_4a1 r]) (dSs [])
@[simp] def s_law_5 (r : Fi → DR) : DS := dAsg io_law 3 (dUn dictT (dVs [dV false (dVar 2)]))
@[simp] def s_law_6 (r : Fi → DR) : DS := dSeti 3 (dV false (dTup (dVs [dC (.str "record"), dV false (dTup (dVs [dV false (dTup (dVs [dC (.str "f"), dC (.str "b"), dC (.str "default"), dSub (dV false (dLst (dVs [dV false (dLst (dVs [dC (.str "x"), dC (.int 1000001), dC .non])), dC (.int 0), dC (.str "zz")]))) (dV false (dCall (fdo r .l_draw) (dArgs false (fdo r .l_draw).io 0 [dVar 1, dR (dC (.int 3))])))]))]))]))) (dC (.str "a"))
@[simp] def s_law_7a1 (r : Fi → DR) : DS := dRet (dR (dC (.bl false)))
@[simp] def s_law_7 (r : Fi → DR) : DS := dIfS (dTst blT (dU (fun t => match t with | .bl c => some (.bl (!decide (c = true))) | _ => none) (dV false (dCall (fdo r .is_shaped) (dArgs false (fdo r .is_shaped).io 0 [dMake "Format" (fdo r .Format__init) (dArgs false none 0 [dR (dC (.str "b")), dVar 3])]))))) (dSs [s_law_7a1 r]) (dSs [])
def s_law_8l1 (r : Fi → DR) : DS := dAsg io_law 5 (dR (dSubv 2 (dV false (dVar 4))))
def s_law_8l2 (r : Fi → DR) : DS := dAsg io_law 6 (dCall (fdo r .types_of) (dArgs false (fdo r .types_of).io 0 [dVar 5]))
def s_law_8l3a1 (r : Fi → DR) : DS := dRet (dR (dC (.bl false)))
def s_law_8l3 (r : Fi → DR) : DS := dIfS (dOr (dNot (dTru (dH (dR (dU (isiT .list) (dH (dVar 6))))))) (dCmpT neT (dV false (dVar 6)) (dV false (dCall (fdo r .l_types) (dArgs false (fdo r .l_types).io 0 [dVar 5]))))) (dSs [s_law_8l3a1 r]) (dSs [])
def s_law_8l4a1a1 (r : Fi → DR) : DS := dRet (dR (dC (.bl false)))
def s_law_8l4a1 (r : Fi → DR) : DS := dIfS (dCmpT neT (dV false (dCall (fdo r .always_types) (dArgs false (fdo r .always_types).io 0 [dVar 5]))) (dV false (dLc (sNm 7) [7] (dItW [7] (dItV (dSubv 5 (dC (.int 1))))) (dCmpT neT (dH (dR (dSubv 7 (dC (.int 2))))) (dH (dR (dC (.str "optional"))))) (dSubv 7 (dC (.int 1)))))) (dSs [s_law_8l4a1a1 r]) (dSs [])
def s_law_8l4a2l1a1 (r : Fi → DR) : DS := dRet (dR (dC (.bl false)))
def s_law_8l4a2l1 (r : Fi → DR) : DS := dIfS (dOr (dCmpT neT (dH (dCall (fdo r .field_of) (dArgs false (fdo r .field_of).io 0 [dVar 5, dR (dSubv 7 (dC (.int 0)))]))) (dH (dVar 7))) (dCmpT neT (dH (dCall (fdo r .is_always) (dArgs false (fdo r .is_always).io 0 [dVar 7]))) (dH (dR (dCmp neT (dH (dR (dSubv 7 (dC (.int 2))))) (dH (dR (dC (.str "optional"))))))))) (dSs [s_law_8l4a2l1a1 r]) (dSs [])
def s_law_8l4a2 (r : Fi → DR) : DS := dFor (sNm 7) (dItV (dSubv 5 (dC (.int 1)))) (dSs [s_law_8l4a2l1 r])
def s_law_8l4a3a1 (r : Fi → DR) : DS := dRet (dR (dC (.bl false)))
def s_law_8l4a3 (r : Fi → DR) : DS := dIfS (dTst (fun t => some (!isNonT t)) (dH (dCall (fdo r .field_of) (dArgs false (fdo r .field_of).io 0 [dVar 5, dR (dC (.str "nothing"))])))) (dSs [s_law_8l4a3a1 r]) (dSs [])
def s_law_8l4 (r : Fi → DR) : DS := dIfS (dCmpT eqT (dH (dR (dSubv 5 (dC (.int 0))))) (dH (dR (dC (.str "record"))))) (dSs [s_law_8l4a1 r, s_law_8l4a2 r, s_law_8l4a3 r]) (dSs [])
def s_law_8l5a1l1a1 (r : Fi → DR) : DS := dRet (dR (dC (.bl false)))
def s_law_8l5a1l1 (r : Fi → DR) : DS := dIfS (dCmpT neT (dH (dCall (fdo r .case_of) (dArgs false (fdo r .case_of).io 0 [dVar 5, dR (dSubv 7 (dC (.int 0)))]))) (dH (dR (dSubv 7 (dC (.int 1)))))) (dSs [s_law_8l5a1l1a1 r]) (dSs [])
def s_law_8l5a1 (r : Fi → DR) : DS := dFor (sNm 7) (dItV (dSubv 5 (dC (.int 1)))) (dSs [s_law_8l5a1l1 r])
def s_law_8l5a2a1 (r : Fi → DR) : DS := dRet (dR (dC (.bl false)))
def s_law_8l5a2 (r : Fi → DR) : DS := dIfS (dTst (fun t => some (!isNonT t)) (dH (dCall (fdo r .case_of) (dArgs false (fdo r .case_of).io 0 [dVar 5, dR (dC (.str "z9"))])))) (dSs [s_law_8l5a2a1 r]) (dSs [])
def s_law_8l5 (r : Fi → DR) : DS := dIfS (dCmpT eqT (dH (dR (dSubv 5 (dC (.int 0))))) (dH (dR (dC (.str "choice"))))) (dSs [s_law_8l5a1 r, s_law_8l5a2 r]) (dSs [])
@[simp] def s_law_8 (r : Fi → DR) : DS := dFor (sNm 4) (dItV (dV false (dU1 sortedT (dH (dVar 2))))) (dSs [s_law_8l1 r, s_law_8l2 r, s_law_8l3 r, s_law_8l4 r, s_law_8l5 r])
@[simp] def s_law_9 (r : Fi → DR) : DS := dRet (dR (dC (.bl true)))
def b_law (r : Fi → DR) : DS := dSs [s_law_1 r, s_law_2 r, s_law_3 r, s_law_4 r, s_law_5 r, s_law_6 r, s_law_7 r, s_law_8 r, s_law_9 r]
theorem b_law_ok (G : FamOk fam.toFam P w K mg base ⟨K, cl, fx, tb⟩ ad fdt k r) (TT : FamTopC fam K mg ad fdt) (CN : Cn mg) (CT : Ct cl K mg ad cc_Format) (GT : GTab gx mg base tb fdt tc tp) (hr1 : Room (k + 1) (A.deeper (PyProof.Rows.envOfC "law" (defScope (fam.st .law)) s.heap.objs.size f cdv))) :
    PSs (cxOf (L2.CX P w) P w K mg base n_law "law" (defScope (fam.st .law)) f cdv A outer s H E) (defBody (fam.st .law)) (tS ⟨K, cl, fx, tb⟩ (fun e d _ H' => E e d H') io_law (b_law r)) :=
  have hr : Room k (A.deeper (PyProof.Rows.envOfC "law" (defScope (fam.st .law)) s.heap.objs.size f cdv)) := hr1.mono (Nat.le_succ k)
  (Ss_cons (S_asg_core (fun _ _ _ h => h) (ps_set (i := 1) sc_law.nd rfl (by first | exact Or.inl rfl | exact Or.inr rfl) (R_lst (A_cons (toV (R_call (G.ok .l_digits) hr rfl (TT.mgf .l_digits rfl) (TT.fn .l_digits).kp (TT.bn .l_digits) px_top (Ao_cons (toG (R_var (pv 0))) (Ao_cons (toG (toR V_int)) (Ao_cons (toG (toR V_int)) Ao_nil rfl) rfl) rfl) rfl rfl)) (A_cons V_int A_nil rfl) rfl)))) (Ss_cons (S_asg_core (fun _ _ _ h => h) (ps_set (i := 2) sc_law.nd rfl (by first | exact Or.inl rfl | exact Or.inr rfl) (R_call (G.ok .l_defs) hr rfl (TT.mgf .l_defs rfl) (TT.fn .l_defs).kp (TT.bn .l_defs) px_top (Ao_cons (toG (R_var (pv 1))) Ao_nil rfl) rfl rfl))) (Ss_cons (S_if (PW.pt (W_or (T_pc (pc_isnB (b := true) (toV (R_call (G.ok .is_shaped) hr rfl (TT.mgf .is_shaped rfl) (TT.fn .is_shaped).kp (TT.bn .is_shaped) px_top (Ao_cons (toG (R_make CT.mk_Format (G.ok .Format__init) hr1 rfl CT.g_Format (TT.bn .Format__init) px_top CT.c_Format (Ao_cons (toG (toR V_str)) (Ao_cons (toG (R_var (pv 2))) Ao_nil rfl) rfl) rfl rfl)) Ao_nil rfl) rfl rfl))) rfl) (W_or1 (T_pc (pc_isnB (b := false) (toV (R_call (G.ok .is_shaped) hr rfl (TT.mgf .is_shaped rfl) (TT.fn .is_shaped).kp (TT.bn .is_shaped) px_top (Ao_cons (toG (R_make CT.mk_Format (G.ok .Format__init) hr1 rfl CT.g_Format (TT.bn .Format__init) px_top CT.c_Format (Ao_cons (toG (toR V_str)) (Ao_cons (toG (R_var (pv 2))) Ao_nil rfl) rfl) rfl rfl)) Ao_nil rfl) rfl rfl))) rfl)))) (Ss_cons (S_ret (toR V_bl)) Ss_nil) Ss_nil) (Ss_cons (S_if (T_pc (pc_isnB (b := false) (toV (R_call (G.ok .is_shaped) hr rfl (TT.mgf .is_shaped rfl) (TT.fn .is_shaped).kp (TT.bn .is_shaped) px_top (Ao_cons (toG (R_make CT.mk_Format (G.ok .Format__init) hr1 rfl CT.g_Format (TT.bn .Format__init) px_top CT.c_Format (Ao_cons (toG (toR V_str)) (Ao_cons (toG (R_call (G.ok .l_broken) hr rfl (TT.mgf .l_broken rfl) (TT.fn .l_broken).kp (TT.bn .l_broken) px_top (Ao_cons (toG (R_var (pv 1))) (Ao_cons (toG (R_var (pv 2))) Ao_nil rfl) rfl) rfl rfl)) Ao_nil rfl) rfl) rfl rfl)) Ao_nil rfl) rfl rfl))) rfl) (Ss_cons (S_ret (toR V_bl)) Ss_nil) Ss_nil) (Ss_cons (S_asg_core (fun _ _ _ h => h) (ps_set (i := 3) sc_law.nd rfl (by first | exact Or.inl rfl | exact Or.inr rfl) (b_dict rfl (nob_dict TT) (A_cons (toV (R_var (pv 2))) A_nil rfl) rfl))) (Ss_cons (S_seti (ru1 hr) (toV (R_tup (A_cons V_str (A_cons (toV (R_tup (A_cons (toV (R_tup (A_cons V_str (A_cons V_str (A_cons V_str (A_cons (V_sub rfl (ru1 hr) (toV (R_lst (A_cons (toV (R_lst (A_cons V_str (A_cons V_int (A_cons V_non A_nil rfl) rfl) rfl))) (A_cons V_int (A_cons V_str A_nil rfl) rfl) rfl))) (toV (R_call (G.ok .l_draw) hr rfl (TT.mgf .l_draw rfl) (TT.fn .l_draw).kp (TT.bn .l_draw) px_top (Ao_cons (toG (R_var (pv 1))) (Ao_cons (toG (toR V_int)) Ao_nil rfl) rfl) rfl rfl)) (fun _ _ => rfl)) A_nil rfl) rfl) rfl) rfl))) A_nil rfl))) A_nil rfl) rfl))) (pv 3) V_str rfl rfl (fun _ => rfl)) (Ss_cons (S_if (T_pc (pc_isnB (b := true) (toV (R_call (G.ok .is_shaped) hr rfl (TT.mgf .is_shaped rfl) (TT.fn .is_shaped).kp (TT.bn .is_shaped) px_top (Ao_cons (toG (R_make CT.mk_Format (G.ok .Format__init) hr1 rfl CT.g_Format (TT.bn .Format__init) px_top CT.c_Format (Ao_cons (toG (toR V_str)) (Ao_cons (toG (R_var (pv 3))) Ao_nil rfl) rfl) rfl rfl)) Ao_nil rfl) rfl rfl))) rfl) (Ss_cons (S_ret (toR V_bl)) Ss_nil) Ss_nil) (Ss_cons (S_for PassesOwn.leaving rfl (I_seq rfl (toV (b_sorted rfl rfl (nob_sorted TT) (toH (R_var (pv 2))) rfl))) (G_name (pg_name (i := 4) sc_law.nd rfl (by first | exact Or.inl rfl | exact Or.inr rfl))) (Ss_cons (S_asg_core (fun _ _ _ h => h) (ps_set (i := 5) sc_law.nd rfl (by first | exact Or.inl rfl | exact Or.inr rfl) (toR (V_subv rfl (ru1 hr) (pv 2) (toV (R_var (pv 4))) (fun _ _ => rfl))))) (Ss_cons (S_asg_core (fun _ _ _ h => h) (ps_set (i := 6) sc_law.nd rfl (by first | exact Or.inl rfl | exact Or.inr rfl) (R_call (G.ok .types_of) hr rfl (TT.mgf .types_of rfl) (TT.fn .types_of).kp (TT.bn .types_of) px_top (Ao_cons (toG (R_var (pv 5))) Ao_nil rfl) rfl rfl))) (Ss_cons (S_if (PW.pt (W_or (T_not (T_tru rfl (fun _ => rfl) (toH (toR (V_isi (n := .list) rfl rfl rfl (nob_isinstance TT) rfl rfl (nob_list TT) (toH (R_var (pv 6))) rfl))))) (W_or1 (T_cmpV (op_neTt rfl (ru64 hr)) rfl (toV (R_var (pv 6))) (toV (R_call (G.ok .l_types) hr rfl (TT.mgf .l_types rfl) (TT.fn .l_types).kp (TT.bn .l_types) px_top (Ao_cons (toG (R_var (pv 5))) Ao_nil rfl) rfl rfl)))))) (Ss_cons (S_ret (toR V_bl)) Ss_nil) Ss_nil) (Ss_cons (S_if (T_cmpH (op_eqTt rfl (ru64 hr)) rfl (toH (toR (V_subv rfl (ru1 hr) (pv 5) V_int (fun _ _ => rfl)))) (toH (toR V_str))) (Ss_cons (S_if (T_cmpV (op_neTt rfl (ru64 hr)) rfl (toV (R_call (G.ok .always_types) hr rfl (TT.mgf .always_types rfl) (TT.fn .always_types).kp (TT.bn .always_types) px_top (Ao_cons (toG (R_var (pv 5))) Ao_nil rfl) rfl rfl)) (toV (R_lc (own := [("_law_row", 7)]) stores_nm rfl sc_law.nd (I_wipe (vs := [7]) (I_seq rfl (V_subv rfl (ru1 hr) (pv 5) V_int (fun _ _ => rfl)))) (blkOk_by (own := [("_law_row", 7)]) (N := n_law) (sc := defScope (fam.st .law)) (by decide +kernel)) (fun _ _ _ _ _ => (G_name (pg_name (i := 7) sc_law.nd rfl (by first | exact Or.inl rfl | exact Or.inr rfl)))) (fun _ _ _ _ _ => (Ts_one (T_cmpH (op_neTt rfl (ru64 hr)) rfl (toH (toR (V_subv rfl (ru1 hr) (pv 7) V_int (fun _ _ => rfl)))) (toH (toR V_str))))) (fun _ _ _ _ _ => (V_subv rfl (ru1 hr) (pv 7) V_int (fun _ _ => rfl))) (fun _ => rfl)))) (Ss_cons (S_ret (toR V_bl)) Ss_nil) Ss_nil) (Ss_cons (S_for PassesOwn.leaving rfl (I_seq rfl (V_subv rfl (ru1 hr) (pv 5) V_int (fun _ _ => rfl))) (G_name (pg_name (i := 7) sc_law.nd rfl (by first | exact Or.inl rfl | exact Or.inr rfl))) (Ss_cons (S_if (PW.pt (W_or (T_cmpH (op_neTt rfl (ru64 hr)) rfl (toH (R_call (G.ok .field_of) hr rfl (TT.mgf .field_of rfl) (TT.fn .field_of).kp (TT.bn .field_of) px_top (Ao_cons (toG (R_var (pv 5))) (Ao_cons (toG (toR (V_subv rfl (ru1 hr) (pv 7) V_int (fun _ _ => rfl)))) Ao_nil rfl) rfl) rfl rfl)) (toH (R_var (pv 7)))) (W_or1 (T_cmpH (op_neTt rfl (ru64 hr)) rfl (toH (R_call (G.ok .is_always) hr rfl (TT.mgf .is_always rfl) (TT.fn .is_always).kp (TT.bn .is_always) px_top (Ao_cons (toG (R_var (pv 7))) Ao_nil rfl) rfl rfl)) (toH (toR (cmpH (op_neTt rfl (ru64 hr)) rfl (toH (toR (V_subv rfl (ru1 hr) (pv 7) V_int (fun _ _ => rfl)))) (toH (toR V_str))))))))) (Ss_cons (S_ret (toR V_bl)) Ss_nil) Ss_nil) Ss_nil) rfl (fun _ => rfl)) (Ss_cons (S_if (T_notN (toH (R_call (G.ok .field_of) hr rfl (TT.mgf .field_of rfl) (TT.fn .field_of).kp (TT.bn .field_of) px_top (Ao_cons (toG (R_var (pv 5))) (Ao_cons (toG (toR V_str)) Ao_nil rfl) rfl) rfl rfl))) (Ss_cons (S_ret (toR V_bl)) Ss_nil) Ss_nil) Ss_nil))) Ss_nil) (Ss_cons (S_if (T_cmpH (op_eqTt rfl (ru64 hr)) rfl (toH (toR (V_subv rfl (ru1 hr) (pv 5) V_int (fun _ _ => rfl)))) (toH (toR V_str))) (Ss_cons (S_for PassesOwn.leaving rfl (I_seq rfl (V_subv rfl (ru1 hr) (pv 5) V_int (fun _ _ => rfl))) (G_name (pg_name (i := 7) sc_law.nd rfl (by first | exact Or.inl rfl | exact Or.inr rfl))) (Ss_cons (S_if (T_cmpH (op_neTt rfl (ru64 hr)) rfl (toH (R_call (G.ok .case_of) hr rfl (TT.mgf .case_of rfl) (TT.fn .case_of).kp (TT.bn .case_of) px_top (Ao_cons (toG (R_var (pv 5))) (Ao_cons (toG (toR (V_subv rfl (ru1 hr) (pv 7) V_int (fun _ _ => rfl)))) Ao_nil rfl) rfl) rfl rfl)) (toH (toR (V_subv rfl (ru1 hr) (pv 7) V_int (fun _ _ => rfl))))) (Ss_cons (S_ret (toR V_bl)) Ss_nil) Ss_nil) Ss_nil) rfl (fun _ => rfl)) (Ss_cons (S_if (T_notN (toH (R_call (G.ok .case_of) hr rfl (TT.mgf .case_of rfl) (TT.fn .case_of).kp (TT.bn .case_of) px_top (Ao_cons (toG (R_var (pv 5))) (Ao_cons (toG (toR V_str)) Ao_nil rfl) rfl) rfl rfl))) (Ss_cons (S_ret (toR V_bl)) Ss_nil) Ss_nil) Ss_nil)) Ss_nil) Ss_nil))))) rfl (fun _ => rfl)) (Ss_cons (S_ret (toR V_bl)) Ss_nil)))))))))
@[simp] def s_Format__init_1 (r : Fi → DR) : DS := dSetf "Format" 0 "root" (dV false (dVar 1))
@[simp] def s_Format__init_2 (r : Fi → DR) : DS := dSetf "Format" 0 "definitions" (dV false (dUn dictT (dVs [dV false (dVar 2)])))
def b_Format__init (r : Fi → DR) : DS := dSs [s_Format__init_1 r, s_Format__init_2 r]
theorem b_Format__init_ok (G : FamOk fam.toFam P w K mg base ⟨K, cl, fx, tb⟩ ad fdt k r) (TT : FamTopC fam K mg ad fdt) (CN : Cn mg) (CT : Ct cl K mg ad cc_Format) (GT : GTab gx mg base tb fdt tc tp) (hr1 : Room (k + 1) (A.deeper (PyProof.Rows.envOfC "Format.__init__" (defScope (fam.st .Format__init)) s.heap.objs.size f cdv))) :
    PSs (cxOf (L2.CX P w) P w K mg base n_Format__init "Format.__init__" (defScope (fam.st .Format__init)) f cdv A outer s H E) (defBody (fam.st .Format__init)) (tS ⟨K, cl, fx, tb⟩ (fun e d _ H' => E e d H') io_Format__init (b_Format__init r)) :=
  have hr : Room k (A.deeper (PyProof.Rows.envOfC "Format.__init__" (defScope (fam.st .Format__init)) s.heap.objs.size f cdv)) := hr1.mono (Nat.le_succ k)
  (Ss_cons (S_setf rfl CT.c_Format CT.k_Format (by decide +kernel : ("root" : Str) ∈ (["root", "definitions"] : List Str)) (pv 0) (toV (R_var (pv 1))) rfl) (Ss_cons (S_setf rfl CT.c_Format CT.k_Format (by decide +kernel : ("definitions" : Str) ∈ (["root", "definitions"] : List Str)) (pv 0) (toV (b_dict rfl (nob_dict TT) (A_cons (toV (R_var (pv 2))) A_nil rfl) rfl)) rfl) Ss_nil))
@[simp] def s_Format_of_1 (r : Fi → DR) : DS := dRet (dR (dSub (dFldv "Format" 0 "definitions") (dV false (dVar 1))))
def b_Format_of (r : Fi → DR) : DS := dSs [s_Format_of_1 r]
theorem b_Format_of_ok (G : FamOk fam.toFam P w K mg base ⟨K, cl, fx, tb⟩ ad fdt k r) (TT : FamTopC fam K mg ad fdt) (CN : Cn mg) (CT : Ct cl K mg ad cc_Format) (GT : GTab gx mg base tb fdt tc tp) (hr1 : Room (k + 1) (A.deeper (PyProof.Rows.envOfC "Format.of" (defScope (fam.st .Format_of)) s.heap.objs.size f cdv))) :
    PSs (cxOf (L2.CX P w) P w K mg base n_Format_of "Format.of" (defScope (fam.st .Format_of)) f cdv A outer s H E) (defBody (fam.st .Format_of)) (tS ⟨K, cl, fx, tb⟩ (fun e d _ H' => E e d H') io_Format_of (b_Format_of r)) :=
  have hr : Room k (A.deeper (PyProof.Rows.envOfC "Format.of" (defScope (fam.st .Format_of)) s.heap.objs.size f cdv)) := hr1.mono (Nat.le_succ k)
  (Ss_cons (S_ret (toR (V_sub rfl (ru1 hr) (V_fldv rfl CT.c_Format CT.k_Format (by decide +kernel : ("definitions" : Str) ∈ (["root", "definitions"] : List Str)) (pv 0) rfl) (toV (R_var (pv 1))) (fun _ _ => rfl)))) Ss_nil)
@[simp] def s_Format_names_1 (r : Fi → DR) : DS := dRet (dU1 sortedT (dH (dR (dFldv "Format" 0 "definitions"))))
def b_Format_names (r : Fi → DR) : DS := dSs [s_Format_names_1 r]
theorem b_Format_names_ok (G : FamOk fam.toFam P w K mg base ⟨K, cl, fx, tb⟩ ad fdt k r) (TT : FamTopC fam K mg ad fdt) (CN : Cn mg) (CT : Ct cl K mg ad cc_Format) (GT : GTab gx mg base tb fdt tc tp) (hr1 : Room (k + 1) (A.deeper (PyProof.Rows.envOfC "Format.names" (defScope (fam.st .Format_names)) s.heap.objs.size f cdv))) :
    PSs (cxOf (L2.CX P w) P w K mg base n_Format_names "Format.names" (defScope (fam.st .Format_names)) f cdv A outer s H E) (defBody (fam.st .Format_names)) (tS ⟨K, cl, fx, tb⟩ (fun e d _ H' => E e d H') io_Format_names (b_Format_names r)) :=
  have hr : Room k (A.deeper (PyProof.Rows.envOfC "Format.names" (defScope (fam.st .Format_names)) s.heap.objs.size f cdv)) := hr1.mono (Nat.le_succ k)
  (Ss_cons (S_ret (b_sorted rfl rfl (nob_sorted TT) (toH (toR (V_fldv rfl CT.c_Format CT.k_Format (by decide +kernel : ("definitions" : Str) ∈ (["root", "definitions"] : List Str)) (pv 0) rfl))) rfl)) Ss_nil)
@[reducible] def stp (r : Fi → DR) : Fi → DR
  | .is_name => dDef (fam.ps .is_name).length n_is_name.length (fam.io .is_name) (b_is_name r)
  | .types_of => dDef (fam.ps .types_of).length n_types_of.length (fam.io .types_of) (b_types_of r)
  | .is_always => dDef (fam.ps .is_always).length n_is_always.length (fam.io .is_always) (b_is_always r)
  | .always_types => dDef (fam.ps .always_types).length n_always_types.length (fam.io .always_types) (b_always_types r)
  | .field_of => dDef (fam.ps .field_of).length n_field_of.length (fam.io .field_of) (b_field_of r)
  | .case_of => dDef (fam.ps .case_of).length n_case_of.length (fam.io .case_of) (b_case_of r)
  | .are_ascending => dDef (fam.ps .are_ascending).length n_are_ascending.length (fam.io .are_ascending) (b_are_ascending r)
  | .is_definition => dDef (fam.ps .is_definition).length n_is_definition.length (fam.io .is_definition) (b_is_definition r)
  | .is_shaped => dDef (fam.ps .is_shaped).length n_is_shaped.length (fam.io .is_shaped) (b_is_shaped r)
  | .l_cell => dDef (fam.ps .l_cell).length n_l_cell.length (fam.io .l_cell) (b_l_cell r)
  | .l_digits => dDef (fam.ps .l_digits).length n_l_digits.length (fam.io .l_digits) (b_l_digits r)
  | .l_draw => dDef (fam.ps .l_draw).length n_l_draw.length (fam.io .l_draw) (b_l_draw r)
  | .l_kind => dDef (fam.ps .l_kind).length n_l_kind.length (fam.io .l_kind) (b_l_kind r)
  | .l_some => dDef (fam.ps .l_some).length n_l_some.length (fam.io .l_some) (b_l_some r)
  | .l_defs => dDef (fam.ps .l_defs).length n_l_defs.length (fam.io .l_defs) (b_l_defs r)
  | .l_types => dDef (fam.ps .l_types).length n_l_types.length (fam.io .l_types) (b_l_types r)
  | .l_broken => dDef (fam.ps .l_broken).length n_l_broken.length (fam.io .l_broken) (b_l_broken r)
  | .law => dDef (fam.ps .law).length n_law.length (fam.io .law) (b_law r)
  | .Format__init => dDef (fam.ps .Format__init).length n_Format__init.length (fam.io .Format__init) (b_Format__init r)
  | .Format_of => dDef (fam.ps .Format_of).length n_Format_of.length (fam.io .Format_of) (b_Format_of r)
  | .Format_names => dDef (fam.ps .Format_names).length n_Format_names.length (fam.io .Format_names) (b_Format_names r)
theorem step (TT : FamTopC fam K mg ad fdt) (CN : Cn mg) (CT : Ct cl K mg ad cc_Format) (GT : GTab gx mg base tb fdt tc tp) (k : Nat) (r : Fi → DR) (G : FamOk fam.toFam P w K mg base ⟨K, cl, fx, tb⟩ ad fdt k r) : FamOk fam.toFam P w K mg base ⟨K, cl, fx, tb⟩ ad fdt (k + 1 + 1) (stp r) := ⟨fun i => by
  cases i with
  | is_name => exact D_defc (TT.fn .is_name) sc_is_name (by intro i h; cases h) (fun cdv A outer s H E hc hr => b_is_name_ok G TT CN CT GT (hc.symm.trans (GT.c .is_name rfl)) hr)
  | types_of => exact D_defc (TT.fn .types_of) sc_types_of (by intro i h; cases h) (fun cdv A outer s H E hc hr => b_types_of_ok G TT CN CT GT hr)
  | is_always => exact D_defc (TT.fn .is_always) sc_is_always (by intro i h; cases h) (fun cdv A outer s H E hc hr => b_is_always_ok G TT CN CT GT hr)
  | always_types => exact D_defc (TT.fn .always_types) sc_always_types (by intro i h; cases h) (fun cdv A outer s H E hc hr => b_always_types_ok G TT CN CT GT hr)
  | field_of => exact D_defc (TT.fn .field_of) sc_field_of (by intro i h; cases h) (fun cdv A outer s H E hc hr => b_field_of_ok G TT CN CT GT hr)
  | case_of => exact D_defc (TT.fn .case_of) sc_case_of (by intro i h; cases h) (fun cdv A outer s H E hc hr => b_case_of_ok G TT CN CT GT hr)
  | are_ascending => exact D_defc (TT.fn .are_ascending) sc_are_ascending (by intro i h; cases h) (fun cdv A outer s H E hc hr => b_are_ascending_ok G TT CN CT GT (hc.symm.trans (GT.c .are_ascending rfl)) hr)
  | is_definition => exact D_defc (TT.fn .is_definition) sc_is_definition (by intro i h; cases h) (fun cdv A outer s H E hc hr => b_is_definition_ok G TT CN CT GT hr)
  | is_shaped => exact D_defc (TT.fn .is_shaped) sc_is_shaped (by intro i h; cases h) (fun cdv A outer s H E hc hr => b_is_shaped_ok G TT CN CT GT (hc.symm.trans (GT.c .is_shaped rfl)) hr)
  | l_cell => exact D_defc (TT.fn .l_cell) sc_l_cell (by intro i h; cases h) (fun cdv A outer s H E hc hr => b_l_cell_ok G TT CN CT GT hr)
  | l_digits => exact D_defc (TT.fn .l_digits) sc_l_digits (by intro i h; cases h) (fun cdv A outer s H E hc hr => b_l_digits_ok G TT CN CT GT hr)
  | l_draw => exact D_defc (TT.fn .l_draw) sc_l_draw (by intro i h; cases h; decide) (fun cdv A outer s H E hc hr => b_l_draw_ok G TT CN CT GT hr)
  | l_kind => exact D_defc (TT.fn .l_kind) sc_l_kind (by intro i h; cases h; decide) (fun cdv A outer s H E hc hr => b_l_kind_ok G TT CN CT GT hr)
  | l_some => exact D_defc (TT.fn .l_some) sc_l_some (by intro i h; cases h) (fun cdv A outer s H E hc hr => b_l_some_ok G TT CN CT GT hr)
  | l_defs => exact D_defc (TT.fn .l_defs) sc_l_defs (by intro i h; cases h; decide) (fun cdv A outer s H E hc hr => b_l_defs_ok G TT CN CT GT hr)
  | l_types => exact D_defc (TT.fn .l_types) sc_l_types (by intro i h; cases h) (fun cdv A outer s H E hc hr => b_l_types_ok G TT CN CT GT hr)
  | l_broken => exact D_defc (TT.fn .l_broken) sc_l_broken (by intro i h; cases h; decide) (fun cdv A outer s H E hc hr => b_l_broken_ok G TT CN CT GT hr)
  | law => exact D_defc (TT.fn .law) sc_law (by intro i h; cases h) (fun cdv A outer s H E hc hr => b_law_ok G TT CN CT GT hr)
  | Format__init => exact D_defc (TT.fn .Format__init) sc_Format__init (by intro i h; cases h; decide) (fun cdv A outer s H E hc hr => b_Format__init_ok G TT CN CT GT hr)
  | Format_of => exact D_defc (TT.fn .Format_of) sc_Format_of (by intro i h; cases h) (fun cdv A outer s H E hc hr => b_Format_of_ok G TT CN CT GT hr)
  | Format_names => exact D_defc (TT.fn .Format_names) sc_Format_names (by intro i h; cases h) (fun cdv A outer s H E hc hr => b_Format_names_ok G TT CN CT GT hr)
  ⟩
abbrev den : Nat → Fi → DR := dLev stp
end
end K10

namespace K10
open PySem L2 MP
def lt (c : Nat) : Bool := decide (c ∈ ("abcdefghijklmnopqrstuvwxyz" : Str).cps.toList)
def fg (c : Nat) : Bool := decide (c ∈ ("0123456789" : Str).cps.toList)
def firstB (x : Str) : Bool := match x.cps.toList with
  | c :: _ => lt c
  | [] => false
def nameB (x : Str) : Bool := decide (1 ≤ x.length) && decide (x.length ≤ 8) && firstB x && x.cps.toList.all fun c => lt c || fg c
@[simp] theorem memT_lt {c : Nat} : memT (.str ⟨#[c]⟩) (.str "abcdefghijklmnopqrstuvwxyz") = some (lt c) := rfl
@[simp] theorem memT_fg {c : Nat} : memT (.str ⟨#[c]⟩) (.str "0123456789") = some (fg c) := rfl
@[simp] theorem nmemT_lt {c : Nat} : nmemT (.str ⟨#[c]⟩) (.str "abcdefghijklmnopqrstuvwxyz") = some (!lt c) := rfl
@[simp] theorem nmemT_fg {c : Nat} : nmemT (.str ⟨#[c]⟩) (.str "0123456789") = some (!fg c) := rfl
theorem gnL_nm {neg : Bool} {i : Nat} {el : DV} {f : T → Bool} {ρ : Rho} (hb : ρ[i]? = some none) {ts : List T} (h : ∀ t ∈ ts, el (ρ.set i (some t)) = some (.ok (.bl (f t)) (ρ.set i (some t)))) :
    gnL neg (sNm i) [i] el ts ρ = some (if neg = true then ts.any f else ts.all f, ρ) := gnL_spec fun t ht => by
  have hi : i < ρ.length := by
    rcases Nat.lt_or_ge i ρ.length with z | z
    · exact z
    · rw [List.getElem?_eq_none z] at hb; cases hb
  refine ⟨ρ.set i (some t), ρ.set i (some t), by simp [sNm, hi], h t ht, ?_⟩
  show wipeR ((ρ.set i (some t)).set i none) [] = ρ
  rw [set_none_set hb]; rfl
def uC (f : Nat → Bool) : T → Bool
  | .str x => match x.cps.toList with
    | [c] => f c
    | _ => false
  | _ => false
theorem all_uC {f : Nat → Bool} {x : Str} : (signs x).all (uC f) = x.cps.toList.all f := by
  unfold signs
  rw [List.all_map]
  rfl
theorem strips_signs {x : Str} : strips (signs x) = signs x := by
  rw [strips_map]
  unfold signs
  rw [List.map_map]
  rfl
theorem gnL_sg {i : Nat} {el : DV} {f : Nat → Bool} {ρ : Rho} (hb : ρ[i]? = some none) {x : Str} (h : ∀ c, el (ρ.set i (some (.str ⟨#[c]⟩))) = some (.ok (.bl (f c)) (ρ.set i (some (.str ⟨#[c]⟩))))) :
    gnL false (sNm i) [i] el (signs x) ρ = some (x.cps.toList.all f, ρ) := by
  rw [gnL_nm (f := uC f) hb fun t ht => by
    obtain ⟨c, _, rfl⟩ := List.mem_map.mp ht
    exact h c]
  rw [all_uC]; rfl
theorem seqv_str {x : Str} : seqv (.str x) = some (signs x) := rfl
def NameIs (d : DR) : Prop := ∀ x : Str, x.length < 1000 → d [some (.str x)] = some (.ok (.tv (.bl (nameB x))) [none])
theorem str_len {x : Str} : x.cps.toList.length = x.length := Array.length_toList
theorem isName_ok (r : Fi → DR) : NameIs (stp r .is_name) := fun x hx => by
  have le := le60 hx
  have hg : gnL false (sNm 1) [1] (dOrV (dCmp memT (dH (dVar 1)) (dH (dR (dC (.str "abcdefghijklmnopqrstuvwxyz"))))) (dCmp memT (dH (dVar 1)) (dH (dR (dC (.str "0123456789")))))) (signs x) [some (.str x), none] = some (x.cps.toList.all fun c => lt c || fg c, [some (.str x), none]) := by
    refine gnL_sg rfl fun c => ?_
    cases h : lt c <;> simp [h]
  unfold stp
  by_cases h1 : 1 ≤ x.length ∧ x.length ≤ 8
  · obtain ⟨a, b⟩ := h1
    have ai : (1 : Int) ≤ (x.length : Int) := by omega
    have bi : (x.length : Int) ≤ 8 := by omega
    cases hc : x.cps.toList with
    | nil => rw [← str_len, hc] at a; simp at a
    | cons c l =>
      have g0 : getT (.str x) (.int 0) = some (.str ⟨#[c]⟩) := by
        show (if x.length ≤ sizeLine then (atI x.cps.toList 0).map fun c => T.str ⟨#[c]⟩ else none) = _
        have a0 : atI (c :: l) (0 : Int) = some c := at_get (l := c :: l) (i := 0) (x := c) rfl
        rw [if_pos le, hc, a0]; rfl
      have fb : firstB x = lt c := by unfold firstB; rw [hc]
      have nb : nameB x = (lt c && x.cps.toList.all fun c => lt c || fg c) := by
        unfold nameB; rw [fb]; simp [a, b]
      rw [nb]
      cases hl : lt c with
      | false => simp [b_is_name, le, ai, bi, dChn, g0, hl]
      | true => simp [b_is_name, le, ai, bi, dChn, g0, hl, seqv_str, bare, hg]
  · have nb : nameB x = false := by
      unfold nameB
      by_cases a : 1 ≤ x.length
      · have b : ¬ x.length ≤ 8 := fun z => h1 ⟨a, z⟩
        simp [b]
      · simp [a]
    rw [nb]
    by_cases a : 1 ≤ x.length
    · have ai : (1 : Int) ≤ (x.length : Int) := by omega
      have b : ¬ (x.length : Int) ≤ 8 := fun z => h1 ⟨a, by omega⟩
      simp [b_is_name, le, ai, b, dChn]
    · have ai : ¬ (1 : Int) ≤ (x.length : Int) := by omega
      simp [b_is_name, le, ai, dChn]
end K10

namespace K10
open PySem L2 MP
/-! ### what is drawn -/
theorem plains_ints : ∀ l : List Int, plains (l.map T.int) = true
  | [] => rfl
  | a :: l => by rw [List.map_cons, plains_cons, plains_ints l]; rfl
theorem strips_int : ∀ l : List Int, strips (l.map T.int) = l.map T.int
  | [] => rfl
  | a :: l => by rw [List.map_cons, strips_cons, strips_int l]; rfl
theorem cell_ok (r : Fi → DR) (ns : List Int) (k : Nat) : ∃ z : Int, stp r .l_cell [some (.nd false .scr (ns.map T.int)), some (.int k)] = some (.ok (.tv (.int z)) [none, none]) := by
  by_cases h : k < ns.length
  · have g : atI (ns.map T.int) (k : Int) = some (.int ns[k]) := at_get (by simp [h])
    refine ⟨ns[k], ?_⟩
    simp [b_l_cell, h, g, plains_ints, strips_int]
  · exact ⟨0, by simp [b_l_cell, h, strips_int]⟩
/-- the digits so far, all else of the slots is read only -/
theorem dig60 (r : Fi → DR) {o0 o1 o2 o4 o7 : Option T} : ∀ (ts : List T) (ds : List Int) (c : Int) (o6 : Option T), ds.length + ts.length ≤ 100000 → ∃ (ds' : List Int) (c' : Int) (p6 : Option T), ds'.length ≤ ds.length + ts.length ∧
    dLoop (sNm 6) (dSs [s_l_digits_2l3a1l1 r]) ts [o0, o1, o2, some (.nd true .lst (ds.map T.int)), o4, some (.int c), o6, o7] = some (.ok .nx [o0, o1, o2, some (.nd true .lst (ds'.map T.int)), o4, some (.int c'), p6, o7])
  | [], ds, c, o6, h => ⟨ds, c, o6, by simp, by simp⟩
  | t :: ts, ds, c, o6, h => by
    simp only [List.length_cons] at h
    have sz : ds.length < sizeLine := Nat.lt_of_le_of_lt (by omega : ds.length ≤ 100000) (by decide)
    have pl : ((ds.map T.int).all fun t => !t.mk) = true := plains_ints ds
    by_cases hc : 0 < c
    · obtain ⟨ds', c', p6, hl, ih⟩ := dig60 r (o0 := o0) (o1 := o1) (o2 := o2) (o4 := o4) (o7 := o7) ts (ds ++ [c % 1000]) (c / 1000) (some t) (by simp; omega)
      refine ⟨ds', c', p6, by simp at hl ⊢; omega, ?_⟩
      rw [List.map_append] at ih
      rw [dLoop_cons]
      generalize dLoop (sNm 6) (dSs [s_l_digits_2l3a1l1 r]) ts = again at ih
      simp only [List.map_cons, List.map_nil] at ih
      simp [s_l_digits_2l3a1l1, s_l_digits_2l3a1l1a1, s_l_digits_2l3a1l1a2, hc, isLst, appK, sz, pl, ih]
    · obtain ⟨ds', c', p6, hl, ih⟩ := dig60 r (o0 := o0) (o1 := o1) (o2 := o2) (o4 := o4) (o7 := o7) ts ds c (some t) (by omega)
      refine ⟨ds', c', p6, by simp; omega, ?_⟩
      rw [dLoop_cons]
      generalize dLoop (sNm 6) (dSs [s_l_digits_2l3a1l1 r]) ts = again at ih
      simp [s_l_digits_2l3a1l1, hc, ih]
theorem dig12 (r : Fi → DR) {o0 o1 o2 o4 o5 : Option T} : ∀ (m : Nat) (lo : Int) (ds : List Int) (c : Int) (o6 : Option T), ds.length + m ≤ 100000 → ∃ (ds' : List Int) (c' : Int) (p6 : Option T), ds'.length ≤ ds.length + m ∧
    dLoop (sNm 6) (dSs [s_l_digits_2l3b2l1 r, s_l_digits_2l3b2l2 r]) (rngT lo m) [o0, o1, o2, some (.nd true .lst (ds.map T.int)), o4, o5, o6, some (.int c)] = some (.ok .nx [o0, o1, o2, some (.nd true .lst (ds'.map T.int)), o4, o5, p6, some (.int c')])
  | 0, lo, ds, c, o6, h => ⟨ds, c, o6, by simp, by simp [rng_zero]⟩
  | m + 1, lo, ds, c, o6, h => by
    have sz : ds.length < sizeLine := Nat.lt_of_le_of_lt (by omega : ds.length ≤ 100000) (by decide)
    have pl : ((ds.map T.int).all fun t => !t.mk) = true := plains_ints ds
    obtain ⟨ds', c', p6, hl, ih⟩ := dig12 r (o0 := o0) (o1 := o1) (o2 := o2) (o4 := o4) (o5 := o5) m (lo + 1) (ds ++ [(c * 16807 + 7 * lo + 1) % 2147483647 / 997 % 1000]) ((c * 16807 + 7 * lo + 1) % 2147483647) (some (.int lo)) (by simp; omega)
    refine ⟨ds', c', p6, by simp at hl ⊢; omega, ?_⟩
    rw [List.map_append] at ih
    rw [rng_succ, dLoop_cons]
    generalize dLoop (sNm 6) (dSs [s_l_digits_2l3b2l1 r, s_l_digits_2l3b2l2 r]) (rngT (lo + 1) m) = again at ih
    simp only [List.map_cons, List.map_nil] at ih
    simp [s_l_digits_2l3b2l1, s_l_digits_2l3b2l2, isLst, appK, sz, pl, ih, mulT_r16807]
def CellOk (d : DR) : Prop := ∀ (ns : List Int) (k : Nat), ∃ z : Int, d [some (.nd false .scr (ns.map T.int)), some (.int k)] = some (.ok (.tv (.int z)) [none, none])
theorem digs {r : Fi → DR} (hc : CellOk (r .l_cell)) {ns : List Int} {o1 o2 : Option T} : ∀ (m k : Nat) (ds : List Int) (o4 o5 o6 o7 : Option T), ds.length + 60 * m ≤ 100000 → ∃ (ds' : List Int) (p4 p5 p6 p7 : Option T),
    dLoop (sNm 4) (dSs [s_l_digits_2l1 r, s_l_digits_2l2 r, s_l_digits_2l3 r]) (rngT k m) [some (.nd false .scr (ns.map T.int)), o1, o2, some (.nd true .lst (ds.map T.int)), o4, o5, o6, o7] = some (.ok .nx [some (.nd false .scr (ns.map T.int)), o1, o2, some (.nd true .lst (ds'.map T.int)), p4, p5, p6, p7])
  | 0, k, ds, o4, o5, o6, o7, h => ⟨ds, o4, o5, o6, o7, by simp [rng_zero]⟩
  | m + 1, k, ds, o4, o5, o6, o7, h => by
    obtain ⟨z, hz⟩ := hc ns k
    have h1 : s_l_digits_2l1 r [some (.nd false .scr (ns.map T.int)), o1, o2, some (.nd true .lst (ds.map T.int)), some (.int k), o5, o6, o7] = some (.ok .nx [some (.nd false .scr (ns.map T.int)), o1, o2, some (.nd true .lst (ds.map T.int)), some (.int k), some (.int z), o6, o7]) := by
      simp [s_l_digits_2l1, strips_int, hz]
    obtain ⟨c, h2⟩ : ∃ c : Int, s_l_digits_2l2 r [some (.nd false .scr (ns.map T.int)), o1, o2, some (.nd true .lst (ds.map T.int)), some (.int k), some (.int z), o6, o7] = some (.ok .nx [some (.nd false .scr (ns.map T.int)), o1, o2, some (.nd true .lst (ds.map T.int)), some (.int k), some (.int c), o6, o7]) := by
      by_cases hn : z < 0
      · exact ⟨1 - 2 * z, by simp [s_l_digits_2l2, s_l_digits_2l2a1, hn]⟩
      · exact ⟨z, by simp [s_l_digits_2l2, hn]⟩
    obtain ⟨ds1, p5, p6, p7, hl, h3⟩ : ∃ (ds1 : List Int) (p5 p6 p7 : Option T), ds1.length ≤ ds.length + 60 ∧ s_l_digits_2l3 r [some (.nd false .scr (ns.map T.int)), o1, o2, some (.nd true .lst (ds.map T.int)), some (.int k), some (.int c), o6, o7] = some (.ok .nx [some (.nd false .scr (ns.map T.int)), o1, o2, some (.nd true .lst (ds1.map T.int)), some (.int k), p5, p6, p7]) := by
      by_cases hb : (1000000000000000000 : Int) ≤ c
      · obtain ⟨ds', c', p6, hl, q⟩ := dig60 r (o0 := some (.nd false .scr (ns.map T.int))) (o1 := o1) (o2 := o2) (o4 := some (.int k)) (o7 := o7) (rngT 0 60) ds c o6 (by simp [rngT]; omega)
        refine ⟨ds', some (.int c'), p6, o7, by simpa [rngT] using hl, ?_⟩
        simp [s_l_digits_2l3, s_l_digits_2l3a1, hb, q]
      · obtain ⟨ds', c', p6, hl, q⟩ := dig12 r (o0 := some (.nd false .scr (ns.map T.int))) (o1 := o1) (o2 := o2) (o4 := some (.int k)) (o5 := some (.int c)) 12 0 ds ((c * 48271 + (k : Int) * 69621 + 11) % 2147483647) o6 (by omega)
        refine ⟨ds', some (.int c), p6, some (.int c'), by omega, ?_⟩
        simp [s_l_digits_2l3, s_l_digits_2l3b1, s_l_digits_2l3b2, hb, mulT_r48271, mulT_r69621, q]
    obtain ⟨ds', q4, q5, q6, q7, ih⟩ := digs hc (ns := ns) (o1 := o1) (o2 := o2) m (k + 1) ds1 (some (.int k)) p5 p6 p7 (by omega)
    refine ⟨ds', q4, q5, q6, q7, ?_⟩
    have hst : sNm 4 (.int k) [some (.nd false .scr (ns.map T.int)), o1, o2, some (.nd true .lst (ds.map T.int)), o4, o5, o6, o7] = some [some (.nd false .scr (ns.map T.int)), o1, o2, some (.nd true .lst (ds.map T.int)), some (.int k), o5, o6, o7] := rfl
    rw [show ((k + 1 : Nat) : Int) = (k : Int) + 1 from by omega] at ih
    rw [rng_succ, dLoop_cons, hst]
    simp only [e_bnd]
    rw [dSs_nx h1, dSs_nx h2, dSs_nx h3]
    simp only [e_dSs0, e_loopF0, ih]
theorem digits_ok {r : Fi → DR} (hc : CellOk (r .l_cell)) (ns : List Int) : ∃ ds : List Int, stp r .l_digits [some (.nd false .scr (ns.map T.int)), some (.int 0), some (.int 63)] = some (.ok (.tv (.nd true .lst (ds.map T.int))) [none, none, none]) := by
  obtain ⟨ds, p4, p5, p6, p7, q⟩ := digs hc (ns := ns) (o1 := some (.int 0)) (o2 := some (.int 63)) 63 0 [] none none none none (by simp)
  refine ⟨ds, def_ret_pl (n := 3) (m := 8) (i := 3) (body := b_l_digits r) (ρ' := [some (.nd false .scr (ns.map T.int)), some (.int 0), some (.int 63), some (.nd true .lst (ds.map T.int)), p4, p5, p6, p7]) ?_ rfl⟩
  · show b_l_digits r [some (.nd false .scr (ns.map T.int)), some (.int 0), some (.int 63), none, none, none, none, none] = _
    unfold b_l_digits
    rw [dSs_nx (ρ' := [some (.nd false .scr (ns.map T.int)), some (.int 0), some (.int 63), some (.nd true .lst []), none, none, none, none]) (by simp)]
    have hr : dRng2 [.int 0, .int 63] = some (rngT 0 63) := dRng2_i (by omega) (by omega) (by omega) (by omega)
    rw [dSs_nx (ρ' := [some (.nd false .scr (ns.map T.int)), some (.int 0), some (.int 63), some (.nd true .lst (ds.map T.int)), p4, p5, p6, p7]) (by
      simp only [List.map_nil, Int.ofNat_zero] at q
      simp [hr]
      exact q)]
    exact dSs_ret (by simp)
def bx (ds : List Int) (p : Int) : T := .nd true .lst [.lst (ds.map T.int), .int p]
def drw (ds : List Int) (p many : Int) : Int := if p < ds.length then ds.getD p.toNat 0 % many else 0
theorem drw_ge {ds : List Int} {p many : Int} (h : 0 < many) : 0 ≤ drw ds p many := by
  unfold drw
  split
  · exact Int.emod_nonneg _ (by omega)
  · omega
theorem drw_lt {ds : List Int} {p many : Int} (h : 0 < many) : drw ds p many < many := by
  unfold drw
  split
  · exact Int.emod_lt_of_pos _ h
  · exact h
def DrawOk (d : DR) : Prop := ∀ (ds : List Int) (p many : Int), 0 ≤ p → 0 < many → d [some (bx ds p), some (.int many)] = some (.ok (.tv (.int (drw ds p many))) [some (bx ds (p + 1)), none])
theorem draw_ok (r : Fi → DR) : DrawOk (stp r .l_draw) := fun ds p many hp hm => by
  have g1 : ∀ (x y : T), getT (.nd true .lst [x, y]) (.int 1) = some y := fun x y => rfl
  have g0 : ∀ (x y : T), getT (.nd true .lst [x, y]) (.int 0) = some x := fun x y => rfl
  have s1 : ∀ (x y v : T), setT (.nd true .lst [x, y]) (.int 1) v = some (.nd true .lst [x, v]) := fun x y v => rfl
  refine def_ret0 (n := 2) (m := 3) (body := b_l_draw r) (ρ' := [some (.int many), some (.int p)]) ?_ (by omega)
  show b_l_draw r [some (bx ds p), some (.int many), none] = _
  unfold b_l_draw
  rw [dSs_nx (ρ' := [some (bx ds p), some (.int many), some (.int p)]) (by simp [bx, g1, -getT_lst])]
  rw [dSs_nx (ρ' := [some (bx ds (p + 1)), some (.int many), some (.int p)]) (by simp [bx, s1])]
  by_cases h : p < ds.length
  · have hk : p.toNat < ds.length := by omega
    have g : getT (.lst (ds.map T.int)) (.int p) = some (.int (ds.getD p.toNat 0)) := by
      have a := at_get (l := ds.map T.int) (i := p.toNat) (x := .int (ds.getD p.toNat 0)) (by simp [hk])
      rw [show ((p.toNat : Nat) : Int) = p by omega] at a
      exact a
    have e : drw ds p many = ds.getD p.toNat 0 % many := if_pos h
    rw [e]
    exact dSs_ret (by simp [bx, g0, g, -getT_lst, strips_int, plains_ints, h, modT_int, hm, -List.getD_eq_getElem?_getD])
  · have e : drw ds p many = 0 := if_neg h
    rw [e]
    rw [dSs_nx (ρ' := [some (bx ds (p + 1)), some (.int many), some (.int p)]) (by simp [bx, g0, -getT_lst, strips_int, plains_ints, h])]
    exact dSs_ret (by simp)
end K10

namespace K10
open PySem L2 MP
/-! ### words that differ -/
@[simp] theorem ne_any_integer : (("any" : Str) = "integer") = False := eq_false (by decide)
@[simp] theorem ne_any_text : (("any" : Str) = "text") = False := eq_false (by decide)
@[simp] theorem ne_any_list : (("any" : Str) = "list") = False := eq_false (by decide)
@[simp] theorem ne_any_record : (("any" : Str) = "record") = False := eq_false (by decide)
@[simp] theorem ne_any_choice : (("any" : Str) = "choice") = False := eq_false (by decide)
@[simp] theorem ne_integer_any : (("integer" : Str) = "any") = False := eq_false (by decide)
@[simp] theorem ne_integer_text : (("integer" : Str) = "text") = False := eq_false (by decide)
@[simp] theorem ne_integer_list : (("integer" : Str) = "list") = False := eq_false (by decide)
@[simp] theorem ne_integer_record : (("integer" : Str) = "record") = False := eq_false (by decide)
@[simp] theorem ne_integer_choice : (("integer" : Str) = "choice") = False := eq_false (by decide)
@[simp] theorem ne_text_any : (("text" : Str) = "any") = False := eq_false (by decide)
@[simp] theorem ne_text_integer : (("text" : Str) = "integer") = False := eq_false (by decide)
@[simp] theorem ne_text_list : (("text" : Str) = "list") = False := eq_false (by decide)
@[simp] theorem ne_text_record : (("text" : Str) = "record") = False := eq_false (by decide)
@[simp] theorem ne_text_choice : (("text" : Str) = "choice") = False := eq_false (by decide)
@[simp] theorem ne_list_any : (("list" : Str) = "any") = False := eq_false (by decide)
@[simp] theorem ne_list_integer : (("list" : Str) = "integer") = False := eq_false (by decide)
@[simp] theorem ne_list_text : (("list" : Str) = "text") = False := eq_false (by decide)
@[simp] theorem ne_list_record : (("list" : Str) = "record") = False := eq_false (by decide)
@[simp] theorem ne_list_choice : (("list" : Str) = "choice") = False := eq_false (by decide)
@[simp] theorem ne_record_any : (("record" : Str) = "any") = False := eq_false (by decide)
@[simp] theorem ne_record_integer : (("record" : Str) = "integer") = False := eq_false (by decide)
@[simp] theorem ne_record_text : (("record" : Str) = "text") = False := eq_false (by decide)
@[simp] theorem ne_record_list : (("record" : Str) = "list") = False := eq_false (by decide)
@[simp] theorem ne_record_choice : (("record" : Str) = "choice") = False := eq_false (by decide)
@[simp] theorem ne_choice_any : (("choice" : Str) = "any") = False := eq_false (by decide)
@[simp] theorem ne_choice_integer : (("choice" : Str) = "integer") = False := eq_false (by decide)
@[simp] theorem ne_choice_text : (("choice" : Str) = "text") = False := eq_false (by decide)
@[simp] theorem ne_choice_list : (("choice" : Str) = "list") = False := eq_false (by decide)
@[simp] theorem ne_choice_record : (("choice" : Str) = "record") = False := eq_false (by decide)
@[simp] theorem ne_required_optional : (("required" : Str) = "optional") = False := eq_false (by decide)
@[simp] theorem ne_required_default : (("required" : Str) = "default") = False := eq_false (by decide)
@[simp] theorem ne_optional_required : (("optional" : Str) = "required") = False := eq_false (by decide)
@[simp] theorem ne_optional_default : (("optional" : Str) = "default") = False := eq_false (by decide)
@[simp] theorem ne_default_required : (("default" : Str) = "required") = False := eq_false (by decide)
@[simp] theorem ne_default_optional : (("default" : Str) = "optional") = False := eq_false (by decide)
@[simp] theorem ne_a_b : (("a" : Str) = "b") = False := eq_false (by decide)
@[simp] theorem ne_a_c : (("a" : Str) = "c") = False := eq_false (by decide)
@[simp] theorem ne_a_d : (("a" : Str) = "d") = False := eq_false (by decide)
@[simp] theorem ne_b_a : (("b" : Str) = "a") = False := eq_false (by decide)
@[simp] theorem ne_b_c : (("b" : Str) = "c") = False := eq_false (by decide)
@[simp] theorem ne_b_d : (("b" : Str) = "d") = False := eq_false (by decide)
@[simp] theorem ne_c_a : (("c" : Str) = "a") = False := eq_false (by decide)
@[simp] theorem ne_c_b : (("c" : Str) = "b") = False := eq_false (by decide)
@[simp] theorem ne_c_d : (("c" : Str) = "d") = False := eq_false (by decide)
@[simp] theorem ne_d_a : (("d" : Str) = "a") = False := eq_false (by decide)
@[simp] theorem ne_d_b : (("d" : Str) = "b") = False := eq_false (by decide)
@[simp] theorem ne_d_c : (("d" : Str) = "c") = False := eq_false (by decide)
/-! ### definitions -/
def AB (x : Str) : Prop := x = "a" ∨ x = "b" ∨ x = "c" ∨ x = "d"
structure OKV (v : T) : Prop where
  st : strip v = v
  fr : v.mk = false
  ok : okT 40 v = true
  nn : isNonT v = false
structure Row where
  nm : Str
  ty : Str
  way : Str
  more : List T
def rwT (w : Row) : T := .tup (.str w.nm :: .str w.ty :: .str w.way :: w.more)
structure RowOk (w : Row) : Prop where
  ty : AB w.ty
  way : (w.way = "required" ∧ w.more = []) ∨ (w.way = "optional" ∧ w.more = []) ∨ (w.way = "default" ∧ ∃ v, w.more = [v] ∧ OKV v)
def four : List Str := ["f", "g", "optional", "root"]
def caT (c : Str × Str) : T := .tup [.str c.1, .str c.2]
def FB (t : T) : Prop := t = .non ∨ ∃ v, t = .tup [.str "t", v] ∧ OKV v
inductive DF : T → Prop
  | any : DF (.tup [.str "any"])
  | int {lo hi : Int} : -6 ≤ lo → lo ≤ 5 → lo ≤ hi → hi ≤ lo + 7 → DF (.tup [.str "integer", .int lo, .int hi])
  | txt {n : Int} : 0 ≤ n → n ≤ 3 → DF (.tup [.str "text", .int n])
  | lst {x : Str} {lo hi : Int} : AB x → 0 ≤ lo → lo ≤ hi → hi ≤ 4 → DF (.tup [.str "list", .str x, .int lo, .int hi])
  | rcd {ws : List Row} : (∀ w ∈ ws, RowOk w) → (ws.map (·.nm)).Sublist four → DF (.tup [.str "record", .tup (ws.map rwT)])
  | cho {x : Str} {fb : T} : AB x → FB fb → DF (.tup [.str "choice", .tup [caT ("t", x)], fb])
  | cho2 {x y : Str} {fb : T} : AB x → AB y → FB fb → DF (.tup [.str "choice", .tup [caT ("t", x), caT ("u", y)], fb])
/-- as it is drawn: not two cases -/
def N2 (t : T) : Prop := ∀ a b c d, t ≠ .tup [a, .tup [b, c], d]
theorem at4 {i : Int} (h0 : 0 ≤ i) (h : i < 4) : ∃ x : Str, AB x ∧ getT (.str "abcd") (.int i) = some (.str x) := by
  have : i = 0 ∨ i = 1 ∨ i = 2 ∨ i = 3 := by omega
  rcases this with rfl | rfl | rfl | rfl
  · exact ⟨"a", .inl rfl, rfl⟩
  · exact ⟨"b", .inr (.inl rfl), rfl⟩
  · exact ⟨"c", .inr (.inr (.inl rfl)), rfl⟩
  · exact ⟨"d", .inr (.inr (.inr rfl)), rfl⟩
def KiOk (d : DR) : Prop := ∀ (ds : List Int) (p : Int) (x : Str), 0 ≤ p → ∃ (p' : Int) (t : T), 0 ≤ p' ∧ (DF t ∧ N2 t) ∧ d [some (bx ds p), some (.str x)] = some (.ok (.tv t) [some (bx ds p'), none])
theorem kind_ok {r : Fi → DR} (hd : DrawOk (r .l_draw)) : KiOk (stp r .l_kind) := fun ds p x hp => by
  have m1 : ∀ p, (bx ds p).mk = true := fun _ => rfl
  have q := hd ds p 6 hp (by omega)
  have a := drw_ge (ds := ds) (p := p) (many := 6) (by omega)
  have b := drw_lt (ds := ds) (p := p) (many := 6) (by omega)
  have fin : ∀ p' t, 0 ≤ p' → DF t → N2 t → (∃ ρ', b_l_kind r [some (bx ds p), some (.str x), none, none] = some (.ok (.ret (.tv t)) (some (bx ds p') :: ρ'))) → ∃ (p' : Int) (t : T), 0 ≤ p' ∧ (DF t ∧ N2 t) ∧ stp r .l_kind [some (bx ds p), some (.str x)] = some (.ok (.tv t) [some (bx ds p'), none]) := fun p' t h1 h2 h3 ⟨ρ', e⟩ =>
    ⟨p', t, h1, ⟨h2, h3⟩, def_ret0 (n := 2) (m := 4) (body := b_l_kind r) (ρ' := ρ') e (by omega)⟩
  have h1 : s_l_kind_1 r [some (bx ds p), some (.str x), none, none] = some (.ok .nx [some (bx ds (p + 1)), some (.str x), some (.int (drw ds p 6)), none]) := by simp [m1, q]
  generalize drw ds p 6 = z at *
  have hz : z = 0 ∨ z = 1 ∨ z = 2 ∨ z = 3 ∨ z = 4 ∨ z = 5 := by omega
  rcases hz with rfl | rfl | rfl | rfl | rfl | rfl
  · exact fin (p + 1) (.tup [.str "any"]) (by omega) .any (fun _ _ _ _ h => by cases h) ⟨[some (.str x), some (.int 0), none], by unfold b_l_kind; rw [dSs_nx h1]; exact dSs_ret (by simp [le60])⟩
  · have q1 := hd ds (p + 1) 12 (by omega) (by omega)
    have a1 := drw_ge (ds := ds) (p := p + 1) (many := 12) (by omega)
    have b1 := drw_lt (ds := ds) (p := p + 1) (many := 12) (by omega)
    have q2 := hd ds (p + 1 + 1) 8 (by omega) (by omega)
    have a2 := drw_ge (ds := ds) (p := p + 1 + 1) (many := 8) (by omega)
    have b2 := drw_lt (ds := ds) (p := p + 1 + 1) (many := 8) (by omega)
    generalize drw ds (p + 1) 12 = u at *
    generalize drw ds (p + 1 + 1) 8 = w at *
    refine fin (p + 1 + 1 + 1) (.tup [.str "integer", .int (u - 6), .int (u - 6 + w)]) (by omega) (.int (by omega) (by omega) (by omega) (by omega)) (fun _ _ _ _ h => by cases h) ⟨[some (.str x), some (.int 1), some (.int (u - 6))], by
      unfold b_l_kind
      rw [dSs_nx h1, dSs_nx (ρ' := [some (bx ds (p + 1)), some (.str x), some (.int 1), none]) (by simp)]
      exact dSs_ret (by simp [m1, q1, q2, le60])⟩
  · have q1 := hd ds (p + 1) 4 (by omega) (by omega)
    have a1 := drw_ge (ds := ds) (p := p + 1) (many := 4) (by omega)
    have b1 := drw_lt (ds := ds) (p := p + 1) (many := 4) (by omega)
    generalize drw ds (p + 1) 4 = u at *
    refine fin (p + 1 + 1) (.tup [.str "text", .int u]) (by omega) (.txt (by omega) (by omega)) (fun _ _ _ _ h => by cases h) ⟨[some (.str x), some (.int 2), none], by
      unfold b_l_kind
      rw [dSs_nx h1, dSs_nx (ρ' := [some (bx ds (p + 1)), some (.str x), some (.int 2), none]) (by simp), dSs_nx (ρ' := [some (bx ds (p + 1)), some (.str x), some (.int 2), none]) (by simp)]
      exact dSs_ret (by simp [m1, q1, le60])⟩
  · have q1 := hd ds (p + 1) 3 (by omega) (by omega)
    have a1 := drw_ge (ds := ds) (p := p + 1) (many := 3) (by omega)
    have b1 := drw_lt (ds := ds) (p := p + 1) (many := 3) (by omega)
    have q2 := hd ds (p + 1 + 1) 4 (by omega) (by omega)
    obtain ⟨y, hy, g⟩ := at4 (drw_ge (ds := ds) (p := p + 1 + 1) (many := 4) (by omega)) (drw_lt (by omega))
    have q3 := hd ds (p + 1 + 1 + 1) 3 (by omega) (by omega)
    have a3 := drw_ge (ds := ds) (p := p + 1 + 1 + 1) (many := 3) (by omega)
    have b3 := drw_lt (ds := ds) (p := p + 1 + 1 + 1) (many := 3) (by omega)
    generalize drw ds (p + 1) 3 = u at *
    generalize drw ds (p + 1 + 1) 4 = v at *
    generalize drw ds (p + 1 + 1 + 1) 3 = w at *
    refine fin (p + 1 + 1 + 1 + 1) (.tup [.str "list", .str y, .int u, .int (u + w)]) (by omega) (.lst hy (by omega) (by omega) (by omega)) (fun _ _ _ _ h => by cases h) ⟨[some (.str x), some (.int 3), some (.int u)], by
      unfold b_l_kind
      rw [dSs_nx h1, dSs_nx (ρ' := [some (bx ds (p + 1)), some (.str x), some (.int 3), none]) (by simp), dSs_nx (ρ' := [some (bx ds (p + 1)), some (.str x), some (.int 3), none]) (by simp), dSs_nx (ρ' := [some (bx ds (p + 1)), some (.str x), some (.int 3), none]) (by simp)]
      exact dSs_ret (by simp [m1, q1, q2, q3, g, le60])⟩
  · refine fin (p + 1) (.tup [.str "record", .tup []]) (by omega) (.rcd (ws := []) (by simp) (by simp)) (fun _ _ _ _ h => by cases h) ⟨[some (.str x), some (.int 4), none], by
      unfold b_l_kind
      rw [dSs_nx h1, dSs_nx (ρ' := [some (bx ds (p + 1)), some (.str x), some (.int 4), none]) (by simp), dSs_nx (ρ' := [some (bx ds (p + 1)), some (.str x), some (.int 4), none]) (by simp), dSs_nx (ρ' := [some (bx ds (p + 1)), some (.str x), some (.int 4), none]) (by simp), dSs_nx (ρ' := [some (bx ds (p + 1)), some (.str x), some (.int 4), none]) (by simp)]
      exact dSs_ret (by simp [le60])⟩
  · have q2 := hd ds (p + 1) 4 (by omega) (by omega)
    obtain ⟨y, hy, g⟩ := at4 (drw_ge (ds := ds) (p := p + 1) (many := 4) (by omega)) (drw_lt (by omega))
    generalize drw ds (p + 1) 4 = v at *
    refine fin (p + 1 + 1) (.tup [.str "choice", .tup [caT ("t", y)], .non]) (by omega) (.cho hy (.inl rfl)) (fun _ _ _ _ h => by cases h) ⟨[some (.str x), some (.int 5), none], by
      unfold b_l_kind
      rw [dSs_nx h1]
      simp [m1, q2, g, le60, caT]⟩
theorem FB.st {t : T} (h : FB t) : strip t = t ∧ t.mk = false := by
  rcases h with rfl | ⟨v, rfl, o⟩
  · exact ⟨rfl, rfl⟩
  · exact ⟨by simp [o.st], rfl⟩
theorem RowOk.st {w : Row} (h : RowOk w) : strip (rwT w) = rwT w := by
  unfold rwT
  rcases h.way with ⟨_, e⟩ | ⟨_, e⟩ | ⟨_, v, e, o⟩ <;> rw [e] <;> simp
  exact o.st
theorem strips_rw {ws : List Row} (h : ∀ w ∈ ws, RowOk w) : strips (ws.map rwT) = ws.map rwT := by
  rw [strips_map, List.map_map]
  exact List.map_congr_left fun w hw => (h w hw).st
theorem DF.st {t : T} (h : DF t) : strip t = t ∧ t.mk = false := by
  cases h with
  | any => exact ⟨rfl, rfl⟩
  | int => exact ⟨rfl, rfl⟩
  | txt => exact ⟨rfl, rfl⟩
  | lst => exact ⟨rfl, rfl⟩
  | rcd a b => exact ⟨by simp [strips_rw a], rfl⟩
  | cho a b => exact ⟨by simp [caT, b.st.1], rfl⟩
  | cho2 a b c => exact ⟨by simp [caT, c.st.1], rfl⟩
end K10

namespace K10
open PySem L2 MP
structure SmV (u : T) : Prop where
  fz : u.mk = false → strip u = u
  ok : strip u = .non ∨ OKV (strip u)
theorem SmV.int {i : Int} : SmV (.int i) := ⟨fun _ => rfl, .inr ⟨rfl, rfl, rfl, rfl⟩⟩
theorem SmV.str {x : Str} : SmV (.str x) := ⟨fun _ => rfl, .inr ⟨rfl, rfl, rfl, rfl⟩⟩
theorem SmV.non : SmV .non := ⟨fun _ => rfl, .inl rfl⟩
def SoOk (d : DR) : Prop := ∀ (t : T) (i : Int), DF t → 0 ≤ i → i < 5 → ∃ u, SmV u ∧ d [some t, some (.int i)] = some (.ok (.tv u) [none, none])
def anyL : T := .lst [.int 3, .str "ab", .lst [.int 1, .str "z"], .dct ((["a", "b"] : List Str).map Sum.inr) [.int 1, .tup [.str "t", .int 0]], .tup [.str "t", .int (-5)]]
theorem some_any {i : Int} (h0 : 0 ≤ i) (h : i < 5) : ∃ u, OKV u ∧ getT anyL (.int i) = some u := by
  have : i = 0 ∨ i = 1 ∨ i = 2 ∨ i = 3 ∨ i = 4 := by omega
  rcases this with rfl | rfl | rfl | rfl | rfl
  · exact ⟨_, ⟨rfl, rfl, rfl, rfl⟩, rfl⟩
  · exact ⟨_, ⟨rfl, rfl, rfl, rfl⟩, rfl⟩
  · exact ⟨_, ⟨rfl, rfl, by decide +kernel, rfl⟩, rfl⟩
  · exact ⟨_, ⟨rfl, rfl, by decide +kernel, rfl⟩, rfl⟩
  · exact ⟨_, ⟨rfl, rfl, by decide +kernel, rfl⟩, rfl⟩
theorem at_0 {x : T} {l : List T} : atI (x :: l) 0 = some x := at_get (l := x :: l) (i := 0) (x := x) rfl
theorem at_1 {x y : T} {l : List T} : atI (x :: y :: l) 1 = some y := at_get (l := x :: y :: l) (i := 1) (x := y) rfl
theorem at_2 {x y z : T} {l : List T} : atI (x :: y :: z :: l) 2 = some z := at_get (l := x :: y :: z :: l) (i := 2) (x := z) rfl
theorem at_3 {x y z w : T} {l : List T} : atI (x :: y :: z :: w :: l) 3 = some w := at_get (l := x :: y :: z :: w :: l) (i := 3) (x := w) rfl
theorem some_ok (r : Fi → DR) : SoOk (stp r .l_some) := fun t i ht h0 h5 => by
  unfold stp
  cases ht with
  | any =>
    obtain ⟨u, ou, g⟩ := some_any h0 h5
    refine ⟨u, ⟨fun _ => ou.st, .inr (by rw [ou.st]; exact ou)⟩, ?_⟩
    unfold anyL at g
    simp only [List.map_cons, List.map_nil] at g
    simp [b_l_some, at_0, g, ou.st, ou.fr, -getT_lst, le60]
  | @int lo hi a b c d => exact ⟨.int lo, .int, by simp [b_l_some, at_0, at_1]⟩
  | @txt n a b =>
    have e : ∃ x : Str, slcT (.str "abz") none (some (if i < n then i else n)) = some (.str x) := by
      show ∃ x : Str, (if ("abz" : Str).length ≤ sizeLine then some (T.str (cutS "abz" none (some (if i < n then i else n)))) else none) = some (.str x)
      rw [if_pos (le60 (by decide))]
      exact ⟨_, rfl⟩
    obtain ⟨x, hx⟩ := e
    exact ⟨.str x, .str, by simp [b_l_some, at_0, at_1, hx]⟩
  | @lst x lo hi a b c d =>
    by_cases e : lo = 0
    · exact ⟨.nd true .lst [], ⟨(fun h => by cases h), .inr ⟨rfl, rfl, rfl, rfl⟩⟩, by simp [b_l_some, at_0, at_2, e, le60]⟩
    · exact ⟨.non, .non, by simp [b_l_some, at_0, at_2, e]⟩
  | @rcd ws a b => exact ⟨.non, .non, by simp [b_l_some, at_0, strips_rw a]⟩
  | @cho x fb a b => exact ⟨.non, .non, by simp [b_l_some, at_0, b.st.1, b.st.2, caT]⟩
  | @cho2 x y fb a b c => exact ⟨.non, .non, by simp [b_l_some, at_0, c.st.1, c.st.2, caT]⟩
end K10

namespace K10
open PySem L2 MP
/-! ### the four definitions: first as they are drawn -/
def abcd : List Str := ["a", "b", "c", "d"]
def DP (k : Nat) (ts : List T) : T := .nd true (.dct ((abcd.take k).map Sum.inr)) ts
theorem DP_mk {k : Nat} {ts : List T} : (DP k ts).mk = true := rfl
theorem setA {k : Nat} (hk : k < 4) {ts : List T} (hl : ts.length = k) {v : T} : ∃ x : Str, abcd[k]? = some x ∧ setT (DP k ts) (.str x) v = some (DP (k + 1) (ts ++ [v])) := by
  have nd : (abcd.take k).Nodup := List.Nodup.sublist (List.take_sublist _ _) (by decide)
  have c : ((abcd.take k).map (Sum.inr : Str → Key)).Nodup ∧ ((abcd.take k).map (Sum.inr : Str → Key)).length = ts.length ∧ ts.length < sizeLine := ⟨nodup_inr nd, by simp [abcd]; omega, Nat.lt_of_le_of_lt (by omega : ts.length ≤ 9) (by decide)⟩
  have e : ∀ x, setT (DP k ts) (.str x) v = match idxOf ((abcd.take k).map (Sum.inr : Str → Key)) (Sum.inr x) with
      | some j => some (.nd true (.dct ((abcd.take k).map Sum.inr)) (ts.set j v))
      | none => some (.nd true (.dct ((abcd.take k).map Sum.inr ++ [Sum.inr x])) (ts ++ [v])) := fun x => if_pos c
  have : k = 0 ∨ k = 1 ∨ k = 2 ∨ k = 3 := by omega
  rcases this with rfl | rfl | rfl | rfl
  · exact ⟨"a", rfl, by rw [e]; rfl⟩
  · exact ⟨"b", rfl, by rw [e]; rfl⟩
  · exact ⟨"c", rfl, by rw [e]; rfl⟩
  · exact ⟨"d", rfl, by rw [e]; rfl⟩
theorem plains_df {ts : List T} (h : ∀ t ∈ ts, DF t) : plains ts = true := by
  unfold plains
  rw [List.all_eq_true]
  intro t ht
  rw [(h t ht).st.2]; rfl
theorem strips_df {ts : List T} (h : ∀ t ∈ ts, DF t) : strips ts = ts := by
  rw [strips_map]
  conv => rhs; rw [← List.map_id ts]
  exact List.map_congr_left fun t ht => (h t ht).st.1
theorem first_loop {r : Fi → DR} (hk : KiOk (r .l_kind)) {ds : List Int} {o3 o4 o5 o6 o7 o8 o9 o10 : Option T} : ∀ (m k : Nat) (p : Int) (ts : List T) (o2 : Option T), 0 ≤ p → k + m = 4 → ts.length = k → (∀ t ∈ ts, DF t) → (∀ t ∈ ts, N2 t) → ∃ (p' : Int) (ts' : List T) (o2' : Option T), 0 ≤ p' ∧ ts'.length = 4 ∧ (∀ t ∈ ts', DF t) ∧ (∀ t ∈ ts', N2 t) ∧
    dLoop (sNm 2) (dSs [s_l_defs_2l1 r]) ((abcd.drop k).map T.str) [some (bx ds p), some (DP k ts), o2, o3, o4, o5, o6, o7, o8, o9, o10] = some (.ok .nx [some (bx ds p'), some (DP 4 ts'), o2', o3, o4, o5, o6, o7, o8, o9, o10])
  | 0, k, p, ts, o2, hp, h, hl, hd, hn => by
    have e : k = 4 := by omega
    subst e
    exact ⟨p, ts, o2, hp, hl, hd, hn, rfl⟩
  | m + 1, k, p, ts, o2, hp, h, hl, hd, hn => by
    obtain ⟨x, gx, _⟩ := setA (by omega : k < 4) hl (v := .non)
    obtain ⟨p1, t, hp1, ⟨dt, nt⟩, q⟩ := hk ds p x hp
    obtain ⟨y, gy, st⟩ := setA (by omega : k < 4) hl (v := t)
    rw [gx] at gy; cases gy
    obtain ⟨p', ts', o2', a1, a2, a3, a4, ih⟩ := first_loop hk (ds := ds) (o3 := o3) (o4 := o4) (o5 := o5) (o6 := o6) (o7 := o7) (o8 := o8) (o9 := o9) (o10 := o10) m (k + 1) p1 (ts ++ [t]) (some (.str x)) hp1 (by omega) (by simp [hl]) (fun u hu => by
      rcases List.mem_append.mp hu with z | z
      · exact hd u z
      · simp only [List.mem_singleton] at z; rw [z]; exact dt) (fun u hu => by
      rcases List.mem_append.mp hu with z | z
      · exact hn u z
      · simp only [List.mem_singleton] at z; rw [z]; exact nt)
    refine ⟨p', ts', o2', a1, a2, a3, a4, ?_⟩
    have hk4 : k < abcd.length := by show k < 4; omega
    have ex : abcd[k] = x := by
      rw [List.getElem?_eq_getElem hk4] at gx
      exact Option.some.inj gx
    rw [List.drop_eq_getElem_cons hk4, ex, List.map_cons, dLoop_cons]
    generalize dLoop (sNm 2) (dSs [s_l_defs_2l1 r]) ((abcd.drop (k + 1)).map T.str) = again at ih
    have m1 : ∀ p, (bx ds p).mk = true := fun _ => rfl
    have pl := plains_df hd
    have pt : plainTop (DP k ts) = true := pl
    have md : (DP k ts).mk = true := rfl
    generalize DP k ts = D at st pt md ⊢
    generalize DP (k + 1) (ts ++ [t]) = D' at st ih
    simp [s_l_defs_2l1, m1, q, dt.st.1, dt.st.2, st, pt, md, ih]
theorem get4 {ts : List T} (hl : ts.length = 4) {x : Str} (hx : AB x) : ∃ t ∈ ts, getT (DP 4 ts) (.str x) = some t := by
  have hx' : x ∈ abcd := by rcases hx with rfl | rfl | rfl | rfl <;> simp [abcd]
  have hl' : abcd.length = ts.length := by rw [hl]; rfl
  exact ⟨_, (lkT_inr hl' hx').2, getT_dct hl' hx'⟩
theorem set4 {ts : List T} (hl : ts.length = 4) {x : Str} (hx : AB x) {v : T} : ∃ ts' : List T, setT (DP 4 ts) (.str x) v = some (DP 4 ts') ∧ ts'.length = 4 ∧ ∀ t ∈ ts', t = v ∨ t ∈ ts := by
  have c : ((abcd.take 4).map (Sum.inr : Str → Key)).Nodup ∧ ((abcd.take 4).map (Sum.inr : Str → Key)).length = ts.length ∧ ts.length < sizeLine := ⟨nodup_inr (by decide), by rw [hl]; rfl, Nat.lt_of_le_of_lt (by omega : ts.length ≤ 9) (by decide)⟩
  have e : ∀ x, setT (DP 4 ts) (.str x) v = match idxOf ((abcd.take 4).map (Sum.inr : Str → Key)) (Sum.inr x) with
      | some j => some (.nd true (.dct ((abcd.take 4).map Sum.inr)) (ts.set j v))
      | none => some (.nd true (.dct ((abcd.take 4).map Sum.inr ++ [Sum.inr x])) (ts ++ [v])) := fun x => if_pos c
  have key : ∀ j, setT (DP 4 ts) (.str x) v = some (DP 4 (ts.set j v)) → ∃ ts' : List T, setT (DP 4 ts) (.str x) v = some (DP 4 ts') ∧ ts'.length = 4 ∧ ∀ t ∈ ts', t = v ∨ t ∈ ts := fun j h => ⟨_, h, by simp [hl], fun t ht => (List.mem_or_eq_of_mem_set ht).symm⟩
  rcases hx with rfl | rfl | rfl | rfl
  · exact key 0 (by rw [e]; rfl)
  · exact key 1 (by rw [e]; rfl)
  · exact key 2 (by rw [e]; rfl)
  · exact key 3 (by rw [e]; rfl)
theorem AB.of {j : Nat} {x : Str} (h : abcd[j]? = some x) : AB x := by
  have hj := (List.getElem?_eq_some_iff.mp h).1
  have hj : j < 4 := hj
  have : j = 0 ∨ j = 1 ∨ j = 2 ∨ j = 3 := by omega
  rcases this with rfl | rfl | rfl | rfl <;> cases h
  · exact .inl rfl
  · exact .inr (.inl rfl)
  · exact .inr (.inr (.inl rfl))
  · exact .inr (.inr (.inr rfl))
theorem get4j {ts : List T} (hl : ts.length = 4) {j : Nat} {x : Str} (h : abcd[j]? = some x) : ∃ t, ts[j]? = some t ∧ getT (DP 4 ts) (.str x) = some t := by
  have hj : j < 4 := (List.getElem?_eq_some_iff.mp h).1
  match ts, hl with
  | [ta, tb, tc, td], _ =>
    have : j = 0 ∨ j = 1 ∨ j = 2 ∨ j = 3 := by omega
    rcases this with rfl | rfl | rfl | rfl <;> cases h
    · exact ⟨ta, rfl, rfl⟩
    · exact ⟨tb, rfl, rfl⟩
    · exact ⟨tc, rfl, rfl⟩
    · exact ⟨td, rfl, rfl⟩
theorem set4j {ts : List T} (hl : ts.length = 4) {j : Nat} {x : Str} (h : abcd[j]? = some x) {v : T} : setT (DP 4 ts) (.str x) v = some (DP 4 (ts.set j v)) := by
  have hj : j < 4 := (List.getElem?_eq_some_iff.mp h).1
  have c : ((abcd.take 4).map (Sum.inr : Str → Key)).Nodup ∧ ((abcd.take 4).map (Sum.inr : Str → Key)).length = ts.length ∧ ts.length < sizeLine := ⟨nodup_inr (by decide), by rw [hl]; rfl, Nat.lt_of_le_of_lt (by omega : ts.length ≤ 9) (by decide)⟩
  have e : ∀ x, setT (DP 4 ts) (.str x) v = match idxOf ((abcd.take 4).map (Sum.inr : Str → Key)) (Sum.inr x) with
      | some j => some (.nd true (.dct ((abcd.take 4).map Sum.inr)) (ts.set j v))
      | none => some (.nd true (.dct ((abcd.take 4).map Sum.inr ++ [Sum.inr x])) (ts ++ [v])) := fun x => if_pos c
  have : j = 0 ∨ j = 1 ∨ j = 2 ∨ j = 3 := by omega
  rcases this with rfl | rfl | rfl | rfl <;> (cases h; rw [e]; rfl)
end K10

namespace K10
open PySem L2 MP
/-! ### then records get their fields -/
theorem four_at {k : Nat} (hk : k < 4) : ∃ x : Str, four[k]? = some x ∧ getT (.lst [.str "f", .str "g", .str "optional", .str "root"]) (.int k) = some (.str x) := by
  have : k = 0 ∨ k = 1 ∨ k = 2 ∨ k = 3 := by omega
  rcases this with rfl | rfl | rfl | rfl
  · exact ⟨"f", rfl, rfl⟩
  · exact ⟨"g", rfl, rfl⟩
  · exact ⟨"optional", rfl, rfl⟩
  · exact ⟨"root", rfl, rfl⟩
theorem plains_rw {ws : List Row} : ((ws.map rwT).all fun t => !t.mk) = true := by
  rw [List.all_map, List.all_eq_true]
  intro w _
  rfl
structure RowsOk (k : Nat) (ws : List Row) : Prop where
  ok : ∀ w ∈ ws, RowOk w
  sub : (ws.map (·.nm)).Sublist (four.take k)
theorem RowsOk.skip {k : Nat} {ws : List Row} (h : RowsOk k ws) : RowsOk (k + 1) ws := ⟨h.ok, h.sub.trans (by rw [List.take_succ]; exact List.sublist_append_left _ _)⟩
theorem RowsOk.add {k : Nat} {ws : List Row} {x ty way : Str} {more : List T} (h : RowsOk k ws) (hx : four[k]? = some x) (hw : RowOk ⟨x, ty, way, more⟩) : RowsOk (k + 1) (ws ++ [⟨x, ty, way, more⟩]) := by
  refine ⟨fun w hm => ?_, ?_⟩
  · rcases List.mem_append.mp hm with z | z
    · exact h.ok w z
    · simp only [List.mem_singleton] at z; rw [z]; exact hw
  · rw [List.map_append, List.take_succ, hx]
    exact h.sub.append (List.Sublist.refl _)
theorem RowsOk.len {k : Nat} {ws : List Row} (h : RowsOk k ws) : ws.length ≤ 4 := by
  have := h.sub.length_le
  simp [four] at this
  omega
theorem field_turn {r : Fi → DR} (hd : DrawOk (r .l_draw)) (hs : SoOk (r .l_some)) {ds : List Int} {ts : List T} (hl : ts.length = 4) (hdf : ∀ t ∈ ts, DF t) {k : Nat} (hk : k < 4) {p : Int} (hp : 0 ≤ p) {ws : List Row} (hw : RowsOk k ws) {o2 o5 o6 o7 o8 o9 o10 : Option T} :
    ∃ (p' : Int) (ws' : List Row) (q5 q6 q7 : Option T), 0 ≤ p' ∧ RowsOk (k + 1) ws' ∧
    dSs [s_l_defs_3l1a2l1 r, s_l_defs_3l1a2l2 r, s_l_defs_3l1a2l3 r, s_l_defs_3l1a2l4 r] [some (bx ds p), some (DP 4 ts), o2, some (.nd true .lst (ws.map rwT)), some (.int k), o5, o6, o7, o8, o9, o10] = some (.ok .nx [some (bx ds p'), some (DP 4 ts), o2, some (.nd true .lst (ws'.map rwT)), some (.int k), q5, q6, q7, o8, o9, o10]) := by
  have m1 : ∀ p, (bx ds p).mk = true := fun _ => rfl
  have md : (DP 4 ts).mk = true := rfl
  have pt : plainTop (DP 4 ts) = true := plains_df hdf
  have q1 := hd ds p 4 hp (by omega)
  obtain ⟨y, hy, gy⟩ := at4 (drw_ge (ds := ds) (p := p) (many := 4) (by omega)) (drw_lt (by omega))
  have q2 := hd ds (p + 1) 5 (by omega) (by omega)
  have a2 := drw_ge (ds := ds) (p := p + 1) (many := 5) (by omega)
  have b2 := drw_lt (ds := ds) (p := p + 1) (many := 5) (by omega)
  have q3 := hd ds (p + 1 + 1) 5 (by omega) (by omega)
  obtain ⟨t, ht, gt⟩ := get4 hl hy
  have dt := hdf t ht
  obtain ⟨u, su, qs⟩ := hs t (drw ds (p + 1) 5) dt a2 b2
  obtain ⟨x, hx, gx⟩ := four_at hk
  have pl := plains_rw (ws := ws)
  have sz : (ws.map rwT).length < sizeLine := Nat.lt_of_le_of_lt (by simpa using hw.len) (by decide : (4 : Nat) < sizeLine)
  generalize DP 4 ts = D at *
  generalize drw ds p 4 = z1 at *
  generalize drw ds (p + 1) 5 = z2 at *
  generalize drw ds (p + 1 + 1) 5 = z3 at *
  have e1 : s_l_defs_3l1a2l1 r [some (bx ds p), some D, o2, some (.nd true .lst (ws.map rwT)), some (.int k), o5, o6, o7, o8, o9, o10] = some (.ok .nx [some (bx ds (p + 1)), some D, o2, some (.nd true .lst (ws.map rwT)), some (.int k), some (.str y), o6, o7, o8, o9, o10]) := by
    simp [s_l_defs_3l1a2l1, m1, q1, gy]
  have e2 : s_l_defs_3l1a2l2 r [some (bx ds (p + 1)), some D, o2, some (.nd true .lst (ws.map rwT)), some (.int k), some (.str y), o6, o7, o8, o9, o10] = some (.ok .nx [some (bx ds (p + 1 + 1)), some D, o2, some (.nd true .lst (ws.map rwT)), some (.int k), some (.str y), some u, o7, o8, o9, o10]) := by
    simp [s_l_defs_3l1a2l2, m1, md, pt, gt, q2, dt.st.1, qs]
  have e3 : s_l_defs_3l1a2l3 r [some (bx ds (p + 1 + 1)), some D, o2, some (.nd true .lst (ws.map rwT)), some (.int k), some (.str y), some u, o7, o8, o9, o10] = some (.ok .nx [some (bx ds (p + 1 + 1 + 1)), some D, o2, some (.nd true .lst (ws.map rwT)), some (.int k), some (.str y), some u, some (.int z3), o8, o9, o10]) := by
    simp [s_l_defs_3l1a2l3, m1, q3]
  have main : ∃ (ws' : List Row) (q6 : Option T), RowsOk (k + 1) ws' ∧ s_l_defs_3l1a2l4 r [some (bx ds (p + 1 + 1 + 1)), some D, o2, some (.nd true .lst (ws.map rwT)), some (.int k), some (.str y), some u, some (.int z3), o8, o9, o10] = some (.ok .nx [some (bx ds (p + 1 + 1 + 1)), some D, o2, some (.nd true .lst (ws'.map rwT)), some (.int k), some (.str y), q6, some (.int z3), o8, o9, o10]) := by
    have ap : ∀ w : Row, ((ws ++ [w]).map rwT) = ws.map rwT ++ [rwT w] := fun w => by simp
    by_cases c0 : z3 = 0
    · refine ⟨_, some u, hw.add (ty := y) (way := "required") (more := []) hx ⟨hy, .inl ⟨rfl, rfl⟩⟩, ?_⟩
      rw [ap]
      generalize ws.map rwT = L at *
      simp [s_l_defs_3l1a2l4, s_l_defs_3l1a2l4a1, c0, isLst, appK, sz, pl, gx, rwT, le60, -getT_lst]
    · by_cases c1 : z3 = 1
      · refine ⟨_, some u, hw.add (ty := y) (way := "optional") (more := []) hx ⟨hy, .inr (.inl ⟨rfl, rfl⟩)⟩, ?_⟩
        rw [ap]
        generalize ws.map rwT = L at *
        simp [s_l_defs_3l1a2l4, s_l_defs_3l1a2l4b1, s_l_defs_3l1a2l4b1a1, c1, isLst, appK, sz, pl, gx, rwT, le60, -getT_lst]
      · by_cases c2 : z3 = 2
        · rcases su.ok with en | ov
          · have mk0 : u.mk = false := by
              cases u with
              | nd m kd l => simp at en
              | _ => rfl
            have eu := su.fz mk0
            rw [en] at eu
            subst eu
            refine ⟨ws, some .non, hw.skip, ?_⟩
            generalize ws.map rwT = L at *
            simp [s_l_defs_3l1a2l4, s_l_defs_3l1a2l4b1, s_l_defs_3l1a2l4b1b1, c2, isNonT]
          · have nn : isNonT (strip u) = false := ov.nn
            refine ⟨_, some (strip u), hw.add (ty := y) (way := "default") (more := [strip u]) hx ⟨hy, .inr (.inr ⟨rfl, _, rfl, ov⟩)⟩, ?_⟩
            rw [ap]
            generalize ws.map rwT = L at *
            cases hm : u.mk with
            | true => simp [s_l_defs_3l1a2l4, s_l_defs_3l1a2l4b1, s_l_defs_3l1a2l4b1b1, s_l_defs_3l1a2l4b1b1a1, c2, hm, nn, ov.st, isLst, appK, sz, pl, gx, rwT, le60, -getT_lst]
            | false =>
              have eu := su.fz hm
              rw [eu] at nn ⊢
              simp [s_l_defs_3l1a2l4, s_l_defs_3l1a2l4b1, s_l_defs_3l1a2l4b1b1, s_l_defs_3l1a2l4b1b1a1, c2, hm, eu, nn, isLst, appK, sz, pl, gx, rwT, le60, -getT_lst]
        · refine ⟨ws, some u, hw.skip, ?_⟩
          generalize ws.map rwT = L at *
          simp [s_l_defs_3l1a2l4, s_l_defs_3l1a2l4b1, s_l_defs_3l1a2l4b1b1, c0, c1, c2]
  obtain ⟨ws', q6, hw', e4⟩ := main
  exact ⟨p + 1 + 1 + 1, ws', some (.str y), q6, some (.int z3), by omega, hw', by rw [dSs_nx e1, dSs_nx e2, dSs_nx e3, dSs_nx e4]; rfl⟩
theorem fields_loop {r : Fi → DR} (hd : DrawOk (r .l_draw)) (hs : SoOk (r .l_some)) {ds : List Int} {ts : List T} (hl : ts.length = 4) (hdf : ∀ t ∈ ts, DF t) {o2 o8 o9 o10 : Option T} : ∀ (m k : Nat) (p : Int) (ws : List Row) (o4 o5 o6 o7 : Option T), 0 ≤ p → k + m = 4 → RowsOk k ws →
    ∃ (p' : Int) (ws' : List Row) (q4 q5 q6 q7 : Option T), 0 ≤ p' ∧ RowsOk 4 ws' ∧
    dLoop (sNm 4) (dSs [s_l_defs_3l1a2l1 r, s_l_defs_3l1a2l2 r, s_l_defs_3l1a2l3 r, s_l_defs_3l1a2l4 r]) (rngT k m) [some (bx ds p), some (DP 4 ts), o2, some (.nd true .lst (ws.map rwT)), o4, o5, o6, o7, o8, o9, o10] = some (.ok .nx [some (bx ds p'), some (DP 4 ts), o2, some (.nd true .lst (ws'.map rwT)), q4, q5, q6, q7, o8, o9, o10])
  | 0, k, p, ws, o4, o5, o6, o7, hp, h, hw => by
    have e : k = 4 := by omega
    subst e
    exact ⟨p, ws, o4, o5, o6, o7, hp, hw, by rw [rng_zero]; rfl⟩
  | m + 1, k, p, ws, o4, o5, o6, o7, hp, h, hw => by
    obtain ⟨p1, ws1, q5, q6, q7, h1, hw1, e⟩ := field_turn hd hs (ds := ds) hl hdf (by omega : k < 4) hp hw (o2 := o2) (o5 := o5) (o6 := o6) (o7 := o7) (o8 := o8) (o9 := o9) (o10 := o10)
    obtain ⟨p', ws', r4, r5, r6, r7, h2, hw2, ih⟩ := fields_loop hd hs (ds := ds) hl hdf (o2 := o2) (o8 := o8) (o9 := o9) (o10 := o10) m (k + 1) p1 ws1 (some (.int k)) q5 q6 q7 h1 (by omega) hw1
    refine ⟨p', ws', r4, r5, r6, r7, h2, hw2, ?_⟩
    have hst : sNm 4 (.int k) [some (bx ds p), some (DP 4 ts), o2, some (.nd true .lst (ws.map rwT)), o4, o5, o6, o7, o8, o9, o10] = some [some (bx ds p), some (DP 4 ts), o2, some (.nd true .lst (ws.map rwT)), some (.int k), o5, o6, o7, o8, o9, o10] := rfl
    rw [show ((k + 1 : Nat) : Int) = (k : Int) + 1 from by omega] at ih
    rw [rng_succ, dLoop_cons, hst]
    show bnd _ _ _ = _
    rw [e_bnd, e]
    exact ih
@[simp] theorem tupleT_lst {m : Bool} {l : List T} : tupleT [.nd m .lst l] = some (.tup l) := rfl
/-- the list of cases is read again -/
theorem cases_run {r : Fi → DR} (hd : DrawOk (r .l_draw)) (hs : SoOk (r .l_some)) {ds : List Int} {ts : List T} (hl : ts.length = 4) (hdf : ∀ t ∈ ts, DF t) {j : Nat} {x y : Str} (hj : abcd[j]? = some x) (hy : AB y) {fb : T} (hfb : FB fb) (gt : getT (DP 4 ts) (.str x) = some (.tup [.str "choice", .tup [caT ("t", y)], fb])) {p : Int} (hp : 0 ≤ p) {o3 o4 o5 o6 o7 o8 o9 : Option T} :
    ∃ (p' : Int) (v : T) (q6 q8 q9 : Option T), 0 ≤ p' ∧ DF v ∧
    dSs [s_l_defs_3l1b1a1 r, s_l_defs_3l1b1a2 r, s_l_defs_3l1b1a3 r, s_l_defs_3l1b1a4 r, s_l_defs_3l1b1a5 r, s_l_defs_3l1b1a6 r] [some (bx ds p), some (DP 4 ts), some (.str x), o3, o4, o5, o6, o7, o8, o9, none] = some (.ok .nx [some (bx ds p'), some (DP 4 (ts.set j v)), some (.str x), o3, o4, o5, q6, o7, q8, q9, none]) := by
  have m1 : ∀ p, (bx ds p).mk = true := fun _ => rfl
  have md : (DP 4 ts).mk = true := rfl
  have pt : plainTop (DP 4 ts) = true := plains_df hdf
  have st : ∀ v, setT (DP 4 ts) (.str x) v = some (DP 4 (ts.set j v)) := fun v => set4j hl hj
  have e1 : s_l_defs_3l1b1a1 r [some (bx ds p), some (DP 4 ts), some (.str x), o3, o4, o5, o6, o7, o8, o9, none] = some (.ok .nx [some (bx ds p), some (DP 4 ts), some (.str x), o3, o4, o5, o6, o7, some (.nd true .lst [caT ("t", y)]), o9, none]) := by
    have lc : lcL (sNm 10) [10] dYes (dV false (dVar 10)) [caT ("t", y)] [some (bx ds p), some (DP 4 ts), some (.str x), o3, o4, o5, o6, o7, o8, o9, none] = some ([caT ("t", y)].map id, [some (bx ds p), some (DP 4 ts), some (.str x), o3, o4, o5, o6, o7, o8, o9, none]) := by
      refine lc_map rfl fun u hu => ?_
      simp only [List.mem_singleton] at hu
      subst hu
      simp [caT]
    generalize DP 4 ts = D at *
    simp [caT] at gt lc
    simp [s_l_defs_3l1b1a1, caT, pt, gt, at_1, lc, bare, le60, hfb.st.1, hfb.st.2]
  have q1 := hd ds p 2 hp (by omega)
  have a1 := drw_ge (ds := ds) (p := p) (many := 2) (by omega)
  have b1 := drw_lt (ds := ds) (p := p) (many := 2) (by omega)
  obtain ⟨p1, cs, h1, hcs, e2⟩ : ∃ (p1 : Int) (cs : List (Str × Str)), 0 ≤ p1 ∧ (cs = [(("t" : Str), y)] ∨ ∃ z, AB z ∧ cs = [(("t" : Str), y), (("u" : Str), z)]) ∧ s_l_defs_3l1b1a2 r [some (bx ds p), some (DP 4 ts), some (.str x), o3, o4, o5, o6, o7, some (.nd true .lst [caT ("t", y)]), o9, none] = some (.ok .nx [some (bx ds p1), some (DP 4 ts), some (.str x), o3, o4, o5, o6, o7, some (.nd true .lst (cs.map caT)), o9, none]) := by
    generalize drw ds p 2 = z at *
    by_cases c : z = 0
    · have q2 := hd ds (p + 1) 4 (by omega) (by omega)
      obtain ⟨w, hw, gw⟩ := at4 (drw_ge (ds := ds) (p := p + 1) (many := 4) (by omega)) (drw_lt (by omega))
      refine ⟨p + 1 + 1, [(("t" : Str), y), (("u" : Str), w)], by omega, .inr ⟨w, hw, rfl⟩, ?_⟩
      have sz : 1 < sizeLine := by decide
      simp [s_l_defs_3l1b1a2, s_l_defs_3l1b1a2a1, m1, q1, c, q2, gw, isLst, appK, caT, le60, sz]
    · exact ⟨p + 1, [(("t" : Str), y)], by omega, .inl rfl, by simp [s_l_defs_3l1b1a2, m1, q1, c]⟩
  have hcs0 : ∃ l, cs = (("t" : Str), y) :: l := by rcases hcs with rfl | ⟨z, _, rfl⟩ <;> exact ⟨_, rfl⟩
  have pcs : ((cs.map caT).all fun t => !t.mk) = true := by
    rw [List.all_map, List.all_eq_true]; intro w _; rfl
  have pcs' : plains (cs.map caT) = true := pcs
  have scs : strips (cs.map caT) = cs.map caT := by
    rw [strips_map, List.map_map]; exact List.map_congr_left fun w _ => by simp [caT]
  have lcs : (cs.map caT).length ≤ sizeLine := le60 (by rcases hcs with rfl | ⟨z, _, rfl⟩ <;> simp)
  have g0 : getT (.nd true .lst (cs.map caT)) (.int 0) = some (caT ("t", y)) := by
    obtain ⟨l, rfl⟩ := hcs0
    exact at_0
  have q3 := hd ds p1 5 h1 (by omega)
  have a3 := drw_ge (ds := ds) (p := p1) (many := 5) (by omega)
  have b3 := drw_lt (ds := ds) (p := p1) (many := 5) (by omega)
  obtain ⟨t2, ht2, g2⟩ := get4 hl hy
  have dt2 := hdf t2 ht2
  obtain ⟨u, su, qs⟩ := hs t2 (drw ds p1 5) dt2 a3 b3
  have q4 := hd ds (p1 + 1) 2 (by omega) (by omega)
  generalize DP 4 ts = D at *
  generalize drw ds p1 5 = z3 at *
  generalize drw ds (p1 + 1) 2 = z4 at *
  have e3 : s_l_defs_3l1b1a3 r [some (bx ds p1), some D, some (.str x), o3, o4, o5, o6, o7, some (.nd true .lst (cs.map caT)), o9, none] = some (.ok .nx [some (bx ds p1), some D, some (.str x), o3, o4, o5, o6, o7, some (.nd true .lst (cs.map caT)), some .non, none]) := by
    simp [s_l_defs_3l1b1a3]
  have gy : getT (caT ("t", y)) (.int 1) = some (.str y) := at_1
  have e4 : s_l_defs_3l1b1a4 r [some (bx ds p1), some D, some (.str x), o3, o4, o5, o6, o7, some (.nd true .lst (cs.map caT)), some .non, none] = some (.ok .nx [some (bx ds (p1 + 1)), some D, some (.str x), o3, o4, o5, some u, o7, some (.nd true .lst (cs.map caT)), some .non, none]) := by
    generalize cs.map caT = L at *
    generalize caT ("t", y) = C at *
    simp [s_l_defs_3l1b1a4, m1, md, pt, g0, gy, g2, q3, dt2.st.1, qs, pcs', -getT_lst]
  obtain ⟨p2, q6, fb', h2, hfb', e5⟩ : ∃ (p2 : Int) (q6 : Option T) (fb' : T), 0 ≤ p2 ∧ FB fb' ∧ s_l_defs_3l1b1a5 r [some (bx ds (p1 + 1)), some D, some (.str x), o3, o4, o5, some u, o7, some (.nd true .lst (cs.map caT)), some .non, none] = some (.ok .nx [some (bx ds p2), some D, some (.str x), o3, o4, o5, q6, o7, some (.nd true .lst (cs.map caT)), some fb', none]) := by
    generalize cs.map caT = L at *
    rcases su.ok with en | ov
    · have mk0 : u.mk = false := by
        cases u with
        | nd m kd l => simp at en
        | _ => rfl
      have eu := su.fz mk0
      rw [en] at eu
      subst eu
      exact ⟨p1 + 1, some .non, .non, by omega, .inl rfl, by simp [s_l_defs_3l1b1a5, isNonT]⟩
    · by_cases c : z4 = 0
      · refine ⟨p1 + 1 + 1, some (strip u), .tup [.str "t", strip u], by omega, .inr ⟨_, rfl, ov⟩, ?_⟩
        cases hm : u.mk with
        | true => simp [s_l_defs_3l1b1a5, s_l_defs_3l1b1a5a1, hm, ov.nn, ov.st, m1, q4, c, le60]
        | false =>
          have eu := su.fz hm
          have nn := ov.nn
          rw [eu] at nn ⊢
          simp [s_l_defs_3l1b1a5, s_l_defs_3l1b1a5a1, hm, eu, nn, m1, q4, c, le60]
      · refine ⟨p1 + 1 + 1, some u, .non, by omega, .inl rfl, ?_⟩
        cases hm : u.mk with
        | true => simp [s_l_defs_3l1b1a5, hm, ov.nn, ov.st, m1, q4, c]
        | false =>
          have eu := su.fz hm
          have nn := ov.nn
          rw [eu] at nn
          simp [s_l_defs_3l1b1a5, hm, eu, nn, m1, q4, c]
  have dv : DF (.tup [.str "choice", .tup (cs.map caT), fb']) := by
    rcases hcs with rfl | ⟨z, hz, rfl⟩
    · exact .cho hy hfb'
    · exact .cho2 hy hz hfb'
  refine ⟨p2, _, q6, some (.lst (cs.map caT)), some fb', h2, dv, ?_⟩
  have st' := st (.tup [.str "choice", .tup (cs.map caT), fb'])
  generalize DP 4 (ts.set j (.tup [.str "choice", .tup (cs.map caT), fb'])) = D' at *
  have e6 : s_l_defs_3l1b1a6 r [some (bx ds p2), some D, some (.str x), o3, o4, o5, q6, o7, some (.nd true .lst (cs.map caT)), some fb', none] = some (.ok .nx [some (bx ds p2), some D', some (.str x), o3, o4, o5, q6, o7, some (.lst (cs.map caT)), some fb', none]) := by
    generalize cs.map caT = L at *
    simp [s_l_defs_3l1b1a6, scs, hfb'.st.1, hfb'.st.2, md, pt, st', le60]
  rw [dSs_nx e1, dSs_nx e2, dSs_nx e3, dSs_nx e4, dSs_nx e5, dSs_nx e6]
  rfl
end K10

namespace K10
open PySem L2 MP
/-- one name of the four -/
theorem second_turn {r : Fi → DR} (hd : DrawOk (r .l_draw)) (hs : SoOk (r .l_some)) {ds : List Int} {ts : List T} (hl : ts.length = 4) (hdf : ∀ t ∈ ts, DF t) {j : Nat} {x : Str} (hj : abcd[j]? = some x) (hn : ∀ t, ts[j]? = some t → N2 t) {p : Int} (hp : 0 ≤ p) {o3 o4 o5 o6 o7 o8 o9 : Option T} :
    ∃ (p' : Int) (v : T) (q3 q4 q5 q6 q7 q8 q9 : Option T), 0 ≤ p' ∧ DF v ∧
    dSs [s_l_defs_3l1 r] [some (bx ds p), some (DP 4 ts), some (.str x), o3, o4, o5, o6, o7, o8, o9, none] = some (.ok .nx [some (bx ds p'), some (DP 4 (ts.set j v)), some (.str x), q3, q4, q5, q6, q7, q8, q9, none]) := by
  have m1 : ∀ p, (bx ds p).mk = true := fun _ => rfl
  obtain ⟨t, ht, gt⟩ := get4j hl hj
  have dt := hdf t (List.mem_of_getElem? ht)
  have md : ∀ ts, (DP 4 ts).mk = true := fun _ => rfl
  have pt : plainTop (DP 4 ts) = true := plains_df hdf
  have st : ∀ v, setT (DP 4 ts) (.str x) v = some (DP 4 (ts.set j v)) := fun v => set4j hl hj
  have n2 := hn t ht
  have same : ∀ w : Str, getT t (.int 0) = some (.str w) → plainTop t = true → w ≠ "record" → w ≠ "choice" → ∃ (p' : Int) (v : T) (q3 q4 q5 q6 q7 q8 q9 : Option T), 0 ≤ p' ∧ DF v ∧
    dSs [s_l_defs_3l1 r] [some (bx ds p), some (DP 4 ts), some (.str x), o3, o4, o5, o6, o7, o8, o9, none] = some (.ok .nx [some (bx ds p'), some (DP 4 (ts.set j v)), some (.str x), q3, q4, q5, q6, q7, q8, q9, none]) := fun w gw pw n1 n2 => by
    refine ⟨p, t, o3, o4, o5, o6, o7, o8, o9, hp, dt, ?_⟩
    have e : ts.set j t = ts := set_self ht
    rw [e]
    have f1 : (w == "record") = false := by simpa using n1
    have f2 : (w == "choice") = false := by simpa using n2
    generalize DP 4 ts = D at *
    simp [s_l_defs_3l1, s_l_defs_3l1b1, pt, gt, gw, n1, n2, -getT_tup]
  cases dt with
  | any => exact same "any" at_0 rfl (by decide) (by decide)
  | int => exact same "integer" at_0 rfl (by decide) (by decide)
  | txt => exact same "text" at_0 rfl (by decide) (by decide)
  | lst => exact same "list" at_0 rfl (by decide) (by decide)
  | @rcd ws0 a0 b0 =>
    obtain ⟨p1, ws, q4, q5, q6, q7, h1, hw, lp⟩ := fields_loop hd hs (ds := ds) hl hdf (o2 := some (.str x)) (o8 := o8) (o9 := o9) (o10 := none) 4 0 p [] o4 o5 o6 o7 hp (by omega) ⟨by simp, by simp⟩
    have dv : DF (.tup [.str "record", .tup (ws.map rwT)]) := .rcd hw.ok (by have := hw.sub; rwa [show four.take 4 = four from rfl] at this)
    refine ⟨p1, _, some (.lst (ws.map rwT)), q4, q5, q6, q7, o8, o9, h1, dv, ?_⟩
    have st' := st (.tup [.str "record", .tup (ws.map rwT)])
    have md' := md ts
    have sw := strips_rw hw.ok
    have rg : dRng1 [.int 4] = some (rngT 0 4) := rng1_4
    have g0 : getT (.tup [.str "record", .tup (ws0.map rwT)]) (.int 0) = some (.str "record") := at_0
    generalize DP 4 (ts.set j (.tup [.str "record", .tup (ws.map rwT)])) = D' at *
    generalize DP 4 ts = D at *
    generalize ws.map rwT = L at *
    generalize ws0.map rwT = L0 at *
    simp only [List.map_nil, Int.ofNat_zero, Int.natCast_zero] at lp
    generalize rngT 0 4 = G at lp rg
    simp [s_l_defs_3l1, s_l_defs_3l1a1, s_l_defs_3l1a2, s_l_defs_3l1a3, pt, md', gt, g0, rg, lp, sw, st', le60, -getT_tup, -rng1_4]
  | @cho y fb hy hf =>
    obtain ⟨p1, v, q6, q8, q9, h1, dv, e⟩ := cases_run hd hs (ds := ds) hl hdf hj hy hf gt hp (o3 := o3) (o4 := o4) (o5 := o5) (o6 := o6) (o7 := o7) (o8 := o8) (o9 := o9)
    refine ⟨p1, v, o3, o4, o5, q6, o7, q8, q9, h1, dv, ?_⟩
    have g0 : getT (.tup [.str "choice", .tup [caT ("t", y)], fb]) (.int 0) = some (.str "choice") := at_0
    have pf : plainTop (.tup [.str "choice", .tup [caT ("t", y)], fb]) = true := by
      show ([T.str "choice", T.tup [caT ("t", y)], fb].all fun t => !t.mk) = true
      simp [hf.st.2]
    generalize DP 4 (ts.set j v) = D' at *
    generalize DP 4 ts = D at *
    unfold s_l_defs_3l1 s_l_defs_3l1b1
    generalize dSs [s_l_defs_3l1b1a1 r, s_l_defs_3l1b1a2 r, s_l_defs_3l1b1a3 r, s_l_defs_3l1b1a4 r, s_l_defs_3l1b1a5 r, s_l_defs_3l1b1a6 r] = S at e ⊢
    generalize caT ("t", y) = C at *
    simp [pt, gt, g0, pf, e, -getT_tup]
  | @cho2 y z fb hy hz hf => exact absurd rfl (n2 _ _ _ _)
theorem second_loop {r : Fi → DR} (hd : DrawOk (r .l_draw)) (hs : SoOk (r .l_some)) {ds : List Int} : ∀ (m k : Nat) (p : Int) (ts : List T) (o2 o3 o4 o5 o6 o7 o8 o9 : Option T), 0 ≤ p → k + m = 4 → ts.length = 4 → (∀ t ∈ ts, DF t) → (∀ j t, k ≤ j → ts[j]? = some t → N2 t) →
    ∃ (p' : Int) (ts' : List T) (q2 q3 q4 q5 q6 q7 q8 q9 : Option T), 0 ≤ p' ∧ ts'.length = 4 ∧ (∀ t ∈ ts', DF t) ∧
    dLoop (sNm 2) (dSs [s_l_defs_3l1 r]) ((abcd.drop k).map T.str) [some (bx ds p), some (DP 4 ts), o2, o3, o4, o5, o6, o7, o8, o9, none] = some (.ok .nx [some (bx ds p'), some (DP 4 ts'), q2, q3, q4, q5, q6, q7, q8, q9, none])
  | 0, k, p, ts, o2, o3, o4, o5, o6, o7, o8, o9, hp, h, hl, hdf, hn => by
    have e : k = 4 := by omega
    subst e
    exact ⟨p, ts, o2, o3, o4, o5, o6, o7, o8, o9, hp, hl, hdf, rfl⟩
  | m + 1, k, p, ts, o2, o3, o4, o5, o6, o7, o8, o9, hp, h, hl, hdf, hn => by
    have hk4 : k < abcd.length := by show k < 4; omega
    obtain ⟨p1, v, q3, q4, q5, q6, q7, q8, q9, h1, dv, e⟩ := second_turn hd hs (ds := ds) hl hdf (j := k) (x := abcd[k]) (List.getElem?_eq_getElem hk4) (fun t ht => hn k t (Nat.le_refl _) ht) hp (o3 := o3) (o4 := o4) (o5 := o5) (o6 := o6) (o7 := o7) (o8 := o8) (o9 := o9)
    obtain ⟨p', ts', r2, r3, r4, r5, r6, r7, r8, r9, a1, a2, a3, ih⟩ := second_loop hd hs (ds := ds) m (k + 1) p1 (ts.set k v) (some (.str abcd[k])) q3 q4 q5 q6 q7 q8 q9 h1 (by omega) (by simp [hl]) (fun t ht => by
      rcases List.mem_or_eq_of_mem_set ht with z | z
      · exact hdf t z
      · rw [z]; exact dv) (fun j t hj ht => hn j t (by omega) (by rwa [List.getElem?_set_ne (by omega)] at ht))
    refine ⟨p', ts', r2, r3, r4, r5, r6, r7, r8, r9, a1, a2, a3, ?_⟩
    have hst : sNm 2 (.str abcd[k]) [some (bx ds p), some (DP 4 ts), o2, o3, o4, o5, o6, o7, o8, o9, none] = some [some (bx ds p), some (DP 4 ts), some (.str abcd[k]), o3, o4, o5, o6, o7, o8, o9, none] := rfl
    rw [List.drop_eq_getElem_cons hk4, List.map_cons, dLoop_cons, hst]
    show bnd _ _ _ = _
    rw [e_bnd, e]
    exact ih
def DefsOk (d : DR) : Prop := ∀ (ds : List Int) (p : Int), 0 ≤ p → ∃ (p' : Int) (ts : List T), 0 ≤ p' ∧ ts.length = 4 ∧ (∀ t ∈ ts, DF t) ∧ d [some (bx ds p)] = some (.ok (.tv (DP 4 ts)) [some (bx ds p')])
theorem defs_ok {r : Fi → DR} (hd : DrawOk (r .l_draw)) (hk : KiOk (r .l_kind)) (hs : SoOk (r .l_some)) : DefsOk (stp r .l_defs) := fun ds p hp => by
  obtain ⟨p1, ts1, o2, h1, l1, d1, n1, lp1⟩ := first_loop hk (ds := ds) (o3 := none) (o4 := none) (o5 := none) (o6 := none) (o7 := none) (o8 := none) (o9 := none) (o10 := none) 4 0 p [] none hp rfl rfl (by simp) (by simp)
  obtain ⟨p2, ts2, q2, q3, q4, q5, q6, q7, q8, q9, h2, l2, d2, lp2⟩ := second_loop hd hs (ds := ds) 4 0 p1 ts1 o2 none none none none none none none h1 rfl l1 d1 (fun j t _ ht => n1 t (List.mem_of_getElem? ht))
  refine ⟨p2, ts2, h2, l2, d2, def_ret0_pl (n := 1) (m := 11) (i := 1) (body := b_l_defs r) (ρ' := [some (DP 4 ts2), q2, q3, q4, q5, q6, q7, q8, q9, none]) (t := DP 4 ts2) ?_ (by omega) rfl (by omega)⟩
  show b_l_defs r [some (bx ds p), none, none, none, none, none, none, none, none, none, none] = _
  have sg : signs "abcd" = (abcd.drop 0).map T.str := rfl
  have e1 : s_l_defs_1 r [some (bx ds p), none, none, none, none, none, none, none, none, none, none] = some (.ok .nx [some (bx ds p), some (DP 0 []), none, none, none, none, none, none, none, none, none]) := by
    simp; rfl
  have e2 : s_l_defs_2 r [some (bx ds p), some (DP 0 []), none, none, none, none, none, none, none, none, none] = some (.ok .nx [some (bx ds p1), some (DP 4 ts1), o2, none, none, none, none, none, none, none, none]) := by
    have it : dItV (dC (.str "abcd")) [some (bx ds p), some (DP 0 []), none, none, none, none, none, none, none, none, none] = some (.ok ((abcd.drop 0).map T.str) [some (bx ds p), some (DP 0 []), none, none, none, none, none, none, none, none, none]) := rfl
    unfold s_l_defs_2
    rw [e_dFor, e_bnd, it]
    exact lp1
  have e3 : s_l_defs_3 r [some (bx ds p1), some (DP 4 ts1), o2, none, none, none, none, none, none, none, none] = some (.ok .nx [some (bx ds p2), some (DP 4 ts2), q2, q3, q4, q5, q6, q7, q8, q9, none]) := by
    have it : dItV (dC (.str "abcd")) [some (bx ds p1), some (DP 4 ts1), o2, none, none, none, none, none, none, none, none] = some (.ok ((abcd.drop 0).map T.str) [some (bx ds p1), some (DP 4 ts1), o2, none, none, none, none, none, none, none, none]) := rfl
    unfold s_l_defs_3
    rw [e_dFor, e_bnd, it]
    exact lp2
  unfold b_l_defs
  rw [dSs_nx e1, dSs_nx e2, dSs_nx e3]
  have md : (DP 4 ts2).mk = true := rfl
  generalize DP 4 ts2 = D at *
  exact dSs_ret (by simp [md])
end K10

namespace K10
open PySem L2 MP
/-! ### names in order -/
def ltAt (ns : List Str) (i : Nat) : Bool := ltS (ns.getD i "") (ns.getD (i + 1) "")
def ascB (ns : List Str) : Bool := ns.all nameB && (List.range (ns.length - 1)).all (ltAt ns)
def AscIs (d : DR) : Prop := ∀ ns : List Str, ns.length < 60 → (∀ x ∈ ns, x.length < 1000) → d [some (.lst (ns.map T.str))] = some (.ok (.tv (.bl (ascB ns))) [none])
theorem asc_ok {r : Fi → DR} (hn : NameIs (r .is_name)) : AscIs (stp r .are_ascending) := fun ns h60 hs => by
  unfold stp
  have st := strips_strs ns
  have g1 : gnL false (sNm 1) [1] (dV false (dCall (fdo r .is_name) (dArgs false (fdo r .is_name).io 0 [dVar 1]))) (ns.map T.str) [some (.lst (ns.map T.str)), none, none] = some (ns.all nameB, [some (.lst (ns.map T.str)), none, none]) := by
    rw [gnL_nm (f := fun t => match t with | .str x => nameB x | _ => false) rfl fun u hu => ?_]
    · rw [List.all_map]; rfl
    · obtain ⟨x, hx, rfl⟩ := List.mem_map.mp hu
      have q := hn x (hs x hx)
      generalize ns.map T.str = L
      simp [q]
  have rg : dRng1 [.int ((ns.length : Int) - 1)] = some (rngT 0 (ns.length - 1)) := by
    show (if ((ns.length : Int) - 1).natAbs < 4611686018427387904 then some (rngT 0 ((ns.length : Int) - 1).toNat) else none) = _
    rw [if_pos (by omega), show ((ns.length : Int) - 1).toNat = ns.length - 1 by omega]
  have pl : plains (ns.map T.str) = true := by
    unfold plains
    rw [List.all_map, List.all_eq_true]; intro x _; rfl
  have g2 : gnL false (sNm 2) [2] (dCmp ltT (dH (dR (dSubv 0 (dV false (dVar 2))))) (dH (dR (dSubv 0 (dV true (dB addT (dV true (dVar 2)) (dC (.int 1)))))))) (rngT 0 (ns.length - 1)) [some (.lst (ns.map T.str)), none, none] = some ((List.range (ns.length - 1)).all (ltAt ns), [some (.lst (ns.map T.str)), none, none]) := by
    rw [gnL_nm (f := fun t => match t with | .int i => ltAt ns i.toNat | _ => false) rfl fun u hu => ?_]
    · unfold rngT
      rw [List.all_map]
      simp [Function.comp_def]
    · obtain ⟨i, hi, rfl⟩ := List.mem_map.mp hu
      have hi := List.mem_range.mp hi
      have a1 : atI (ns.map T.str) (i : Int) = some (.str (ns.getD i "")) := at_get (by simp [List.getElem?_eq_getElem (by omega : i < ns.length), List.getD])
      have a2 : atI (ns.map T.str) ((i : Int) + 1) = some (.str (ns.getD (i + 1) "")) := by
        have := at_get (l := ns.map T.str) (i := i + 1) (x := .str (ns.getD (i + 1) "")) (by simp [List.getElem?_eq_getElem (by omega : i + 1 < ns.length), List.getD])
        rw [show ((i + 1 : Nat) : Int) = (i : Int) + 1 by omega] at this
        exact this
      have e : ltAt ns ((0 : Int) + (i : Int)).toNat = ltS (ns.getD i "") (ns.getD (i + 1) "") := by
        rw [show ((0 : Int) + (i : Int)).toNat = i by omega]; rfl
      show _ = some (Out.ok (T.bl (ltAt ns ((0 : Int) + (i : Int)).toNat)) _)
      rw [e]
      generalize ns.getD i "" = A at *
      generalize ns.getD (i + 1) "" = B at *
      generalize ns.map T.str = L at *
      simp [a1, a2, pl]
  unfold ascB
  have ll : ((ns.map T.str).length : Int) = (ns.length : Int) := by simp
  generalize (List.range (ns.length - 1)).all (ltAt ns) = B2 at *
  generalize rngT 0 (ns.length - 1) = G at *
  cases hb : ns.all nameB with
  | true =>
    rw [hb] at g1
    generalize ns.map T.str = L at *
    simp [b_are_ascending, st, bare, g1, ll, rg, g2]
  | false =>
    rw [hb] at g1
    generalize ns.map T.str = L at *
    simp [b_are_ascending, st, bare, g1]
end K10

namespace K10
open PySem L2 MP
/-! ### types of definitions -/
theorem lc_fld {α : Type} {f g : α → T} {i : Nat} {j : Int} {ρ : Rho} (hb : ρ[i]? = some none) {l : List α} (h : ∀ a ∈ l, getT (f a) (.int j) = some (g a) ∧ plainTop (f a) = true) : lcL (sNm i) [i] dYes (dSubv i (dC (.int j))) (l.map f) ρ = some (l.map g, ρ) := by
  have hi : i < ρ.length := by
    rcases Nat.lt_or_ge i ρ.length with z | z
    · exact z
    · rw [List.getElem?_eq_none z] at hb; cases hb
  rw [lc_map (g := fun t => (getT t (.int j)).getD .non) hb fun t ht => ?_]
  · rw [List.map_map]
    congr 2
    exact List.map_congr_left fun a ha => by simp [(h a ha).1]
  · obtain ⟨a, ha, rfl⟩ := List.mem_map.mp ht
    obtain ⟨h1, h2⟩ := h a ha
    have g0 : (ρ.set i (some (f a)))[i]? = some (some (f a)) := List.getElem?_set_self hi
    simp [g0, h1, h2]
structure RowFr (w : Row) : Prop where
  st : strip (rwT w) = rwT w
  pl : plainTop (rwT w) = true
theorem RowOk.to {w : Row} (h : RowOk w) : RowFr w := ⟨h.st, by
  show ((T.str w.nm :: T.str w.ty :: T.str w.way :: w.more).all fun t => !t.mk) = true
  rcases h.way with ⟨_, e⟩ | ⟨_, e⟩ | ⟨_, v, e, o⟩ <;> rw [e] <;> simp
  exact o.fr⟩
theorem strips_fr {ws : List Row} (h : ∀ w ∈ ws, RowFr w) : strips (ws.map rwT) = ws.map rwT := by
  rw [strips_map, List.map_map]
  exact List.map_congr_left fun w hw => (h w hw).st
theorem strips_ca (cs : List (Str × Str)) : strips (cs.map caT) = cs.map caT := by
  rw [strips_map, List.map_map]; exact List.map_congr_left fun w _ => by simp [caT]
theorem rw_0 {w : Row} : getT (rwT w) (.int 0) = some (.str w.nm) := at_0
theorem rw_1 {w : Row} : getT (rwT w) (.int 1) = some (.str w.ty) := at_1
theorem rw_2 {w : Row} : getT (rwT w) (.int 2) = some (.str w.way) := at_2
theorem ca_0 {c : Str × Str} : getT (caT c) (.int 0) = some (.str c.1) := at_0
theorem ca_1 {c : Str × Str} : getT (caT c) (.int 1) = some (.str c.2) := at_1
theorem ca_pl {c : Str × Str} : plainTop (caT c) = true := rfl
inductive Ty : T → List Str → Prop
  | any : Ty (.tup [.str "any"]) []
  | int {lo hi : Int} : Ty (.tup [.str "integer", .int lo, .int hi]) []
  | txt {n : Int} : Ty (.tup [.str "text", .int n]) []
  | lst {x : Str} {lo hi : Int} : Ty (.tup [.str "list", .str x, .int lo, .int hi]) [x]
  | rcd {ws : List Row} : (∀ w ∈ ws, RowFr w) → ws.length < 60 → Ty (.tup [.str "record", .tup (ws.map rwT)]) (ws.map (·.ty))
  | cho {cs : List (Str × Str)} {fb : T} : cs.length < 60 → strip fb = fb → fb.mk = false → Ty (.tup [.str "choice", .tup (cs.map caT), fb]) (cs.map (·.2))
def TyIs (d : DR) : Prop := ∀ t tys, Ty t tys → d [some t] = some (.ok (.tv (.nd true .lst (tys.map T.str))) [none])
theorem types_ok (r : Fi → DR) : TyIs (stp r .types_of) := fun t tys h => by
  unfold stp
  cases h with
  | any => simp [b_types_of, at_0, le60]
  | int => simp [b_types_of, at_0, le60]
  | txt => simp [b_types_of, at_0, le60]
  | lst => simp [b_types_of, at_0, at_1, le60]
  | @rcd ws a b =>
    have lc : ∀ {t0 o2 : Option T}, lcL (sNm 1) [1] dYes (dSubv 1 (dC (.int 1))) (ws.map rwT) [t0, none, o2] = some (ws.map fun w => .str w.ty, [t0, none, o2]) := lc_fld rfl fun w hw => ⟨rw_1, (a w hw).pl⟩
    have le : (ws.map rwT).length ≤ sizeLine := le60 (by simp; omega)
    have e : (ws.map (·.ty)).map T.str = ws.map fun w => .str w.ty := by rw [List.map_map]; rfl
    rw [e]
    generalize (ws.map fun w => T.str w.ty) = R at *
    generalize ws.map rwT = L at *
    simp [b_types_of, at_0, at_1, lc, le, bare]
  | @cho cs fb a b c =>
    have lc : ∀ {t0 o1 : Option T}, lcL (sNm 2) [2] dYes (dSubv 2 (dC (.int 1))) (cs.map caT) [t0, o1, none] = some (cs.map fun c => .str c.2, [t0, o1, none]) := lc_fld rfl fun w hw => ⟨ca_1, ca_pl⟩
    have le : (cs.map caT).length ≤ sizeLine := le60 (by simp; omega)
    have e : (cs.map (·.2)).map T.str = cs.map fun w => .str w.2 := by rw [List.map_map]; rfl
    rw [e]
    generalize (cs.map fun w => T.str w.2) = R at *
    generalize cs.map caT = L at *
    simp [b_types_of, at_0, at_1, lc, le, bare, b, c]
theorem l_types_ok (r : Fi → DR) : TyIs (stp r .l_types) := fun t tys h => by
  unfold stp
  cases h with
  | any => simp [b_l_types, at_0, le60]
  | int => simp [b_l_types, at_0, le60]
  | txt => simp [b_l_types, at_0, le60]
  | lst => simp [b_l_types, at_0, at_1, le60]
  | @rcd ws a b =>
    have lc : ∀ {t0 : Option T}, lcL (sNm 1) [1] dYes (dSubv 1 (dC (.int 1))) (ws.map rwT) [t0, none] = some (ws.map fun w => .str w.ty, [t0, none]) := lc_fld rfl fun w hw => ⟨rw_1, (a w hw).pl⟩
    have le : (ws.map rwT).length ≤ sizeLine := le60 (by simp; omega)
    have e : (ws.map (·.ty)).map T.str = ws.map fun w => .str w.ty := by rw [List.map_map]; rfl
    rw [e]
    generalize (ws.map fun w => T.str w.ty) = R at *
    generalize ws.map rwT = L at *
    simp [b_l_types, at_0, at_1, lc, le, bare]
  | @cho cs fb a b c =>
    have lc : ∀ {t0 : Option T}, lcL (sNm 1) [1] dYes (dSubv 1 (dC (.int 1))) (cs.map caT) [t0, none] = some (cs.map fun c => .str c.2, [t0, none]) := lc_fld rfl fun w hw => ⟨ca_1, ca_pl⟩
    have le : (cs.map caT).length ≤ sizeLine := le60 (by simp; omega)
    have e : (cs.map (·.2)).map T.str = cs.map fun w => .str w.2 := by rw [List.map_map]; rfl
    rw [e]
    generalize (cs.map fun w => T.str w.2) = R at *
    generalize cs.map caT = L at *
    simp [b_l_types, at_0, at_1, lc, le, bare, b, c]
end K10

namespace K10
open PySem L2 MP
/-! ### what is a definition -/
structure DefIs (d : DR) : Prop where
  any : d [some (.tup [.str "any"])] = some (.ok (.tv (.bl true)) [none])
  int : ∀ lo hi : Int, d [some (.tup [.str "integer", .int lo, .int hi])] = some (.ok (.tv (.bl (decide (-999999 ≤ lo) && decide (lo ≤ hi) && decide (hi ≤ 999999)))) [none])
  txt : ∀ n : Int, d [some (.tup [.str "text", .int n])] = some (.ok (.tv (.bl (decide (0 ≤ n) && decide (n ≤ 9)))) [none])
  lst : ∀ (x : Str) (lo hi : Int), d [some (.tup [.str "list", .str x, .int lo, .int hi])] = some (.ok (.tv (.bl (decide (0 ≤ lo) && decide (lo ≤ hi) && decide (hi ≤ 9)))) [none])
  rcd : ∀ ws : List Row, (∀ w ∈ ws, RowFr w) → ws.length < 60 → (∀ w ∈ ws, w.nm.length < 1000) → d [some (.tup [.str "record", .tup (ws.map rwT)])] = some (.ok (.tv (.bl (decide (ws.length ≤ 4) && ascB (ws.map (·.nm))))) [none])
  cho : ∀ (cs : List (Str × Str)) (fb : T), strip fb = fb → fb.mk = false → cs.length < 60 → (∀ c ∈ cs, c.1.length < 1000) → d [some (.tup [.str "choice", .tup (cs.map caT), fb])] = some (.ok (.tv (.bl (decide (1 ≤ cs.length) && decide (cs.length ≤ 4) && ascB (cs.map (·.1))))) [none])
theorem isDef_ok {r : Fi → DR} (ha : AscIs (r .are_ascending)) : DefIs (stp r .is_definition) where
  any := by unfold stp; simp [b_is_definition, at_0]
  int := fun lo hi => by
    unfold stp
    by_cases a : -999999 ≤ lo
    · by_cases b : lo ≤ hi
      · simp [b_is_definition, at_0, at_1, at_2, a, b]
      · simp [b_is_definition, at_0, at_1, at_2, a, b]
    · simp [b_is_definition, at_0, at_1, at_2, a]
  txt := fun n => by
    unfold stp
    by_cases a : 0 ≤ n
    · simp [b_is_definition, at_0, at_1, a]
    · simp [b_is_definition, at_0, at_1, a]
  lst := fun x lo hi => by
    unfold stp
    by_cases a : 0 ≤ lo
    · by_cases b : lo ≤ hi
      · simp [b_is_definition, at_0, at_2, at_3, a, b]
      · simp [b_is_definition, at_0, at_2, at_3, a, b]
    · simp [b_is_definition, at_0, at_2, at_3, a]
  rcd := fun ws hf h60 hn => by
    unfold stp
    have lc : ∀ {t0 o2 : Option T}, lcL (sNm 1) [1] dYes (dSubv 1 (dC (.int 0))) (ws.map rwT) [t0, none, o2] = some (ws.map fun w => .str w.nm, [t0, none, o2]) := lc_fld rfl fun w hw => ⟨rw_0, (hf w hw).pl⟩
    have le : (ws.map rwT).length ≤ sizeLine := le60 (by simp; omega)
    have e : (ws.map fun w => T.str w.nm) = (ws.map (·.nm)).map T.str := by rw [List.map_map]; rfl
    rw [e] at lc
    have q := ha (ws.map (·.nm)) (by simpa using h60) (by
      intro x hx
      obtain ⟨w, hw, rfl⟩ := List.mem_map.mp hx
      exact hn w hw)
    have ss := strips_strs (ws.map (·.nm))
    have sf := strips_fr hf
    have ll : ((ws.map rwT).length : Int) = (ws.length : Int) := by simp
    generalize ascB (ws.map (·.nm)) = B at *
    generalize (ws.map (·.nm)).map T.str = R at *
    by_cases c : ws.length ≤ 4
    · have ci : ((ws.map rwT).length : Int) ≤ 4 := by rw [ll]; omega
      generalize ws.map rwT = L at *
      simp [b_is_definition, at_0, at_1, lc, le, bare, c, ci, ss, sf, q]
    · have ci : ¬ ((ws.map rwT).length : Int) ≤ 4 := by rw [ll]; omega
      generalize ws.map rwT = L at *
      simp [b_is_definition, at_0, at_1, c, ci, ss, sf]
  cho := fun cs fb f1 f2 h60 hn => by
    unfold stp
    have lc : ∀ {t0 o1 : Option T}, lcL (sNm 2) [2] dYes (dSubv 2 (dC (.int 0))) (cs.map caT) [t0, o1, none] = some (cs.map fun c => .str c.1, [t0, o1, none]) := lc_fld rfl fun w hw => ⟨ca_0, ca_pl⟩
    have le : (cs.map caT).length ≤ sizeLine := le60 (by simp; omega)
    have e : (cs.map fun w => T.str w.1) = (cs.map (·.1)).map T.str := by rw [List.map_map]; rfl
    rw [e] at lc
    have q := ha (cs.map (·.1)) (by simpa using h60) (by
      intro x hx
      obtain ⟨w, hw, rfl⟩ := List.mem_map.mp hx
      exact hn w hw)
    have ss := strips_strs (cs.map (·.1))
    have sf := strips_ca cs
    have ll : ((cs.map caT).length : Int) = (cs.length : Int) := by simp
    generalize ascB (cs.map (·.1)) = B at *
    generalize (cs.map (·.1)).map T.str = R at *
    by_cases d : 1 ≤ cs.length
    · have di : (1 : Int) ≤ ((cs.map caT).length : Int) := by rw [ll]; omega
      by_cases c : cs.length ≤ 4
      · have ci : ((cs.map caT).length : Int) ≤ 4 := by rw [ll]; omega
        generalize cs.map caT = L at *
        simp [b_is_definition, at_0, at_1, lc, le, bare, c, ci, d, di, ss, sf, q, f1, f2]
      · have ci : ¬ ((cs.map caT).length : Int) ≤ 4 := by rw [ll]; omega
        generalize cs.map caT = L at *
        simp [b_is_definition, at_0, at_1, c, ci, d, di, ss, sf, f1, f2]
    · have di : ¬ (1 : Int) ≤ ((cs.map caT).length : Int) := by rw [ll]; omega
      generalize cs.map caT = L at *
      simp [b_is_definition, at_0, at_1, d, di, ss, sf, f1, f2]
end K10

namespace K10
open PySem L2 MP
@[simp] theorem ne_root_definitions : (("root" : Str) = "definitions") = False := eq_false (by decide)
@[simp] theorem ne_definitions_root : (("definitions" : Str) = "root") = False := eq_false (by decide)
@[simp] theorem ne_of_root : (("of" : Str) = "root") = False := eq_false (by decide)
@[simp] theorem ne_of_definitions : (("of" : Str) = "definitions") = False := eq_false (by decide)
@[simp] theorem ne_names_root : (("names" : Str) = "root") = False := eq_false (by decide)
@[simp] theorem ne_names_definitions : (("names" : Str) = "definitions") = False := eq_false (by decide)
theorem asc_sub {l : List Str} (h : l.Sublist four) : ascB l = true := by
  have h1 : ∀ x ∈ four, nameB x = true := by decide +kernel
  have h2 : four.Pairwise (fun a b => ltS a b = true) := by decide +kernel
  have h3 := h2.sublist h
  unfold ascB
  rw [Bool.and_eq_true, List.all_eq_true, List.all_eq_true]
  refine ⟨fun x hx => h1 x (h.subset hx), fun i hi => ?_⟩
  have hi := List.mem_range.mp hi
  have hi1 : i + 1 < l.length := by omega
  have q := List.pairwise_iff_getElem.mp h3 i (i + 1) (by omega) hi1 (by omega)
  show ltS (l.getD i "") (l.getD (i + 1) "") = true
  simpa [List.getD, List.getElem?_eq_getElem hi1, List.getElem?_eq_getElem (show i < l.length by omega)] using q
theorem DF.def {d : DR} (hd : DefIs d) {t : T} (h : DF t) : d [some t] = some (.ok (.tv (.bl true)) [none]) := by
  cases h with
  | any => exact hd.any
  | @int lo hi a b c e =>
    rw [hd.int]
    simp; omega
  | @txt n a b => rw [hd.txt]; simp; omega
  | @lst x lo hi a b c e => rw [hd.lst]; simp; omega
  | @rcd ws a b =>
    have hl := b.length_le
    simp [four] at hl
    rw [hd.rcd ws (fun w hw => (a w hw).to) (by omega) (fun w hw => by
      have := b.subset (List.mem_map_of_mem (f := (·.nm)) hw)
      exact (by decide : ∀ x ∈ four, x.length < 1000) _ this), asc_sub b]
    simp [hl]
  | @cho x fb a b =>
    rw [show ([caT ("t", x)] : List T) = [(("t" : Str), x)].map caT from rfl, hd.cho _ _ b.st.1 b.st.2 (by simp) (by simp; decide)]
    have : ascB ([(("t" : Str), x)].map (·.1)) = true := by
      show ascB ["t"] = true
      decide +kernel
    rw [this]; rfl
  | @cho2 x y fb a b c =>
    rw [show ([caT ("t", x), caT ("u", y)] : List T) = [(("t" : Str), x), (("u" : Str), y)].map caT from rfl, hd.cho _ _ c.st.1 c.st.2 (by simp) (by simp; decide)]
    have : ascB ([(("t" : Str), x), (("u" : Str), y)].map (·.1)) = true := by
      show ascB ["t", "u"] = true
      decide +kernel
    rw [this]; rfl
theorem DF.ty {t : T} (h : DF t) : ∃ tys, Ty t tys ∧ ∀ y ∈ tys, AB y := by
  cases h with
  | any => exact ⟨_, .any, by simp⟩
  | int => exact ⟨_, .int, by simp⟩
  | txt => exact ⟨_, .txt, by simp⟩
  | @lst x lo hi a => exact ⟨_, .lst, by simpa using a⟩
  | @rcd ws a b =>
    have hl := b.length_le
    simp [four] at hl
    exact ⟨_, .rcd (fun w hw => (a w hw).to) (by omega), fun y hy => by
      obtain ⟨w, hw, rfl⟩ := List.mem_map.mp hy
      exact (a w hw).ty⟩
  | @cho x fb a b => exact ⟨_, .cho (cs := [(("t" : Str), x)]) (by simp) b.st.1 b.st.2, by simpa using a⟩
  | @cho2 x y fb a b c => exact ⟨_, .cho (cs := [(("t" : Str), x), (("u" : Str), y)]) (by simp) c.st.1 c.st.2, by simp [a, b]⟩
/-! ### formats -/
def FO (root : Str) (D : T) : T := .nd false (.obj "Format" ["root", "definitions"]) [.str root, D]
def FD (ts : List T) : T := .dct (abcd.map Sum.inr) ts
structure Frz (ts : List T) : Prop where
  st : strips ts = ts
  pl : plains ts = true
  l4 : ts.length = 4
def InitOk (d : DR) : Prop := ∀ (x : Str) (ts : List T), Frz ts → d [some (.nd true (.obj "Format" []) []), some (.str x), some (FD ts)] = some (.ok (.tv .non) [some (.nd true (.obj "Format" ["root", "definitions"]) [.str x, FD ts]), none, none])
theorem init_ok (r : Fi → DR) : InitOk (stp r .Format__init) := fun x ts f => by
  unfold stp
  have s1 := f.st
  have hl : (abcd.map (Sum.inr : Str → Key)).length = ts.length := by rw [f.l4]; rfl
  unfold FD
  generalize abcd.map (Sum.inr : Str → Key) = N at hl ⊢
  simp [b_Format__init, s1, putT, hl]
def OfOk (d : DR) : Prop := ∀ (root x : Str) (ts : List T) (t : T), Frz ts → getT (FD ts) (.str x) = some t → d [some (FO root (FD ts)), some (.str x)] = some (.ok (.tv t) [none, none])
theorem FD_fr {ts : List T} (f : Frz ts) : strip (FD ts) = FD ts ∧ (FD ts).mk = false ∧ plainTop (FD ts) = true := ⟨by unfold FD; simp [f.st], rfl, f.pl⟩
theorem of_ok (r : Fi → DR) : OfOk (stp r .Format_of) := fun root x ts t f g => by
  unfold stp
  obtain ⟨h1, h2, h3⟩ := FD_fr f
  unfold FO
  generalize FD ts = D at *
  simp [b_Format_of, h1, h2, h3, g, lkF]
def NmsOk (d : DR) : Prop := ∀ (root : Str) (ts : List T), Frz ts → d [some (FO root (FD ts))] = some (.ok (.tv (.nd true .lst (abcd.map T.str))) [none])
theorem nms_ok (r : Fi → DR) : NmsOk (stp r .Format_names) := fun root ts f => by
  unfold stp
  obtain ⟨h1, h2, h3⟩ := FD_fr f
  have so : sortedT (FD ts) = some (.nd true .lst (abcd.map T.str)) := by
    unfold FD
    rw [sorted_dct (by decide)]
    rfl
  unfold FO
  generalize FD ts = D at *
  simp [b_Format_names, h1, h2, h3, so, lkF]
theorem mem_in {ts : List T} (f : Frz ts) {y : Str} (hy : AB y) : memT (.str y) (FD ts) = some true := by
  match ts, f.l4 with
  | [ta, tb, tc, td], _ => rcases hy with rfl | rfl | rfl | rfl <;> rfl
theorem mem_q {ts : List T} (f : Frz ts) : memT (.str "q") (FD ts) = some false := by
  match ts, f.l4 with
  | [ta, tb, tc, td], _ => rfl
theorem nmem_in {ts : List T} (f : Frz ts) {y : Str} (hy : AB y) : nmemT (.str y) (FD ts) = some false := by
  unfold nmemT; rw [mem_in f hy]; rfl
theorem nmem_q {ts : List T} (f : Frz ts) : nmemT (.str "q") (FD ts) = some true := by
  unfold nmemT; rw [mem_q f]; rfl
theorem getFD {ts : List T} (f : Frz ts) {j : Nat} {x : Str} (h : abcd[j]? = some x) : ∃ t, ts[j]? = some t ∧ getT (FD ts) (.str x) = some t := by
  have hj : j < 4 := (List.getElem?_eq_some_iff.mp h).1
  match ts, f.l4 with
  | [ta, tb, tc, td], _ =>
    have : j = 0 ∨ j = 1 ∨ j = 2 ∨ j = 3 := by omega
    rcases this with rfl | rfl | rfl | rfl <;> cases h
    · exact ⟨ta, rfl, rfl⟩
    · exact ⟨tb, rfl, rfl⟩
    · exact ⟨tc, rfl, rfl⟩
    · exact ⟨td, rfl, rfl⟩
/-- the names of the four are names -/
theorem names_in {r : Fi → DR} (hn : NameIs (r .is_name)) {ρ : Rho} (hi : ρ[1]? = some none) : gnL false (sNm 1) [1] (dV true (dCall (fdo r .is_name) (dArgs true (fdo r .is_name).io 0 [dVar 1]))) (List.map (kyT ∘ (Sum.inr : Str → Key)) abcd) ρ = some (true, ρ) := by
  have h1 : 1 < ρ.length := by
    rcases Nat.lt_or_ge 1 ρ.length with z | z
    · exact z
    · rw [List.getElem?_eq_none z] at hi; cases hi
  rw [gnL_nm (f := fun t => match t with | .str x => nameB x | _ => false) hi fun u hu => ?_]
  · rw [List.all_map]
    have : (abcd.all fun x => nameB x) = true := by decide +kernel
    show some ((abcd.all fun x => nameB x), ρ) = _
    rw [this]
  · obtain ⟨x, hx, rfl⟩ := List.mem_map.mp hu
    have q := hn x ((by decide : ∀ x ∈ abcd, x.length < 1000) x hx)
    show dV true _ (ρ.set 1 (some (.str x))) = some (Out.ok (T.bl (nameB x)) (ρ.set 1 (some (.str x))))
    have g : (ρ.set 1 (some (T.str x)))[1]? = some (some (.str x)) := List.getElem?_set_self h1
    generalize ρ.set 1 (some (T.str x)) = ρ' at g
    simp [g, q]
def ShIs (d : DR) : Prop := ∀ (root : Str) (ts : List T), Frz ts → d [some (FO root (FD ts))] = some (.ok (.tv (.bl true)) [none])
/-- one name: its definition, good or not -/
theorem shape_1 {r : Fi → DR} (hof : OfOk (r .Format_of)) {root : Str} {ts : List T} (f : Frz ts) {j : Nat} {x : Str} (hj : abcd[j]? = some x) {t : T} (ht : ts[j]? = some t) (st : strip t = t) (fr : t.mk = false) {o2 : Option T} :
    s_is_shaped_3l1 r [some (FO root (FD ts)), some (.str x), o2, none] = some (.ok .nx [some (FO root (FD ts)), some (.str x), some t, none]) := by
  obtain ⟨d1, d2, d3⟩ := FD_fr f
  obtain ⟨t', ht', g⟩ := getFD f hj
  rw [ht] at ht'; cases ht'
  have q := hof root x ts t f g
  unfold FO at *
  generalize FD ts = D at *
  simp [s_is_shaped_3l1, d1, d2, q]
theorem shape_2 {r : Fi → DR} {root : Str} {ts : List T} (f : Frz ts) {x : Str} {t : T} (st : strip t = t) (fr : t.mk = false) {b : Bool} (hdf : r .is_definition [some t] = some (.ok (.tv (.bl b)) [none])) {tys : List Str} (hty : r .types_of [some t] = some (.ok (.tv (.nd true .lst (tys.map T.str))) [none])) {k : Bool} (hg : gnL false (sNm 3) [3] (dCmp memT (dH (dVar 3)) (dH (dR (dFldv "Format" 0 "definitions")))) (tys.map T.str) [some (FO root (FD ts)), some (.str x), some t, none] = some (k, [some (FO root (FD ts)), some (.str x), some t, none])) :
    s_is_shaped_3l2 r [some (FO root (FD ts)), some (.str x), some t, none] = some (.ok (if (b && k) = true then .nx else .ret (.tv (.bl false))) [some (FO root (FD ts)), some (.str x), some t, none]) := by
  have ss := strips_strs tys
  generalize FO root (FD ts) = O at *
  generalize tys.map T.str = L at *
  cases b with
  | false => simp [s_is_shaped_3l2, s_is_shaped_3l2a1, fr, st, hdf]
  | true =>
    cases k with
    | true => simp [s_is_shaped_3l2, s_is_shaped_3l2a1, fr, st, hdf, hty, ss, bare, hg]
    | false => simp [s_is_shaped_3l2, s_is_shaped_3l2a1, fr, st, hdf, hty, ss, bare, hg]
theorem types_in {root : Str} {ts : List T} (f : Frz ts) {tys : List Str} {x : Str} {t : T} {p : Str → Bool} (h : ∀ y ∈ tys, memT (.str y) (FD ts) = some (p y)) : gnL false (sNm 3) [3] (dCmp memT (dH (dVar 3)) (dH (dR (dFldv "Format" 0 "definitions")))) (tys.map T.str) [some (FO root (FD ts)), some (.str x), some t, none] = some (tys.all p, [some (FO root (FD ts)), some (.str x), some t, none]) := by
  obtain ⟨d1, d2, d3⟩ := FD_fr f
  rw [gnL_nm (f := fun u => match u with | .str y => p y | _ => false) rfl fun u hu => ?_]
  · rw [List.all_map]; rfl
  · obtain ⟨y, hy, rfl⟩ := List.mem_map.mp hu
    have q := h y hy
    unfold FO
    generalize FD ts = D at *
    simp [d1, d2, q, lkF]
theorem shaped_head {r : Fi → DR} (hn : NameIs (r .is_name)) {root : Str} {ts : List T} (f : Frz ts) : s_is_shaped_1 r [some (FO root (FD ts)), none, none, none] = some (.ok .nx [some (FO root (FD ts)), none, none, none]) := by
  have gn := names_in hn (r := r) (ρ := scal [some (FO root (FD ts)), none, none, none]) rfl
  obtain ⟨d1, d2, d3⟩ := FD_fr f
  have ln : lenT (FD ts) = some (.int 4) := rfl
  have sc : scal [some (FO root (FD ts)), none, none, none] = [none, none, none, none] := rfl
  rw [sc] at gn
  have lk : lkF ["root", "definitions"] [.str root, FD ts] "definitions" = some (.nd false (.dct (abcd.map Sum.inr)) ts) := by simp [lkF, FD]
  have gF : dGnF false (sNm 1) [1] "Format" 0 "definitions" (dV true (dCall (fdo r .is_name) (dArgs true (fdo r .is_name).io 0 [dVar 1]))) [some (FO root (FD ts)), none, none, none] = some (.ok (.tv (.bl true)) [some (FO root (FD ts)), none, none, none]) := by
    show (if ("Format" : Str) = "Format" ∧ ([T.str root, FD ts].all fun t => !t.mk) = true ∧ bare [some (FO root (FD ts)), none, none, none] [1] = true then match lkF ["root", "definitions"] [.str root, FD ts] "definitions" with
      | some (.nd _ (.dct ks) _) => match gnL false (sNm 1) [1] (dV true (dCall (fdo r .is_name) (dArgs true (fdo r .is_name).io 0 [dVar 1]))) (ks.map kyT) (scal [some (FO root (FD ts)), none, none, none]) with
        | some (b, _) => some (Out.ok (RV.tv (T.bl b)) [some (FO root (FD ts)), none, none, none])
        | none => none
      | _ => none
    else none) = _
    rw [if_pos ⟨rfl, by simp [d2], rfl⟩, lk, sc]
    simp only [List.map_map]
    rw [gn]
  have gL : dFldv "Format" 0 "definitions" [some (FO root (FD ts)), none, none, none] = some (.ok (FD ts) [some (FO root (FD ts)), none, none, none]) := by
    unfold FO
    generalize FD ts = D at *
    simp [d2, lkF]
  unfold s_is_shaped_1
  generalize dGnF false (sNm 1) [1] "Format" 0 "definitions" (dV true (dCall (fdo r .is_name) (dArgs true (fdo r .is_name).io 0 [dVar 1]))) = GF at *
  generalize FO root (FD ts) = O at *
  generalize FD ts = D at *
  simp [gF, gL, ln, d1, -e_dFldv]
end K10

namespace K10
open PySem L2 MP
/-! ### is_shaped -/
structure GoodD (r : Fi → DR) (t : T) : Prop where
  st : strip t = t
  fr : t.mk = false
  df : r .is_definition [some t] = some (.ok (.tv (.bl true)) [none])
  ty : ∃ tys : List Str, r .types_of [some t] = some (.ok (.tv (.nd true .lst (tys.map T.str))) [none]) ∧ ∀ y ∈ tys, AB y
theorem good_of {r : Fi → DR} (hd : DefIs (r .is_definition)) (ht : TyIs (r .types_of)) {t : T} (h : DF t) : GoodD r t := by
  obtain ⟨tys, y1, y2⟩ := h.ty
  exact ⟨h.st.1, h.st.2, h.def hd, tys, ht _ _ y1, y2⟩
theorem shape_loop {r : Fi → DR} (hof : OfOk (r .Format_of)) {root : Str} {ts : List T} (f : Frz ts) (hg : ∀ t ∈ ts, GoodD r t) : ∀ (m k : Nat) (o1 o2 : Option T), k + m = 4 → ∃ p1 p2,
    dLoop (sNm 1) (dSs [s_is_shaped_3l1 r, s_is_shaped_3l2 r]) ((abcd.drop k).map T.str) [some (FO root (FD ts)), o1, o2, none] = some (.ok .nx [some (FO root (FD ts)), p1, p2, none])
  | 0, k, o1, o2, h => by
    have e : k = 4 := by omega
    subst e
    exact ⟨o1, o2, rfl⟩
  | m + 1, k, o1, o2, h => by
    have hk4 : k < abcd.length := by show k < 4; omega
    have hkt : k < ts.length := by rw [f.l4]; omega
    have gt := hg ts[k] (List.getElem_mem hkt)
    obtain ⟨tys, hty, hab⟩ := gt.ty
    have e1 := shape_1 hof f (List.getElem?_eq_getElem hk4) (List.getElem?_eq_getElem hkt) gt.st gt.fr (root := root) (o2 := o2)
    have e2 := shape_2 f gt.st gt.fr gt.df hty (types_in (root := root) (x := abcd[k]) (t := ts[k]) f (p := fun _ => true) fun y hy => mem_in f (hab y hy))
    obtain ⟨p1, p2, ih⟩ := shape_loop hof f hg (root := root) m (k + 1) (some (.str abcd[k])) (some ts[k]) (by omega)
    refine ⟨p1, p2, ?_⟩
    have al : (tys.all fun _ => true) = true := by simp
    rw [al] at e2
    have hst : sNm 1 (.str abcd[k]) [some (FO root (FD ts)), o1, o2, none] = some [some (FO root (FD ts)), some (.str abcd[k]), o2, none] := rfl
    rw [List.drop_eq_getElem_cons hk4, List.map_cons, dLoop_cons, hst]
    show bnd _ _ _ = _
    rw [e_bnd, dSs_nx e1, dSs_nx e2]
    exact ih
theorem shape_it {r : Fi → DR} (hnm : NmsOk (r .Format_names)) {root : Str} {ts : List T} (f : Frz ts) : dItV (dV false (dMeth false "Format" "names" 0 (fdo r .Format_names) doNil)) [some (FO root (FD ts)), none, none, none] = some (.ok ((abcd.drop 0).map T.str) [some (FO root (FD ts)), none, none, none]) := by
  have q := hnm root ts f
  obtain ⟨d1, d2, d3⟩ := FD_fr f
  have ss := strips_strs abcd
  unfold FO at *
  rw [List.drop_zero]
  generalize FD ts = D at *
  generalize abcd.map T.str = L at *
  simp [d1, d2, q, ss]
theorem shaped_2 {r : Fi → DR} {root : Str} {ts : List T} (f : Frz ts) {b : Bool} (h : nmemT (.str root) (FD ts) = some b) : s_is_shaped_2 r [some (FO root (FD ts)), none, none, none] = some (.ok (if b = true then .ret (.tv (.bl false)) else .nx) [some (FO root (FD ts)), none, none, none]) := by
  obtain ⟨d1, d2, d3⟩ := FD_fr f
  unfold FO
  generalize FD ts = D at *
  cases b <;> simp [d1, d2, lkF, h]
theorem shaped_T {r : Fi → DR} (hn : NameIs (r .is_name)) (hof : OfOk (r .Format_of)) (hnm : NmsOk (r .Format_names)) {root : Str} {ts : List T} (f : Frz ts) (hr : AB root) (hg : ∀ t ∈ ts, GoodD r t) : stp r .is_shaped [some (FO root (FD ts))] = some (.ok (.tv (.bl true)) [none]) := by
  obtain ⟨p1, p2, lp⟩ := shape_loop hof f hg (root := root) 4 0 none none rfl
  refine def_ret (n := 1) (m := 4) (body := b_is_shaped r) (ρ' := [some (FO root (FD ts)), p1, p2, none]) ?_
  show b_is_shaped r [some (FO root (FD ts)), none, none, none] = _
  have e2 := shaped_2 (r := r) f (nmem_in f hr)
  have e3 : s_is_shaped_3 r [some (FO root (FD ts)), none, none, none] = some (.ok .nx [some (FO root (FD ts)), p1, p2, none]) := by
    unfold s_is_shaped_3
    rw [e_dFor, e_bnd, shape_it hnm f]
    exact lp
  unfold b_is_shaped
  rw [dSs_nx (shaped_head hn f), dSs_nx e2, dSs_nx e3]
  exact dSs_ret (by simp)
theorem shaped_Q {r : Fi → DR} (hn : NameIs (r .is_name)) {ts : List T} (f : Frz ts) : stp r .is_shaped [some (FO "q" (FD ts))] = some (.ok (.tv (.bl false)) [none]) := by
  refine def_ret (n := 1) (m := 4) (body := b_is_shaped r) (ρ' := [some (FO "q" (FD ts)), none, none, none]) ?_
  show b_is_shaped r [some (FO "q" (FD ts)), none, none, none] = _
  have e2 := shaped_2 (r := r) f (nmem_q f)
  unfold b_is_shaped
  rw [dSs_nx (shaped_head hn f)]
  exact dSs_ret e2
theorem shaped_B {r : Fi → DR} (hn : NameIs (r .is_name)) (hof : OfOk (r .Format_of)) (hnm : NmsOk (r .Format_names)) {root : Str} {ts : List T} (f : Frz ts) (hr : AB root) {t : T} (ht : ts[0]? = some t) (st : strip t = t) (fr : t.mk = false) {b : Bool} (hdf : r .is_definition [some t] = some (.ok (.tv (.bl b)) [none])) {tys : List Str} (hty : r .types_of [some t] = some (.ok (.tv (.nd true .lst (tys.map T.str))) [none])) {p : Str → Bool} (h : ∀ y ∈ tys, memT (.str y) (FD ts) = some (p y)) (hb : (b && tys.all p) = false) : stp r .is_shaped [some (FO root (FD ts))] = some (.ok (.tv (.bl false)) [none]) := by
  refine def_ret (n := 1) (m := 4) (body := b_is_shaped r) (ρ' := [some (FO root (FD ts)), some (.str "a"), some t, none]) ?_
  show b_is_shaped r [some (FO root (FD ts)), none, none, none] = _
  have e2 := shaped_2 (r := r) f (nmem_in f hr)
  have g1 := shape_1 hof f (j := 0) (x := "a") rfl ht st fr (root := root) (o2 := none)
  have g2 := shape_2 f st fr hdf hty (types_in (root := root) (x := "a") (t := t) f h)
  rw [hb] at g2
  have e3 : s_is_shaped_3 r [some (FO root (FD ts)), none, none, none] = some (.ok (.ret (.tv (.bl false))) [some (FO root (FD ts)), some (.str "a"), some t, none]) := by
    unfold s_is_shaped_3
    rw [e_dFor, e_bnd, shape_it hnm f]
    have hst : sNm 1 (.str "a") [some (FO root (FD ts)), none, none, none] = some [some (FO root (FD ts)), some (.str "a"), none, none] := rfl
    show dLoop _ _ (T.str "a" :: ((["b", "c", "d"] : List Str).map T.str)) _ = _
    rw [dLoop_cons, hst]
    show bnd _ _ _ = _
    rw [e_bnd, dSs_nx g1, dSs_ret g2]
    rfl
  unfold b_is_shaped
  rw [dSs_nx (shaped_head hn f), dSs_nx e2]
  exact dSs_ret e3
end K10

namespace K10
open PySem L2 MP
/-! ### one definition that breaks a rule -/
def badL : List T := [.tup [.str "list", .str "q", .int 0, .int 1], .tup [.str "integer", .int 3, .int 2], .tup [.str "text", .int 10], .tup [.str "list", .str "a", .int 2, .int 1], .tup [.str "record", .tup [.tup [.str "g", .str "a", .str "required"], .tup [.str "f", .str "a", .str "required"]]], .tup [.str "choice", .tup [], .non], .tup [.str "choice", .tup [.tup [.str "t", .str "a"], .tup [.str "t", .str "b"]], .non], .tup [.str "record", .tup [.tup [.str "F", .str "a", .str "optional"]]]]
structure BadD (r : Fi → DR) (t : T) : Prop where
  st : strip t = t
  fr : t.mk = false
  no : ∃ (b : Bool) (tys : List Str) (p : Str → Bool), r .is_definition [some t] = some (.ok (.tv (.bl b)) [none]) ∧ r .types_of [some t] = some (.ok (.tv (.nd true .lst (tys.map T.str))) [none]) ∧ (∀ ts, Frz ts → ∀ y ∈ tys, memT (.str y) (FD ts) = some (p y)) ∧ (b && tys.all p) = false
theorem bad_f {r : Fi → DR} {t : T} {tys : List Str} (st : strip t = t) (fr : t.mk = false) (h : r .is_definition [some t] = some (.ok (.tv (.bl false)) [none])) (ht : r .types_of [some t] = some (.ok (.tv (.nd true .lst (tys.map T.str))) [none])) (ha : ∀ y ∈ tys, AB y) : BadD r t :=
  ⟨st, fr, false, tys, fun _ => true, h, ht, fun ts f y hy => mem_in f (ha y hy), rfl⟩
theorem bad_of {r : Fi → DR} (hd : DefIs (r .is_definition)) (ht : TyIs (r .types_of)) : ∀ t ∈ badL, BadD r t := by
  intro t h
  simp only [badL, List.mem_cons, List.not_mem_nil, or_false] at h
  have rf : ∀ (n ty way : Str), RowFr ⟨n, ty, way, []⟩ := fun n ty way => ⟨rfl, rfl⟩
  have aA : AB "a" := .inl rfl
  have aB : AB "b" := .inr (.inl rfl)
  rcases h with rfl | rfl | rfl | rfl | rfl | rfl | rfl | rfl
  · exact ⟨rfl, rfl, true, ["q"], fun _ => false, hd.lst "q" 0 1, ht _ _ .lst, fun ts f y hy => by
      simp at hy; subst hy; exact mem_q f, rfl⟩
  · exact bad_f rfl rfl (hd.int 3 2) (ht _ _ .int) (by simp)
  · exact bad_f rfl rfl (hd.txt 10) (ht _ _ .txt) (by simp)
  · exact bad_f rfl rfl (hd.lst "a" 2 1) (ht _ _ .lst) (by simpa using aA)
  · have e := hd.rcd [⟨"g", "a", "required", []⟩, ⟨"f", "a", "required", []⟩] (by simp [rf]) (by simp) (by simp; decide)
    have z : (decide (([⟨"g", "a", "required", []⟩, ⟨"f", "a", "required", []⟩] : List Row).length ≤ 4) && ascB (([⟨"g", "a", "required", []⟩, ⟨"f", "a", "required", []⟩] : List Row).map (·.nm))) = false := by decide +kernel
    rw [z] at e
    exact bad_f rfl rfl e (ht _ _ (.rcd (ws := [⟨"g", "a", "required", []⟩, ⟨"f", "a", "required", []⟩]) (by simp [rf]) (by simp))) (by simp [aA])
  · have e := hd.cho [] .non rfl rfl (by simp) (by simp)
    exact bad_f rfl rfl e (ht _ _ (.cho (cs := []) (by simp) rfl rfl)) (by simp)
  · have e := hd.cho [("t", "a"), ("t", "b")] .non rfl rfl (by simp) (by simp; decide)
    have z : (decide (1 ≤ ([("t", "a"), ("t", "b")] : List (Str × Str)).length) && decide (([("t", "a"), ("t", "b")] : List (Str × Str)).length ≤ 4) && ascB (([("t", "a"), ("t", "b")] : List (Str × Str)).map (·.1))) = false := by decide +kernel
    rw [z] at e
    exact bad_f rfl rfl e (ht _ _ (.cho (cs := [("t", "a"), ("t", "b")]) (by simp) rfl rfl)) (by simp [aA, aB])
  · have e := hd.rcd [⟨"F", "a", "optional", []⟩] (by simp [rf]) (by simp) (by simp; decide)
    have z : (decide (([⟨"F", "a", "optional", []⟩] : List Row).length ≤ 4) && ascB (([⟨"F", "a", "optional", []⟩] : List Row).map (·.nm))) = false := by decide +kernel
    rw [z] at e
    exact bad_f rfl rfl e (ht _ _ (.rcd (ws := [⟨"F", "a", "optional", []⟩]) (by simp [rf]) (by simp))) (by simp [aA])
theorem FD_DP {ts : List T} : FD ts = .nd false (.dct ((abcd.take 4).map Sum.inr)) ts := rfl
def BrOk (d : DR) : Prop := ∀ (ds : List Int) (p : Int) (ts : List T), 0 ≤ p → Frz ts → ∃ (p' : Int) (v : T), 0 ≤ p' ∧ v ∈ badL ∧ d [some (bx ds p), some (FD ts)] = some (.ok (.tv (DP 4 (ts.set 0 v))) [some (bx ds p'), none])
theorem broken_ok {r : Fi → DR} (hd : DrawOk (r .l_draw)) : BrOk (stp r .l_broken) := fun ds p ts hp f => by
  have m1 : ∀ p, (bx ds p).mk = true := fun _ => rfl
  have q := hd ds p 8 hp (by omega)
  have a := drw_ge (ds := ds) (p := p) (many := 8) (by omega)
  have b := drw_lt (ds := ds) (p := p) (many := 8) (by omega)
  obtain ⟨v, hv, gv⟩ : ∃ v, v ∈ badL ∧ getT (.lst badL) (.int (drw ds p 8)) = some v := by
    generalize drw ds p 8 = z at *
    have hz : z = 0 ∨ z = 1 ∨ z = 2 ∨ z = 3 ∨ z = 4 ∨ z = 5 ∨ z = 6 ∨ z = 7 := by omega
    rcases hz with rfl | rfl | rfl | rfl | rfl | rfl | rfl | rfl <;> exact ⟨_, by simp [badL], rfl⟩
  refine ⟨p + 1, v, by omega, hv, def_ret0_pl (n := 2) (m := 4) (i := 2) (body := b_l_broken r) (ρ' := [some (FD ts), some (DP 4 (ts.set 0 v)), some (.int (drw ds p 8))]) (t := DP 4 (ts.set 0 v)) ?_ (by omega) rfl (by omega)⟩
  show b_l_broken r [some (bx ds p), some (FD ts), none, none] = _
  have e1 : s_l_broken_1 r [some (bx ds p), some (FD ts), none, none] = some (.ok .nx [some (bx ds p), some (FD ts), some (DP 4 ts), none]) := by
    have hl : (abcd.map (Sum.inr : Str → Key)).length = ts.length := by rw [f.l4]; rfl
    have s1 := f.st
    have s2 : DP 4 ts = .nd true (.dct (abcd.map Sum.inr)) ts := rfl
    rw [s2]
    unfold FD
    generalize abcd.map (Sum.inr : Str → Key) = N at hl ⊢
    simp [s1, dictT, hl]
  have e2 : s_l_broken_2 r [some (bx ds p), some (FD ts), some (DP 4 ts), none] = some (.ok .nx [some (bx ds (p + 1)), some (FD ts), some (DP 4 ts), some (.int (drw ds p 8))]) := by
    simp [m1, q]
  have st := set4j f.l4 (j := 0) (x := "a") rfl (v := v)
  have pt : plainTop (DP 4 ts) = true := f.pl
  have md : (DP 4 ts).mk = true := rfl
  have mF : (FD ts).mk = false := rfl
  have bs : ∀ v ∈ badL, strip v = v ∧ v.mk = false := by
    intro v h
    simp only [badL, List.mem_cons, List.not_mem_nil, or_false] at h
    rcases h with rfl | rfl | rfl | rfl | rfl | rfl | rfl | rfl <;> exact ⟨rfl, rfl⟩
  obtain ⟨v1, v2⟩ := bs v hv
  unfold badL at gv
  have e3 : s_l_broken_3 r [some (bx ds (p + 1)), some (FD ts), some (DP 4 ts), some (.int (drw ds p 8))] = some (.ok .nx [some (bx ds (p + 1)), some (FD ts), some (DP 4 (ts.set 0 v)), some (.int (drw ds p 8))]) := by
    generalize DP 4 (ts.set 0 v) = D' at *
    generalize DP 4 ts = D at *
    generalize drw ds p 8 = z at *
    simp [gv, v1, v2, st, pt, md, le60, -getT_lst]
  unfold b_l_broken
  rw [dSs_nx e1, dSs_nx e2, dSs_nx e3]
  have md' : (DP 4 (ts.set 0 v)).mk = true := rfl
  generalize DP 4 (ts.set 0 v) = D' at *
  exact dSs_ret (by simp [md'])
end K10

namespace K10
open PySem L2 MP
/-! ### fields and cases -/
mutual
theorem okT_mono : ∀ {t : T} {n m : Nat}, n ≤ m → okT n t = true → okT m t = true
  | .nd b k ts, n, m, h, hk => by
    cases n with
    | zero => exact absurd hk (by simp [okT])
    | succ n =>
      cases m with
      | zero => omega
      | succ m =>
        rw [okT, Bool.and_eq_true] at hk ⊢
        exact ⟨hk.1, okTs_mono (by omega) hk.2⟩
  | .non, n, m, h, hk => by simp [okT]
  | .bl _, n, m, h, hk => by simp [okT]
  | .int _, n, m, h, hk => by simp [okT]
  | .str _, n, m, h, hk => by simp [okT]
  | .fn _, n, m, h, hk => by simp [okT] at hk
theorem okTs_mono : ∀ {ts : List T} {n m : Nat}, n ≤ m → okTs n ts = true → okTs m ts = true
  | [], n, m, h, hk => rfl
  | t :: ts, n, m, h, hk => by
    rw [okTs, Bool.and_eq_true] at hk ⊢
    exact ⟨okT_mono h hk.1, okTs_mono h hk.2⟩
end
theorem RowOk.okt {w : Row} (h : RowOk w) : okT 60 (rwT w) = true := by
  unfold rwT
  rw [okT]
  rcases h.way with ⟨_, e⟩ | ⟨_, e⟩ | ⟨_, v, e, o⟩ <;> rw [e] <;> simp [okK, okTs, okT]
  exact okT_mono (by omega) o.ok
theorem ok_strs : ∀ {l : List Str} {n : Nat}, okTs n (l.map T.str) = true
  | [], _ => rfl
  | x :: l, n => by rw [List.map_cons, okTs, ok_strs]; simp [okT]
theorem ne_strs {l : List Str} : neT (.lst (l.map T.str)) (.lst (l.map T.str)) = some false := neT_refl (by rw [okT, ok_strs]; rfl)
theorem lc_filt {i : Nat} {c : DT} {el : DV} {q : T → Bool} {g : T → T} {ρ : Rho} (hb : ρ[i]? = some none) : ∀ {ts : List T}, (∀ t ∈ ts, c (ρ.set i (some t)) = some (.ok (q t) (ρ.set i (some t))) ∧ el (ρ.set i (some t)) = some (.ok (g t) (ρ.set i (some t)))) → lcL (sNm i) [i] c el ts ρ = some ((ts.filter q).map g, ρ)
  | [], _ => rfl
  | t :: ts, h => by
    have hi : i < ρ.length := by
      rcases Nat.lt_or_ge i ρ.length with z | z
      · exact z
      · rw [List.getElem?_eq_none z] at hb; cases hb
    have ih := lc_filt hb fun u hu => h u (List.mem_cons_of_mem _ hu)
    have w : wipeR (ρ.set i (some t)) [i] = ρ := by
      show wipeR ((ρ.set i (some t)).set i none) [] = ρ
      rw [set_none_set hb]; rfl
    obtain ⟨h1, h2⟩ := h t (by simp)
    rw [lcL]
    simp only [sNm, hi, if_true, h1]
    cases hq : q t with
    | true => simp only [h2, w, ih, List.filter_cons, hq, if_true, List.map_cons]
    | false => simp only [w, ih, List.filter_cons, hq, Bool.false_eq_true, if_false]
def wayB (w : Row) : Bool := !(w.way == "optional")
def AlIs (d : DR) : Prop := ∀ w : Row, RowFr w → d [some (rwT w)] = some (.ok (.tv (.bl (wayB w))) [none])
theorem always_ok (r : Fi → DR) : AlIs (stp r .is_always) := fun w f => by
  unfold stp wayB
  have h1 := f.st
  have h2 := f.pl
  have h3 := rw_2 (w := w)
  generalize rwT w = W at *
  simp [b_is_always, h1, h2, h3]
/-- the types of the rows that are always there -/
def alwL (ws : List Row) : List Str := (ws.filter wayB).map (·.ty)
def AtIs (d : DR) : Prop := ∀ ws : List Row, (∀ w ∈ ws, RowFr w) → ws.length < 60 → d [some (.tup [.str "record", .tup (ws.map rwT)])] = some (.ok (.tv (.nd true .lst ((alwL ws).map T.str))) [none])
def wayT (t : T) : Bool := match getT t (.int 2) with
  | some (.str x) => !(x == "optional")
  | _ => false
theorem wayT_of {t : T} {x : Str} (h : getT t (.int 2) = some (.str x)) : wayT t = !(x == "optional") := by unfold wayT; rw [h]
theorem filt_rw {ws : List Row} : (((ws.map rwT).filter wayT).map fun t => (getT t (.int 1)).getD .non) = (alwL ws).map T.str := by
  unfold alwL
  induction ws with
  | nil => rfl
  | cons w ws ih =>
    rw [List.map_cons, List.filter_cons, List.filter_cons, wayT_of rw_2]
    unfold wayB at ih ⊢
    cases (w.way == "optional") <;> simp_all [rw_1]
theorem alwt_ok {r : Fi → DR} (ha : AlIs (r .is_always)) : AtIs (stp r .always_types) := fun ws hf h60 => by
  unfold stp
  have lc : ∀ {t0 : Option T}, lcL (sNm 1) [1] (dTru (dH (dCall (fdo r .is_always) (dArgs false (fdo r .is_always).io 0 [dVar 1])))) (dSubv 1 (dC (.int 1))) (ws.map rwT) [t0, none] = some ((alwL ws).map T.str, [t0, none]) := fun {t0} => by
    rw [lc_filt (q := wayT) (g := fun t => (getT t (.int 1)).getD .non) rfl fun t ht => ?_]
    · rw [filt_rw]
    · obtain ⟨w, hw, rfl⟩ := List.mem_map.mp ht
      have h1 := (hf w hw).st
      have h2 := (hf w hw).pl
      have h3 := rw_2 (w := w)
      have h4 := rw_1 (w := w)
      have q := ha w (hf w hw)
      have m : (rwT w).mk = false := rfl
      unfold wayB at q
      have wt := wayT_of h3
      generalize rwT w = W at *
      constructor
      · simp [m, h1, q, h3, wt]
      · simp [h2, h4]
  have le : (ws.map rwT).length ≤ sizeLine := le60 (by simp; omega)
  generalize (alwL ws).map T.str = R at *
  generalize ws.map rwT = L at *
  simp [b_always_types, at_1, lc, le, bare]
end K10

namespace K10
open PySem L2 MP
def resW : Option Row → T
  | some w => rwT w
  | none => .non
theorem field_loop {r : Fi → DR} {D : Option T} {x : Str} : ∀ (ws : List Row) (o : Option T), (∀ w ∈ ws, RowFr w) → ∃ o',
    dLoop (sNm 2) (dSs [s_field_of_1l1 r]) (ws.map rwT) [D, some (.str x), o] = some (.ok (match ws.find? (fun w => w.nm == x) with | some w => .ret (.tv (rwT w)) | none => .nx) [D, some (.str x), o'])
  | [], o, _ => ⟨o, rfl⟩
  | w :: ws, o, h => by
    obtain ⟨o', ih⟩ := field_loop (r := r) (D := D) (x := x) ws (some (rwT w)) fun u hu => h u (by simp [hu])
    have f := h w (by simp)
    have h1 := f.st
    have h2 := f.pl
    have h3 := rw_0 (w := w)
    have m : (rwT w).mk = false := rfl
    rw [List.map_cons, dLoop_cons, List.find?_cons]
    generalize dLoop (sNm 2) (dSs [s_field_of_1l1 r]) (ws.map rwT) = again at ih
    by_cases e : w.nm = x
    · have eb : (w.nm == x) = true := by simpa using e
      rw [eb]
      refine ⟨some (rwT w), ?_⟩
      show _ = some (Out.ok (Flw.ret (RV.tv (rwT w))) _)
      generalize rwT w = W at *
      simp [s_field_of_1l1, s_field_of_1l1a1, h2, h3, e, m]
    · have eb : (w.nm == x) = false := by simpa using e
      rw [eb]
      refine ⟨o', ?_⟩
      generalize rwT w = W at *
      simp [s_field_of_1l1, h2, h3, e, ih]
def FieIs (d : DR) : Prop := ∀ (ws : List Row) (x : Str), (∀ w ∈ ws, RowFr w) → d [some (.tup [.str "record", .tup (ws.map rwT)]), some (.str x)] = some (.ok (.tv (resW (ws.find? fun w => w.nm == x))) [none, none])
theorem field_ok (r : Fi → DR) : FieIs (stp r .field_of) := fun ws x hf => by
  obtain ⟨o', lp⟩ := field_loop (r := r) (D := some (.tup [.str "record", .tup (ws.map rwT)])) (x := x) ws none hf
  unfold stp
  cases h : ws.find? (fun w => w.nm == x) with
  | some w =>
    rw [h] at lp
    simp only at lp
    show _ = some (Out.ok (RV.tv (rwT w)) _)
    generalize rwT w = W at *
    generalize ws.map rwT = L at *
    simp [b_field_of, at_1, lp]
  | none =>
    rw [h] at lp
    simp only at lp
    show _ = some (Out.ok (RV.tv T.non) _)
    generalize ws.map rwT = L at *
    simp [b_field_of, at_1, lp]
def resC : Option (Str × Str) → T
  | some c => .str c.2
  | none => .non
theorem case_loop {r : Fi → DR} {D : Option T} {x : Str} : ∀ (cs : List (Str × Str)) (o : Option T), ∃ o',
    dLoop (sNm 2) (dSs [s_case_of_1l1 r]) (cs.map caT) [D, some (.str x), o] = some (.ok (match cs.find? (fun c => c.1 == x) with | some c => .ret (.tv (.str c.2)) | none => .nx) [D, some (.str x), o'])
  | [], o => ⟨o, rfl⟩
  | c :: cs, o => by
    obtain ⟨o', ih⟩ := case_loop (r := r) (D := D) (x := x) cs (some (caT c))
    have h2 := ca_pl (c := c)
    have h3 := ca_0 (c := c)
    have h4 := ca_1 (c := c)
    have m : (caT c).mk = false := rfl
    rw [List.map_cons, dLoop_cons, List.find?_cons]
    generalize dLoop (sNm 2) (dSs [s_case_of_1l1 r]) (cs.map caT) = again at ih
    by_cases e : c.1 = x
    · have eb : (c.1 == x) = true := by simpa using e
      rw [eb]
      refine ⟨some (caT c), ?_⟩
      generalize caT c = W at *
      simp [s_case_of_1l1, s_case_of_1l1a1, h2, h3, h4, e, m]
    · have eb : (c.1 == x) = false := by simpa using e
      rw [eb]
      refine ⟨o', ?_⟩
      generalize caT c = W at *
      simp [s_case_of_1l1, h2, h3, e, ih]
def CasIs (d : DR) : Prop := ∀ (cs : List (Str × Str)) (fb : T) (x : Str), strip fb = fb → fb.mk = false → d [some (.tup [.str "choice", .tup (cs.map caT), fb]), some (.str x)] = some (.ok (.tv (resC (cs.find? fun c => c.1 == x))) [none, none])
theorem case_ok (r : Fi → DR) : CasIs (stp r .case_of) := fun cs fb x f1 f2 => by
  obtain ⟨o', lp⟩ := case_loop (r := r) (D := some (.tup [.str "choice", .tup (cs.map caT), fb])) (x := x) cs none
  unfold stp
  cases h : cs.find? (fun c => c.1 == x) with
  | some w =>
    rw [h] at lp
    simp only at lp
    show _ = some (Out.ok (RV.tv (T.str w.2)) _)
    generalize cs.map caT = L at *
    simp [b_case_of, at_1, lp, f2]
  | none =>
    rw [h] at lp
    simp only at lp
    show _ = some (Out.ok (RV.tv T.non) _)
    generalize cs.map caT = L at *
    simp [b_case_of, at_1, lp, f2]
theorem find_self {ws : List Row} (nd : (ws.map (·.nm)).Nodup) : ∀ {w : Row}, w ∈ ws → ws.find? (fun u => u.nm == w.nm) = some w := by
  induction ws with
  | nil => intro w h; cases h
  | cons a ws ih =>
    intro w h
    rw [List.map_cons, List.nodup_cons] at nd
    rw [List.find?_cons]
    rcases List.mem_cons.mp h with rfl | z
    · simp
    · have ne : (a.nm == w.nm) = false := by
        have : a.nm ≠ w.nm := fun e => nd.1 (by rw [e]; exact List.mem_map_of_mem z)
        simpa using this
      rw [ne]
      exact ih nd.2 z
end K10

namespace K10
open PySem L2 MP
/-! ### the law's look at one definition -/
structure Kit (r : Fi → DR) : Prop where
  ty : TyIs (r .types_of)
  lt : TyIs (r .l_types)
  al : AlIs (r .is_always)
  at_ : AtIs (r .always_types)
  fi : FieIs (r .field_of)
  ca : CasIs (r .case_of)
theorem rows_look {r : Fi → DR} (K : Kit r) {wa : List Row} (ha : ∀ w ∈ wa, RowOk w) (nd : (wa.map (·.nm)).Nodup) {o0 o1 o2 o3 o4 o6 : Option T} : ∀ (ws : List Row) (o7 : Option T), (∀ w ∈ ws, w ∈ wa) → ∃ p7,
    dLoop (sNm 7) (dSs [s_law_8l4a2l1 r]) (ws.map rwT) [o0, o1, o2, o3, o4, some (.tup [.str "record", .tup (wa.map rwT)]), o6, o7] = some (.ok .nx [o0, o1, o2, o3, o4, some (.tup [.str "record", .tup (wa.map rwT)]), o6, p7])
  | [], o7, _ => ⟨o7, rfl⟩
  | w :: ws, o7, h => by
    obtain ⟨p7, ih⟩ := rows_look K ha nd (o0 := o0) (o1 := o1) (o2 := o2) (o3 := o3) (o4 := o4) (o6 := o6) ws (some (rwT w)) fun u hu => h u (by simp [hu])
    have hw := ha w (h w (by simp))
    have f := hw.to
    have q1 := K.fi wa w.nm fun u hu => (ha u hu).to
    rw [find_self nd (h w (by simp))] at q1
    have q1 : r .field_of [some (.tup [.str "record", .tup (wa.map rwT)]), some (.str w.nm)] = some (.ok (.tv (rwT w)) [none, none]) := q1
    have q2 := K.al w f
    have ne : neT (rwT w) (rwT w) = some false := neT_refl hw.okt
    have h1 := f.st
    have h2 := f.pl
    have h3 := rw_0 (w := w)
    have h4 := rw_2 (w := w)
    have m : (rwT w).mk = false := rfl
    have sw := strips_rw ha
    refine ⟨p7, ?_⟩
    rw [List.map_cons, dLoop_cons]
    generalize dLoop (sNm 7) (dSs [s_law_8l4a2l1 r]) (ws.map rwT) = again at ih
    unfold wayB at q2
    generalize rwT w = W at *
    generalize wa.map rwT = L at *
    simp [s_law_8l4a2l1, h1, h2, h3, h4, m, sw, q1, q2, ne, ih]
theorem cases_look {r : Fi → DR} (K : Kit r) {ca : List (Str × Str)} {fb : T} (f1 : strip fb = fb) (f2 : fb.mk = false) (hf : ∀ c ∈ ca, ca.find? (fun u => u.1 == c.1) = some c) {o0 o1 o2 o3 o4 o6 : Option T} : ∀ (cs : List (Str × Str)) (o7 : Option T), (∀ w ∈ cs, w ∈ ca) → ∃ p7,
    dLoop (sNm 7) (dSs [s_law_8l5a1l1 r]) (cs.map caT) [o0, o1, o2, o3, o4, some (.tup [.str "choice", .tup (ca.map caT), fb]), o6, o7] = some (.ok .nx [o0, o1, o2, o3, o4, some (.tup [.str "choice", .tup (ca.map caT), fb]), o6, p7])
  | [], o7, _ => ⟨o7, rfl⟩
  | c :: cs, o7, h => by
    obtain ⟨p7, ih⟩ := cases_look K f1 f2 hf (o0 := o0) (o1 := o1) (o2 := o2) (o3 := o3) (o4 := o4) (o6 := o6) cs (some (caT c)) fun u hu => h u (by simp [hu])
    have q1 := K.ca ca fb c.1 f1 f2
    rw [hf c (h c (by simp))] at q1
    have q1 : r .case_of [some (.tup [.str "choice", .tup (ca.map caT), fb]), some (.str c.1)] = some (.ok (.tv (.str c.2)) [none, none]) := q1
    have h2 := ca_pl (c := c)
    have h3 := ca_0 (c := c)
    have h4 := ca_1 (c := c)
    have sw := strips_ca ca
    refine ⟨p7, ?_⟩
    rw [List.map_cons, dLoop_cons]
    generalize dLoop (sNm 7) (dSs [s_law_8l5a1l1 r]) (cs.map caT) = again at ih
    generalize caT c = W at *
    generalize ca.map caT = L at *
    simp [s_law_8l5a1l1, h2, h3, h4, sw, f1, f2, q1, ih]
theorem rec_look {r : Fi → DR} (K : Kit r) {ws : List Row} (ha : ∀ w ∈ ws, RowOk w) (hs : (ws.map (·.nm)).Sublist four) {o0 o1 o2 o3 o4 o6 o7 : Option T} : ∃ p7, s_law_8l4 r [o0, o1, o2, o3, o4, some (.tup [.str "record", .tup (ws.map rwT)]), o6, o7] = some (.ok .nx [o0, o1, o2, o3, o4, some (.tup [.str "record", .tup (ws.map rwT)]), o6, p7]) := by
  have hl := hs.length_le
  simp [four] at hl
  have nd : (ws.map (·.nm)).Nodup := List.Nodup.sublist hs (by decide)
  obtain ⟨p7, lp⟩ := rows_look K ha nd (o0 := o0) (o1 := o1) (o2 := o2) (o3 := o3) (o4 := o4) (o6 := o6) ws none fun w h => h
  have q1 := K.at_ ws (fun w hw => (ha w hw).to) (by omega)
  have q2 := K.fi ws "nothing" fun w hw => (ha w hw).to
  have fn : ws.find? (fun u => u.nm == ("nothing" : Str)) = none := by
    rw [List.find?_eq_none]
    intro w hw
    have := hs.subset (List.mem_map_of_mem (f := (·.nm)) hw)
    have k := (by decide : ∀ x ∈ four, ¬ (x == ("nothing" : Str)) = true) _ this
    exact k
  rw [fn] at q2
  have q2 : r .field_of [some (.tup [.str "record", .tup (ws.map rwT)]), some (.str "nothing")] = some (.ok (.tv .non) [none, none]) := q2
  have lc : lcL (sNm 7) [7] (dCmpT neT (dH (dR (dSubv 7 (dC (.int 2))))) (dH (dR (dC (.str "optional"))))) (dSubv 7 (dC (.int 1))) (ws.map rwT) [o0, o1, o2, o3, o4, some (.tup [.str "record", .tup (ws.map rwT)]), o6, none] = some ((alwL ws).map T.str, [o0, o1, o2, o3, o4, some (.tup [.str "record", .tup (ws.map rwT)]), o6, none]) := by
    rw [lc_filt (q := wayT) (g := fun t => (getT t (.int 1)).getD .non) rfl fun t ht => ?_]
    · rw [filt_rw]
    · obtain ⟨w, hw, rfl⟩ := List.mem_map.mp ht
      have h2 := (ha w hw).to.pl
      have h3 := rw_2 (w := w)
      have h4 := rw_1 (w := w)
      have wt := wayT_of h3
      generalize rwT w = W at *
      generalize ws.map rwT = L at *
      constructor
      · simp [h2, h3, wt]
      · simp [h2, h4]
  have le : (ws.map rwT).length ≤ sizeLine := le60 (by simp; omega)
  have ss := strips_strs (alwL ws)
  have ne := ne_strs (l := alwL ws)
  have sw := strips_rw ha
  refine ⟨p7, ?_⟩
  generalize (alwL ws).map T.str = R at *
  generalize ws.map rwT = L at *
  have a1 : s_law_8l4a1 r [o0, o1, o2, o3, o4, some (.tup [.str "record", .tup L]), o6, o7] = some (.ok .nx [o0, o1, o2, o3, o4, some (.tup [.str "record", .tup L]), o6, none]) := by
    simp [s_law_8l4a1, sw, q1, ss, at_1, wipeR, bare, le, lc, ne]
  have a2 : s_law_8l4a2 r [o0, o1, o2, o3, o4, some (.tup [.str "record", .tup L]), o6, none] = some (.ok .nx [o0, o1, o2, o3, o4, some (.tup [.str "record", .tup L]), o6, p7]) := by
    simp [s_law_8l4a2, at_1, lp]
  have a3 : s_law_8l4a3 r [o0, o1, o2, o3, o4, some (.tup [.str "record", .tup L]), o6, p7] = some (.ok .nx [o0, o1, o2, o3, o4, some (.tup [.str "record", .tup L]), o6, p7]) := by
    simp [s_law_8l4a3, sw, q2, isNonT]
  have body : dSs [s_law_8l4a1 r, s_law_8l4a2 r, s_law_8l4a3 r] [o0, o1, o2, o3, o4, some (.tup [.str "record", .tup L]), o6, o7] = some (.ok .nx [o0, o1, o2, o3, o4, some (.tup [.str "record", .tup L]), o6, p7]) := by
    rw [dSs_nx a1, dSs_nx a2, dSs_nx a3]; rfl
  unfold s_law_8l4
  generalize dSs [s_law_8l4a1 r, s_law_8l4a2 r, s_law_8l4a3 r] = B at body ⊢
  simp [at_0, body]
theorem cho_look {r : Fi → DR} (K : Kit r) {cs : List (Str × Str)} {fb : T} (f1 : strip fb = fb) (f2 : fb.mk = false) (hf : ∀ c ∈ cs, cs.find? (fun u => u.1 == c.1) = some c) (hz : cs.find? (fun u => u.1 == ("z9" : Str)) = none) {o0 o1 o2 o3 o4 o6 o7 : Option T} : ∃ p7, s_law_8l5 r [o0, o1, o2, o3, o4, some (.tup [.str "choice", .tup (cs.map caT), fb]), o6, o7] = some (.ok .nx [o0, o1, o2, o3, o4, some (.tup [.str "choice", .tup (cs.map caT), fb]), o6, p7]) := by
  obtain ⟨p7, lp⟩ := cases_look K f1 f2 hf (o0 := o0) (o1 := o1) (o2 := o2) (o3 := o3) (o4 := o4) (o6 := o6) cs o7 fun w h => h
  have q2 := K.ca cs fb "z9" f1 f2
  rw [hz] at q2
  have q2 : r .case_of [some (.tup [.str "choice", .tup (cs.map caT), fb]), some (.str "z9")] = some (.ok (.tv .non) [none, none]) := q2
  have sw := strips_ca cs
  refine ⟨p7, ?_⟩
  generalize cs.map caT = L at *
  have a2 : s_law_8l5a1 r [o0, o1, o2, o3, o4, some (.tup [.str "choice", .tup L, fb]), o6, o7] = some (.ok .nx [o0, o1, o2, o3, o4, some (.tup [.str "choice", .tup L, fb]), o6, p7]) := by
    simp [s_law_8l5a1, at_1, f2, lp]
  have a3 : s_law_8l5a2 r [o0, o1, o2, o3, o4, some (.tup [.str "choice", .tup L, fb]), o6, p7] = some (.ok .nx [o0, o1, o2, o3, o4, some (.tup [.str "choice", .tup L, fb]), o6, p7]) := by
    simp [s_law_8l5a2, sw, f1, f2, q2, isNonT]
  have body : dSs [s_law_8l5a1 r, s_law_8l5a2 r] [o0, o1, o2, o3, o4, some (.tup [.str "choice", .tup L, fb]), o6, o7] = some (.ok .nx [o0, o1, o2, o3, o4, some (.tup [.str "choice", .tup L, fb]), o6, p7]) := by
    rw [dSs_nx a2, dSs_nx a3]; rfl
  unfold s_law_8l5
  generalize dSs [s_law_8l5a1 r, s_law_8l5a2 r] = B at body ⊢
  simp [at_0, f2, body]
/-- one of the four definitions -/
theorem def_look {r : Fi → DR} (K : Kit r) {ts : List T} (f : Frz ts) {j : Nat} {x : Str} (hj : abcd[j]? = some x) (hd : ∀ t ∈ ts, DF t) {S B o3 o5 o6 o7 : Option T} : ∃ p5 p6 p7, dSs [s_law_8l1 r, s_law_8l2 r, s_law_8l3 r, s_law_8l4 r, s_law_8l5 r] [S, B, some (FD ts), o3, some (.str x), o5, o6, o7] = some (.ok .nx [S, B, some (FD ts), o3, some (.str x), p5, p6, p7]) := by
  obtain ⟨t, ht, g⟩ := getFD f hj
  have dt := hd t (List.mem_of_getElem? ht)
  obtain ⟨tys, hty, _⟩ := dt.ty
  have q1 := K.ty t tys hty
  have q2 := K.lt t tys hty
  have st := dt.st.1
  have fr := dt.st.2
  obtain ⟨d1, d2, d3⟩ := FD_fr f
  have ss := strips_strs tys
  have ne := ne_strs (l := tys)
  generalize FD ts = D at *
  have e1 : s_law_8l1 r [S, B, some D, o3, some (.str x), o5, o6, o7] = some (.ok .nx [S, B, some D, o3, some (.str x), some t, o6, o7]) := by
    simp [s_law_8l1, d3, g]
  generalize tys.map T.str = L at *
  have e2 : s_law_8l2 r [S, B, some D, o3, some (.str x), some t, o6, o7] = some (.ok .nx [S, B, some D, o3, some (.str x), some t, some (.nd true .lst L), o7]) := by
    simp [s_law_8l2, st, fr, q1]
  have e3 : s_law_8l3 r [S, B, some D, o3, some (.str x), some t, some (.nd true .lst L), o7] = some (.ok .nx [S, B, some D, o3, some (.str x), some t, some (.lst L), o7]) := by
    simp [s_law_8l3, st, fr, ss, q2, ne]
  have skip : ∀ w : Str, getT t (.int 0) = some (.str w) → plainTop t = true → w ≠ "record" → w ≠ "choice" → ∃ p5 p6 p7, dSs [s_law_8l1 r, s_law_8l2 r, s_law_8l3 r, s_law_8l4 r, s_law_8l5 r] [S, B, some D, o3, some (.str x), o5, o6, o7] = some (.ok .nx [S, B, some D, o3, some (.str x), p5, p6, p7]) := fun w gw pw n1 n2 => by
    refine ⟨some t, some (.lst L), o7, ?_⟩
    have e4 : s_law_8l4 r [S, B, some D, o3, some (.str x), some t, some (.lst L), o7] = some (.ok .nx [S, B, some D, o3, some (.str x), some t, some (.lst L), o7]) := by
      simp [s_law_8l4, pw, gw, n1]
    have e5 : s_law_8l5 r [S, B, some D, o3, some (.str x), some t, some (.lst L), o7] = some (.ok .nx [S, B, some D, o3, some (.str x), some t, some (.lst L), o7]) := by
      simp [s_law_8l5, pw, gw, n2]
    rw [dSs_nx e1, dSs_nx e2, dSs_nx e3, dSs_nx e4, dSs_nx e5]; rfl
  cases dt with
  | any => exact skip "any" at_0 rfl (by decide) (by decide)
  | int => exact skip "integer" at_0 rfl (by decide) (by decide)
  | txt => exact skip "text" at_0 rfl (by decide) (by decide)
  | lst => exact skip "list" at_0 rfl (by decide) (by decide)
  | @rcd ws a b =>
    obtain ⟨p7, e4⟩ := rec_look K a b (o0 := S) (o1 := B) (o2 := some D) (o3 := o3) (o4 := some (.str x)) (o6 := some (.lst L)) (o7 := o7)
    refine ⟨some (.tup [.str "record", .tup (ws.map rwT)]), some (.lst L), p7, ?_⟩
    have e5 : s_law_8l5 r [S, B, some D, o3, some (.str x), some (.tup [.str "record", .tup (ws.map rwT)]), some (.lst L), p7] = some (.ok .nx [S, B, some D, o3, some (.str x), some (.tup [.str "record", .tup (ws.map rwT)]), some (.lst L), p7]) := by
      generalize ws.map rwT = R
      simp [s_law_8l5, at_0]
    rw [dSs_nx e1, dSs_nx e2, dSs_nx e3, dSs_nx e4, dSs_nx e5]; rfl
  | @cho y fb a b =>
    obtain ⟨p7, e5⟩ := cho_look K b.st.1 b.st.2 (cs := [(("t" : Str), y)]) (by simp) (by simp; decide) (o0 := S) (o1 := B) (o2 := some D) (o3 := o3) (o4 := some (.str x)) (o6 := some (.lst L)) (o7 := o7)
    refine ⟨some (.tup [.str "choice", .tup [caT ("t", y)], fb]), some (.lst L), p7, ?_⟩
    have e4 : s_law_8l4 r [S, B, some D, o3, some (.str x), some (.tup [.str "choice", .tup [caT ("t", y)], fb]), some (.lst L), o7] = some (.ok .nx [S, B, some D, o3, some (.str x), some (.tup [.str "choice", .tup [caT ("t", y)], fb]), some (.lst L), o7]) := by
      simp [s_law_8l4, at_0, b.st.2]
    simp only [List.map_cons, List.map_nil] at e5
    rw [dSs_nx e1, dSs_nx e2, dSs_nx e3, dSs_nx e4, dSs_nx e5]; rfl
  | @cho2 y z fb a b c =>
    obtain ⟨p7, e5⟩ := cho_look K c.st.1 c.st.2 (cs := [(("t" : Str), y), (("u" : Str), z)]) (by simp; exact Or.inr (by decide)) (by simp; decide) (o0 := S) (o1 := B) (o2 := some D) (o3 := o3) (o4 := some (.str x)) (o6 := some (.lst L)) (o7 := o7)
    refine ⟨some (.tup [.str "choice", .tup [caT ("t", y), caT ("u", z)], fb]), some (.lst L), p7, ?_⟩
    have e4 : s_law_8l4 r [S, B, some D, o3, some (.str x), some (.tup [.str "choice", .tup [caT ("t", y), caT ("u", z)], fb]), some (.lst L), o7] = some (.ok .nx [S, B, some D, o3, some (.str x), some (.tup [.str "choice", .tup [caT ("t", y), caT ("u", z)], fb]), some (.lst L), o7]) := by
      simp [s_law_8l4, at_0, c.st.2]
    simp only [List.map_cons, List.map_nil] at e5
    rw [dSs_nx e1, dSs_nx e2, dSs_nx e3, dSs_nx e4, dSs_nx e5]; rfl
theorem defs_look {r : Fi → DR} (K : Kit r) {ts : List T} (f : Frz ts) (hd : ∀ t ∈ ts, DF t) {S B o3 : Option T} : ∀ (m k : Nat) (o4 o5 o6 o7 : Option T), k + m = 4 → ∃ ρ', dLoop (sNm 4) (dSs [s_law_8l1 r, s_law_8l2 r, s_law_8l3 r, s_law_8l4 r, s_law_8l5 r]) ((abcd.drop k).map T.str) [S, B, some (FD ts), o3, o4, o5, o6, o7] = some (.ok .nx ρ')
  | 0, k, o4, o5, o6, o7, h => by
    have e : k = 4 := by omega
    subst e
    exact ⟨_, rfl⟩
  | m + 1, k, o4, o5, o6, o7, h => by
    have hk4 : k < abcd.length := by show k < 4; omega
    obtain ⟨p5, p6, p7, e⟩ := def_look K f (List.getElem?_eq_getElem hk4) hd (S := S) (B := B) (o3 := o3) (o5 := o5) (o6 := o6) (o7 := o7)
    obtain ⟨ρ', ih⟩ := defs_look K f hd (S := S) (B := B) (o3 := o3) m (k + 1) (some (.str abcd[k])) p5 p6 p7 (by omega)
    refine ⟨ρ', ?_⟩
    have hst : sNm 4 (.str abcd[k]) [S, B, some (FD ts), o3, o4, o5, o6, o7] = some [S, B, some (FD ts), o3, some (.str abcd[k]), o5, o6, o7] := rfl
    rw [List.drop_eq_getElem_cons hk4, List.map_cons, dLoop_cons, hst]
    show bnd _ _ _ = _
    rw [e_bnd, e]
    exact ih
end K10

namespace K10
open PySem L2 MP
@[simp ↓] theorem e_dMake {cn : Str} {fd : FnD} {da : DAo} {ρ : Rho} : dMake cn fd da ρ = bnd da (fun rvs ρ =>
  if rvs.length + 1 = fd.n then match argT rvs ρ with
    | none => none
    | some ts => match fd.d (some (.nd true (.obj cn []) []) :: ts.map some) with
      | some (.ok (.tv .non) (some (.nd true k us) :: outs)) => some (.ok (.tv (.nd true k us)) ρ)
      | _ => none
  else none) ρ := rfl
theorem frz_of {ts : List T} (hl : ts.length = 4) (h : ∀ t ∈ ts, strip t = t ∧ t.mk = false) : Frz ts := by
  refine ⟨?_, ?_, hl⟩
  · rw [strips_map]
    conv => rhs; rw [← List.map_id ts]
    exact List.map_congr_left fun t ht => (h t ht).1
  · unfold plains
    rw [List.all_eq_true]
    intro t ht
    rw [(h t ht).2]; rfl
theorem set_all {ts : List T} {v : T} {P : T → Prop} (h : ∀ t ∈ ts, P t) (hv : P v) : ∀ t ∈ ts.set 0 v, P t := fun t ht => by
  rcases List.mem_or_eq_of_mem_set ht with z | z
  · exact h t z
  · rw [z]; exact hv
theorem loose_v {i : Int} (h0 : 0 ≤ i) (h : i < 3) : ∃ e, OKV e ∧ getT (.lst [.lst [.str "x", .int 1000001, .non], .int 0, .str "zz"]) (.int i) = some e := by
  have : i = 0 ∨ i = 1 ∨ i = 2 := by omega
  rcases this with rfl | rfl | rfl
  · exact ⟨_, ⟨rfl, rfl, by decide +kernel, rfl⟩, rfl⟩
  · exact ⟨_, ⟨rfl, rfl, rfl, rfl⟩, rfl⟩
  · exact ⟨_, ⟨rfl, rfl, rfl, rfl⟩, rfl⟩
theorem strip_DP {ts : List T} (f : Frz ts) : strip (DP 4 ts) = FD ts := by
  show T.nd false (.dct (abcd.map Sum.inr)) (strips ts) = _
  rw [f.st]; rfl
theorem law_run {r : Fi → DR} {S : T} (hd : DrawOk (r .l_draw)) (hi : InitOk (r .Format__init)) (hdf : DefsOk (r .l_defs)) (hbr : BrOk (r .l_broken)) (K : Kit r)
    (hT : ∀ {root : Str} {ts : List T}, Frz ts → AB root → (∀ t ∈ ts, DF t) → r .is_shaped [some (FO root (FD ts))] = some (.ok (.tv (.bl true)) [none]))
    (hQ : ∀ {ts : List T}, Frz ts → r .is_shaped [some (FO "q" (FD ts))] = some (.ok (.tv (.bl false)) [none]))
    (hB : ∀ {ts : List T} {v : T}, Frz (ts.set 0 v) → ts.length = 4 → v ∈ badL → r .is_shaped [some (FO "a" (FD (ts.set 0 v)))] = some (.ok (.tv (.bl false)) [none]))
    {ds : List Int} (e1 : s_law_1 r [some S, none, none, none, none, none, none, none] = some (.ok .nx [some S, some (bx ds 0), none, none, none, none, none, none])) : isRet (b_law r [some S, none, none, none, none, none, none, none]) (.bl true) := by
  have m1 : ∀ p, (bx ds p).mk = true := fun _ => rfl
  obtain ⟨p1, ts, h1, hl, hts, q2⟩ := hdf ds 0 (by omega)
  have f := frz_of hl fun t ht => (hts t ht).st
  have e2 : s_law_2 r [some S, some (bx ds 0), none, none, none, none, none, none] = some (.ok .nx [some S, some (bx ds p1), some (DP 4 ts), none, none, none, none, none]) := by
    simp [m1, q2]
  have sd := strip_DP f
  have md : (DP 4 ts).mk = true := rfl
  have mF : (FD ts).mk = false := rfl
  have sF := (FD_fr f).1
  have i1 := hi "a" ts f
  have i2 := hi "q" ts f
  have t1 := hT f (root := "a") (.inl rfl) hts
  have t2 := hQ f
  unfold FO at t1 t2
  have e3 : s_law_3 r [some S, some (bx ds p1), some (DP 4 ts), none, none, none, none, none] = some (.ok .nx [some S, some (bx ds p1), some (FD ts), none, none, none, none, none]) := by
    generalize DP 4 ts = D at *
    generalize FD ts = D' at *
    simp [md, mF, sd, sF, i1, i2, t1, t2]
  obtain ⟨p2, v, h2, hv, q4⟩ := hbr ds p1 ts h1 f
  have bs : strip v = v ∧ v.mk = false := by
    simp only [badL, List.mem_cons, List.not_mem_nil, or_false] at hv
    rcases hv with rfl | rfl | rfl | rfl | rfl | rfl | rfl | rfl <;> exact ⟨rfl, rfl⟩
  have fb : Frz (ts.set 0 v) := frz_of (by simp [hl]) (set_all (fun t ht => (hts t ht).st) bs)
  have sdb := strip_DP fb
  have i4 := hi "a" _ fb
  have t4 := hB fb hl hv
  have sFb := (FD_fr fb).1
  unfold FO at t4
  have e4 : s_law_4 r [some S, some (bx ds p1), some (FD ts), none, none, none, none, none] = some (.ok .nx [some S, some (bx ds p2), some (FD ts), none, none, none, none, none]) := by
    generalize DP 4 (ts.set 0 v) = Db at *
    generalize FD (ts.set 0 v) = Db' at *
    generalize FD ts = D' at *
    simp [m1, mF, sF, q4, sdb, sFb, i4, t4]
  have dT : dictT [FD ts] = some (DP 4 ts) := by
    show (if (abcd.map (Sum.inr : Str → Key)).length = ts.length then some (T.nd true (.dct (abcd.map Sum.inr)) ts) else none) = _
    rw [if_pos (by rw [hl]; rfl)]; rfl
  have e5 : s_law_5 r [some S, some (bx ds p2), some (FD ts), none, none, none, none, none] = some (.ok .nx [some S, some (bx ds p2), some (FD ts), some (DP 4 ts), none, none, none, none]) := by
    generalize FD ts = D' at *
    generalize DP 4 ts = D at *
    simp [mF, sF, dT]
  have q6 := hd ds p2 3 h2 (by omega)
  obtain ⟨w, ow, gw⟩ := loose_v (drw_ge (ds := ds) (p := p2) (many := 3) (by omega)) (drw_lt (by omega))
  have dw : DF (.tup [.str "record", .tup [.tup [.str "f", .str "b", .str "default", w]]]) := .rcd (ws := [⟨"f", "b", "default", [w]⟩]) (by
    intro u hu
    simp only [List.mem_singleton] at hu
    subst hu
    exact ⟨.inr (.inl rfl), .inr (.inr ⟨rfl, w, rfl, ow⟩)⟩) (by simp [four])
  have st6 := set4j hl (j := 0) (x := "a") rfl (v := .tup [.str "record", .tup [.tup [.str "f", .str "b", .str "default", w]]])
  have pt : plainTop (DP 4 ts) = true := f.pl
  have hts6 : ∀ t ∈ ts.set 0 (.tup [.str "record", .tup [.tup [.str "f", .str "b", .str "default", w]]]), DF t := set_all hts dw
  generalize hv6 : ts.set 0 (.tup [.str "record", .tup [.tup [.str "f", .str "b", .str "default", w]]]) = ts6 at *
  have hl6 : ts6.length = 4 := by rw [← hv6]; simp [hl]
  have f6 := frz_of hl6 fun t ht => (hts6 t ht).st
  have e6 : s_law_6 r [some S, some (bx ds p2), some (FD ts), some (DP 4 ts), none, none, none, none] = some (.ok .nx [some S, some (bx ds (p2 + 1)), some (FD ts), some (DP 4 ts6), none, none, none, none]) := by
    generalize DP 4 ts = D at *
    generalize DP 4 ts6 = D6 at *
    generalize FD ts = D' at *
    generalize drw ds p2 3 = z at *
    simp [m1, q6, gw, ow.st, ow.fr, md, pt, st6, le60, -getT_lst]
  have sd6 := strip_DP f6
  have i7 := hi "b" ts6 f6
  have t7 := hT f6 (root := "b") (.inr (.inl rfl)) hts6
  have sF6 := (FD_fr f6).1
  have md6 : (DP 4 ts6).mk = true := rfl
  unfold FO at t7
  have e7 : s_law_7 r [some S, some (bx ds (p2 + 1)), some (FD ts), some (DP 4 ts6), none, none, none, none] = some (.ok .nx [some S, some (bx ds (p2 + 1)), some (FD ts), some (FD ts6), none, none, none, none]) := by
    generalize DP 4 ts6 = D at *
    generalize FD ts6 = D' at *
    generalize FD ts = D2 at *
    simp [md6, sd6, sF6, i7, t7]
  obtain ⟨ρ', lp⟩ := defs_look K f hts (S := some S) (B := some (bx ds (p2 + 1))) (o3 := some (FD ts6)) 4 0 none none none none rfl
  have e8 : s_law_8 r [some S, some (bx ds (p2 + 1)), some (FD ts), some (FD ts6), none, none, none, none] = some (.ok .nx ρ') := by
    have it : dItV (dV false (dU1 sortedT (dH (dVar 2)))) [some S, some (bx ds (p2 + 1)), some (FD ts), some (FD ts6), none, none, none, none] = some (.ok ((abcd.drop 0).map T.str) [some S, some (bx ds (p2 + 1)), some (FD ts), some (FD ts6), none, none, none, none]) := by
      have so : sortedT (FD ts) = some (.nd true .lst (abcd.map T.str)) := by
        unfold FD
        rw [sorted_dct (by decide)]
        rfl
      have ss := strips_strs abcd
      rw [List.drop_zero]
      generalize FD ts6 = D6 at *
      generalize FD ts = D at *
      generalize abcd.map T.str = L at *
      simp [mF, sF, so, ss]
    unfold s_law_8
    rw [e_dFor, e_bnd, it]
    exact lp
  unfold b_law
  refine isRet_nx _ e1 ?_
  refine isRet_nx _ e2 ?_
  refine isRet_nx _ e3 ?_
  refine isRet_nx _ e4 ?_
  refine isRet_nx _ e5 ?_
  refine isRet_nx _ e6 ?_
  refine isRet_nx _ e7 ?_
  refine isRet_nx _ e8 ?_
  exact isRet_hd (by simp)
def LVH : Nat := 45
def LV : Nat := 2 * LVH
theorem main : ∀ ns : List Int, ns.length ≤ 63 → ∃ ρ', den LVH .law [some (.nd false .scr (ns.map T.int))] = some (.ok (.tv (.bl true)) ρ') := fun ns _ => by
  obtain ⟨ds, hg⟩ := digits_ok (r := den 43) (cell_ok (den 42)) ns
  have hg' : den 44 .l_digits [some (.nd false .scr (ns.map T.int)), some (.int 0), some (.int 63)] = _ := hg
  have hd : DrawOk (den 44 .l_draw) := draw_ok (den 43)
  have nm : ∀ k, NameIs (den (k + 1) .is_name) := fun k => isName_ok (den k)
  have df : ∀ k, DefIs (den (k + 3) .is_definition) := fun k => isDef_ok (r := den (k + 2)) (asc_ok (r := den (k + 1)) (nm k))
  have ty : ∀ k, TyIs (den (k + 1) .types_of) := fun k => types_ok (den k)
  have of_ : ∀ k, OfOk (den (k + 1) .Format_of) := fun k => of_ok (den k)
  have ns_ : ∀ k, NmsOk (den (k + 1) .Format_names) := fun k => nms_ok (den k)
  have K : Kit (den 44) := ⟨ty 43, l_types_ok (den 43), always_ok (den 43), alwt_ok (r := den 43) (always_ok (den 42)), field_ok (den 43), case_ok (den 43)⟩
  refine ⟨_, isRet_def (n := 1) (m := 8) (body := b_law (den 44)) ?_⟩
  show isRet (b_law (den 44) [some (.nd false .scr (ns.map T.int)), none, none, none, none, none, none, none]) _
  refine law_run hd (init_ok (den 43)) (defs_ok (r := den 43) (draw_ok (den 42)) (kind_ok (r := den 42) (draw_ok (den 41))) (some_ok (den 42))) (broken_ok (r := den 43) (draw_ok (den 42))) K
    (fun f hr h => shaped_T (r := den 43) (nm 42) (of_ 42) (ns_ 42) f hr fun t ht => good_of (df 40) (ty 42) (h t ht)) (fun f => shaped_Q (r := den 43) (nm 42) f) (fun {ts v} f hl hv => ?_) (ds := ds) ?_
  · obtain ⟨b, tys, p, b1, b2, b3, b4⟩ := (bad_of (r := den 43) (df 40) (ty 42) v hv).no
    have bb := bad_of (r := den 43) (df 40) (ty 42) v hv
    exact shaped_B (r := den 43) (nm 42) (of_ 42) (ns_ 42) f (.inl rfl) (t := v) (by rw [List.getElem?_set_self (by omega)]) bb.st bb.fr b1 b2 (b3 _ f) b4
  · generalize den 44 = r at hg' ⊢
    simp [strips_int, hg', bx]
end K10

namespace K10
open PySem PySem.Spec PyProof.Rows L2 MP LamX
theorem all_mk {l : PySem.W.OpenLaw} {w : World} {K : PySem.W.Frag} {h : Heap} {mg : Str → Option Value} {fa f_is_name f_types_of f_is_always f_always_types f_field_of f_case_of f_are_ascending f_is_definition f_is_shaped f_l_cell f_l_digits f_l_draw f_l_kind f_l_some f_l_defs f_l_types f_l_broken f_law f_Format__init f_Format_of f_Format_names : Addr} (X : K.In h) (G : h.Ns mainGlobals mg) (hfa : mg "law" = some (.ref fa))
    {od_is_name an_is_name od_types_of an_types_of od_is_always an_is_always od_always_types an_always_types od_field_of an_field_of od_case_of an_case_of od_are_ascending an_are_ascending od_is_definition an_is_definition od_is_shaped an_is_shaped od_l_cell an_l_cell od_l_digits an_l_digits od_l_draw an_l_draw od_l_kind an_l_kind od_l_some an_l_some od_l_defs an_l_defs od_l_types an_l_types od_l_broken an_l_broken od_law an_law od_Format__init an_Format__init od_Format_of an_Format_of od_Format_names an_Format_names : Option Addr} {sl_is_name sl_types_of sl_is_always sl_always_types sl_field_of sl_case_of sl_are_ascending sl_is_definition sl_is_shaped sl_l_cell sl_l_digits sl_l_draw sl_l_kind sl_l_some sl_l_defs sl_l_types sl_l_broken sl_law sl_Format__init sl_Format_of sl_Format_names : Array (Option Value)} {oc_is_name kV_is_name dc_is_name pm_is_name ct_is_name oc_types_of kV_types_of dc_types_of pm_types_of cd_types_of ct_types_of oc_is_always kV_is_always dc_is_always pm_is_always cd_is_always ct_is_always oc_always_types kV_always_types dc_always_types pm_always_types cd_always_types ct_always_types oc_field_of kV_field_of dc_field_of pm_field_of cd_field_of ct_field_of oc_case_of kV_case_of dc_case_of pm_case_of cd_case_of ct_case_of oc_are_ascending kV_are_ascending dc_are_ascending pm_are_ascending ct_are_ascending oc_is_definition kV_is_definition dc_is_definition pm_is_definition cd_is_definition ct_is_definition oc_is_shaped kV_is_shaped dc_is_shaped pm_is_shaped ct_is_shaped oc_l_cell kV_l_cell dc_l_cell pm_l_cell cd_l_cell ct_l_cell oc_l_digits kV_l_digits dc_l_digits pm_l_digits cd_l_digits ct_l_digits oc_l_draw kV_l_draw dc_l_draw pm_l_draw cd_l_draw ct_l_draw oc_l_kind kV_l_kind dc_l_kind pm_l_kind cd_l_kind ct_l_kind oc_l_some kV_l_some dc_l_some pm_l_some cd_l_some ct_l_some oc_l_defs kV_l_defs dc_l_defs pm_l_defs cd_l_defs ct_l_defs oc_l_types kV_l_types dc_l_types pm_l_types cd_l_types ct_l_types oc_l_broken kV_l_broken dc_l_broken pm_l_broken cd_l_broken ct_l_broken oc_law kV_law dc_law pm_law cd_law ct_law oc_Format__init kV_Format__init dc_Format__init pm_Format__init cd_Format__init ct_Format__init oc_Format_of kV_Format_of dc_Format_of pm_Format_of cd_Format_of ct_Format_of oc_Format_names kV_Format_names dc_Format_names pm_Format_names cd_Format_names ct_Format_names : Value}
    {tc_is_name tp_is_name tc_are_ascending tp_are_ascending tc_is_shaped tp_is_shaped : Addr} {ue_is_name ue_are_ascending ue_is_shaped : Value} {ud_is_name ud_are_ascending ud_is_shaped : Option Addr} {uv_is_name uv_are_ascending uv_is_shaped : Array Value} {us_is_name us_are_ascending us_is_shaped : Array (Option Value)}
    {cc_Format : Addr}
    (a_is_name : PySem.W.nsIn K mainGlobals "is_name" = some (some (.ref f_is_name))) (l_is_name : K.lookup f_is_name = some ⟨oc_is_name, od_is_name, .func (PySem.W.fnOf "is_name" "is_name" (defArgs (top 4)) (defBody (top 4)) (defScope (top 4)) .none kV_is_name dc_is_name pm_is_name an_is_name (.ref tc_is_name) ct_is_name), sl_is_name⟩) (c_is_name : PySem.W.codeIn K (.ref tc_is_name) "is_name" = true) (k_is_name : PySem.W.keepIn K (.ref f_is_name) = true)
    (a_types_of : PySem.W.nsIn K mainGlobals "types_of" = some (some (.ref f_types_of))) (l_types_of : K.lookup f_types_of = some ⟨oc_types_of, od_types_of, .func (PySem.W.fnOf "types_of" "types_of" (defArgs (top 13)) (defBody (top 13)) (defScope (top 13)) .none kV_types_of dc_types_of pm_types_of an_types_of cd_types_of ct_types_of), sl_types_of⟩) (c_types_of : PySem.W.codeIn K cd_types_of "types_of" = true) (k_types_of : PySem.W.keepIn K (.ref f_types_of) = true)
    (a_is_always : PySem.W.nsIn K mainGlobals "is_always" = some (some (.ref f_is_always))) (l_is_always : K.lookup f_is_always = some ⟨oc_is_always, od_is_always, .func (PySem.W.fnOf "is_always" "is_always" (defArgs (top 14)) (defBody (top 14)) (defScope (top 14)) .none kV_is_always dc_is_always pm_is_always an_is_always cd_is_always ct_is_always), sl_is_always⟩) (c_is_always : PySem.W.codeIn K cd_is_always "is_always" = true) (k_is_always : PySem.W.keepIn K (.ref f_is_always) = true)
    (a_always_types : PySem.W.nsIn K mainGlobals "always_types" = some (some (.ref f_always_types))) (l_always_types : K.lookup f_always_types = some ⟨oc_always_types, od_always_types, .func (PySem.W.fnOf "always_types" "always_types" (defArgs (top 15)) (defBody (top 15)) (defScope (top 15)) .none kV_always_types dc_always_types pm_always_types an_always_types cd_always_types ct_always_types), sl_always_types⟩) (c_always_types : PySem.W.codeIn K cd_always_types "always_types" = true) (k_always_types : PySem.W.keepIn K (.ref f_always_types) = true)
    (a_field_of : PySem.W.nsIn K mainGlobals "field_of" = some (some (.ref f_field_of))) (l_field_of : K.lookup f_field_of = some ⟨oc_field_of, od_field_of, .func (PySem.W.fnOf "field_of" "field_of" (defArgs (top 16)) (defBody (top 16)) (defScope (top 16)) .none kV_field_of dc_field_of pm_field_of an_field_of cd_field_of ct_field_of), sl_field_of⟩) (c_field_of : PySem.W.codeIn K cd_field_of "field_of" = true) (k_field_of : PySem.W.keepIn K (.ref f_field_of) = true)
    (a_case_of : PySem.W.nsIn K mainGlobals "case_of" = some (some (.ref f_case_of))) (l_case_of : K.lookup f_case_of = some ⟨oc_case_of, od_case_of, .func (PySem.W.fnOf "case_of" "case_of" (defArgs (top 17)) (defBody (top 17)) (defScope (top 17)) .none kV_case_of dc_case_of pm_case_of an_case_of cd_case_of ct_case_of), sl_case_of⟩) (c_case_of : PySem.W.codeIn K cd_case_of "case_of" = true) (k_case_of : PySem.W.keepIn K (.ref f_case_of) = true)
    (a_are_ascending : PySem.W.nsIn K mainGlobals "are_ascending" = some (some (.ref f_are_ascending))) (l_are_ascending : K.lookup f_are_ascending = some ⟨oc_are_ascending, od_are_ascending, .func (PySem.W.fnOf "are_ascending" "are_ascending" (defArgs (top 18)) (defBody (top 18)) (defScope (top 18)) .none kV_are_ascending dc_are_ascending pm_are_ascending an_are_ascending (.ref tc_are_ascending) ct_are_ascending), sl_are_ascending⟩) (c_are_ascending : PySem.W.codeIn K (.ref tc_are_ascending) "are_ascending" = true) (k_are_ascending : PySem.W.keepIn K (.ref f_are_ascending) = true)
    (a_is_definition : PySem.W.nsIn K mainGlobals "is_definition" = some (some (.ref f_is_definition))) (l_is_definition : K.lookup f_is_definition = some ⟨oc_is_definition, od_is_definition, .func (PySem.W.fnOf "is_definition" "is_definition" (defArgs (top 19)) (defBody (top 19)) (defScope (top 19)) .none kV_is_definition dc_is_definition pm_is_definition an_is_definition cd_is_definition ct_is_definition), sl_is_definition⟩) (c_is_definition : PySem.W.codeIn K cd_is_definition "is_definition" = true) (k_is_definition : PySem.W.keepIn K (.ref f_is_definition) = true)
    (a_is_shaped : PySem.W.nsIn K mainGlobals "is_shaped" = some (some (.ref f_is_shaped))) (l_is_shaped : K.lookup f_is_shaped = some ⟨oc_is_shaped, od_is_shaped, .func (PySem.W.fnOf "is_shaped" "is_shaped" (defArgs (top 20)) (defBody (top 20)) (defScope (top 20)) .none kV_is_shaped dc_is_shaped pm_is_shaped an_is_shaped (.ref tc_is_shaped) ct_is_shaped), sl_is_shaped⟩) (c_is_shaped : PySem.W.codeIn K (.ref tc_is_shaped) "is_shaped" = true) (k_is_shaped : PySem.W.keepIn K (.ref f_is_shaped) = true)
    (a_l_cell : PySem.W.nsIn K mainGlobals "_law_cell" = some (some (.ref f_l_cell))) (l_l_cell : K.lookup f_l_cell = some ⟨oc_l_cell, od_l_cell, .func (PySem.W.fnOf "_law_cell" "_law_cell" (defArgs (top 22)) (defBody (top 22)) (defScope (top 22)) .none kV_l_cell dc_l_cell pm_l_cell an_l_cell cd_l_cell ct_l_cell), sl_l_cell⟩) (c_l_cell : PySem.W.codeIn K cd_l_cell "_law_cell" = true) (k_l_cell : PySem.W.keepIn K (.ref f_l_cell) = true)
    (a_l_digits : PySem.W.nsIn K mainGlobals "_law_digits" = some (some (.ref f_l_digits))) (l_l_digits : K.lookup f_l_digits = some ⟨oc_l_digits, od_l_digits, .func (PySem.W.fnOf "_law_digits" "_law_digits" (defArgs (top 23)) (defBody (top 23)) (defScope (top 23)) .none kV_l_digits dc_l_digits pm_l_digits an_l_digits cd_l_digits ct_l_digits), sl_l_digits⟩) (c_l_digits : PySem.W.codeIn K cd_l_digits "_law_digits" = true) (k_l_digits : PySem.W.keepIn K (.ref f_l_digits) = true)
    (a_l_draw : PySem.W.nsIn K mainGlobals "_law_draw" = some (some (.ref f_l_draw))) (l_l_draw : K.lookup f_l_draw = some ⟨oc_l_draw, od_l_draw, .func (PySem.W.fnOf "_law_draw" "_law_draw" (defArgs (top 24)) (defBody (top 24)) (defScope (top 24)) .none kV_l_draw dc_l_draw pm_l_draw an_l_draw cd_l_draw ct_l_draw), sl_l_draw⟩) (c_l_draw : PySem.W.codeIn K cd_l_draw "_law_draw" = true) (k_l_draw : PySem.W.keepIn K (.ref f_l_draw) = true)
    (a_l_kind : PySem.W.nsIn K mainGlobals "_law_kind" = some (some (.ref f_l_kind))) (l_l_kind : K.lookup f_l_kind = some ⟨oc_l_kind, od_l_kind, .func (PySem.W.fnOf "_law_kind" "_law_kind" (defArgs (top 35)) (defBody (top 35)) (defScope (top 35)) .none kV_l_kind dc_l_kind pm_l_kind an_l_kind cd_l_kind ct_l_kind), sl_l_kind⟩) (c_l_kind : PySem.W.codeIn K cd_l_kind "_law_kind" = true) (k_l_kind : PySem.W.keepIn K (.ref f_l_kind) = true)
    (a_l_some : PySem.W.nsIn K mainGlobals "_law_some" = some (some (.ref f_l_some))) (l_l_some : K.lookup f_l_some = some ⟨oc_l_some, od_l_some, .func (PySem.W.fnOf "_law_some" "_law_some" (defArgs (top 36)) (defBody (top 36)) (defScope (top 36)) .none kV_l_some dc_l_some pm_l_some an_l_some cd_l_some ct_l_some), sl_l_some⟩) (c_l_some : PySem.W.codeIn K cd_l_some "_law_some" = true) (k_l_some : PySem.W.keepIn K (.ref f_l_some) = true)
    (a_l_defs : PySem.W.nsIn K mainGlobals "_law_defs" = some (some (.ref f_l_defs))) (l_l_defs : K.lookup f_l_defs = some ⟨oc_l_defs, od_l_defs, .func (PySem.W.fnOf "_law_defs" "_law_defs" (defArgs (top 37)) (defBody (top 37)) (defScope (top 37)) .none kV_l_defs dc_l_defs pm_l_defs an_l_defs cd_l_defs ct_l_defs), sl_l_defs⟩) (c_l_defs : PySem.W.codeIn K cd_l_defs "_law_defs" = true) (k_l_defs : PySem.W.keepIn K (.ref f_l_defs) = true)
    (a_l_types : PySem.W.nsIn K mainGlobals "_law_types" = some (some (.ref f_l_types))) (l_l_types : K.lookup f_l_types = some ⟨oc_l_types, od_l_types, .func (PySem.W.fnOf "_law_types" "_law_types" (defArgs (top 41)) (defBody (top 41)) (defScope (top 41)) .none kV_l_types dc_l_types pm_l_types an_l_types cd_l_types ct_l_types), sl_l_types⟩) (c_l_types : PySem.W.codeIn K cd_l_types "_law_types" = true) (k_l_types : PySem.W.keepIn K (.ref f_l_types) = true)
    (a_l_broken : PySem.W.nsIn K mainGlobals "_law_broken" = some (some (.ref f_l_broken))) (l_l_broken : K.lookup f_l_broken = some ⟨oc_l_broken, od_l_broken, .func (PySem.W.fnOf "_law_broken" "_law_broken" (defArgs (top 42)) (defBody (top 42)) (defScope (top 42)) .none kV_l_broken dc_l_broken pm_l_broken an_l_broken cd_l_broken ct_l_broken), sl_l_broken⟩) (c_l_broken : PySem.W.codeIn K cd_l_broken "_law_broken" = true) (k_l_broken : PySem.W.keepIn K (.ref f_l_broken) = true)
    (a_law : PySem.W.nsIn K mainGlobals "law" = some (some (.ref f_law))) (l_law : K.lookup f_law = some ⟨oc_law, od_law, .func (PySem.W.fnOf "law" "law" (defArgs (top 43)) (defBody (top 43)) (defScope (top 43)) .none kV_law dc_law pm_law an_law cd_law ct_law), sl_law⟩) (c_law : PySem.W.codeIn K cd_law "law" = true) (k_law : PySem.W.keepIn K (.ref f_law) = true)
    (l_Format__init : K.lookup f_Format__init = some ⟨oc_Format__init, od_Format__init, .func (PySem.W.fnOf "__init__" "Format.__init__" (defArgs (inCls (top 12) 0)) (defBody (inCls (top 12) 0)) (defScope (inCls (top 12) 0)) .none kV_Format__init dc_Format__init pm_Format__init an_Format__init cd_Format__init ct_Format__init), sl_Format__init⟩) (c_Format__init : PySem.W.codeIn K cd_Format__init "Format.__init__" = true) (k_Format__init : PySem.W.keepIn K (.ref f_Format__init) = true)
    (l_Format_of : K.lookup f_Format_of = some ⟨oc_Format_of, od_Format_of, .func (PySem.W.fnOf "of" "Format.of" (defArgs (inCls (top 12) 1)) (defBody (inCls (top 12) 1)) (defScope (inCls (top 12) 1)) .none kV_Format_of dc_Format_of pm_Format_of an_Format_of cd_Format_of ct_Format_of), sl_Format_of⟩) (c_Format_of : PySem.W.codeIn K cd_Format_of "Format.of" = true) (k_Format_of : PySem.W.keepIn K (.ref f_Format_of) = true)
    (l_Format_names : K.lookup f_Format_names = some ⟨oc_Format_names, od_Format_names, .func (PySem.W.fnOf "names" "Format.names" (defArgs (inCls (top 12) 2)) (defBody (inCls (top 12) 2)) (defScope (inCls (top 12) 2)) .none kV_Format_names dc_Format_names pm_Format_names an_Format_names cd_Format_names ct_Format_names), sl_Format_names⟩) (c_Format_names : PySem.W.codeIn K cd_Format_names "Format.names" = true) (k_Format_names : PySem.W.keepIn K (.ref f_Format_names) = true)
    (z_all : PySem.W.nsIn K mainGlobals "all" = some none)
    (z_len : PySem.W.nsIn K mainGlobals "len" = some none)
    (z_range : PySem.W.nsIn K mainGlobals "range" = some none)
    (z_int : PySem.W.nsIn K mainGlobals "int" = some none)
    (z_min : PySem.W.nsIn K mainGlobals "min" = some none)
    (z_tuple : PySem.W.nsIn K mainGlobals "tuple" = some none)
    (z_dict : PySem.W.nsIn K mainGlobals "dict" = some none)
    (z_sorted : PySem.W.nsIn K mainGlobals "sorted" = some none)
    (z_isinstance : PySem.W.nsIn K mainGlobals "isinstance" = some none)
    (z_list : PySem.W.nsIn K mainGlobals "list" = some none)
    (ga_Format : PySem.W.nsIn K mainGlobals "Format" = some (some (.ref cc_Format))) (g1_Format : PySem.W.plainGet K cc_Format Str.empty = true) (g2_Format : PySem.W.hasDictIn K cc_Format = true) (g3_Format : PySem.W.plainOver K cc_Format = true) (g4_Format : PySem.W.findIn K (.ref cc_Format) "__setattr__" = some (some (.builtin "object.__setattr__"))) (gf0_Format : PySem.W.findIn K (.ref cc_Format) "root" = some none) (gf1_Format : PySem.W.findIn K (.ref cc_Format) "definitions" = some none) (g5_Format : PySem.W.makesIn K cc_Format = true) (g6_Format : PySem.W.findIn K (.ref cc_Format) "__init__" = some (some (.ref f_Format__init))) (g7_Format : PySem.W.isFn K (.ref f_Format__init) = true) (g8_Format : PySem.W.keepIn K (.ref cc_Format) = true) (gm_Format_of : PySem.W.findIn K (.ref cc_Format) "of" = some (some (.ref f_Format_of))) (gn_Format_of : PySem.W.isFn K (.ref f_Format_of) = true) (gm_Format_names : PySem.W.findIn K (.ref cc_Format) "names" = some (some (.ref f_Format_names))) (gn_Format_names : PySem.W.isFn K (.ref f_Format_names) = true)
    (u_is_name : K.lookup tc_is_name = some ⟨ue_is_name, ud_is_name, .fields uv_is_name, us_is_name⟩) (t_is_name : uv_is_name[11]? = some (.ref tp_is_name)) (v_is_name : K.lookup tp_is_name = none)
    (u_are_ascending : K.lookup tc_are_ascending = some ⟨ue_are_ascending, ud_are_ascending, .fields uv_are_ascending, us_are_ascending⟩) (t_are_ascending : uv_are_ascending[11]? = some (.ref tp_are_ascending)) (v_are_ascending : K.lookup tp_are_ascending = none)
    (u_is_shaped : K.lookup tc_is_shaped = some ⟨ue_is_shaped, ud_is_shaped, .fields uv_is_shaped, us_is_shaped⟩) (t_is_shaped : uv_is_shaped[11]? = some (.ref tp_is_shaped)) (v_is_shaped : K.lookup tp_is_shaped = none)
    {k_LETTERS k_FIGURES k_NAME_MOST k_DEFINITIONS_MOST k_BOUND_MOST k_LENGTH_MOST k_FIELDS_MOST k_CASES_MOST k_OPTIONAL : Tok}
    (w_LETTERS : PySem.W.nsIn K mainGlobals "LETTERS" = some (some (.str "abcdefghijklmnopqrstuvwxyz" k_LETTERS)))
    (w_FIGURES : PySem.W.nsIn K mainGlobals "FIGURES" = some (some (.str "0123456789" k_FIGURES)))
    (w_NAME_MOST : PySem.W.nsIn K mainGlobals "NAME_MOST" = some (some (.int 8 k_NAME_MOST)))
    (w_DEFINITIONS_MOST : PySem.W.nsIn K mainGlobals "DEFINITIONS_MOST" = some (some (.int 12 k_DEFINITIONS_MOST)))
    (w_BOUND_MOST : PySem.W.nsIn K mainGlobals "BOUND_MOST" = some (some (.int 999999 k_BOUND_MOST)))
    (w_LENGTH_MOST : PySem.W.nsIn K mainGlobals "LENGTH_MOST" = some (some (.int 9 k_LENGTH_MOST)))
    (w_FIELDS_MOST : PySem.W.nsIn K mainGlobals "FIELDS_MOST" = some (some (.int 4 k_FIELDS_MOST)))
    (w_CASES_MOST : PySem.W.nsIn K mainGlobals "CASES_MOST" = some (some (.int 4 k_CASES_MOST)))
    (w_OPTIONAL : PySem.W.nsIn K mainGlobals "OPTIONAL" = some (some (.str "optional" k_OPTIONAL)))
    {q : Program} {n : Nat} (hn : n ≤ 63) (TA : TabsAt q K h) (r_is_name : ((recsOf q).any fun e => e.name == "is_name") = true) (r_are_ascending : ((recsOf q).any fun e => e.name == "are_ascending") = true) (r_is_shaped : ((recsOf q).any fun e => e.name == "is_shaped") = true)
    : LawAtS l w K (L2.CX l.prog w) LV n "_law_script" mg fa h := by
  have e := hfa.symm.trans (PySem.W.mg_of X G a_law)
  cases e
  let ad : Fi → Addr := fun i => match i with
    | .is_name => f_is_name
    | .types_of => f_types_of
    | .is_always => f_is_always
    | .always_types => f_always_types
    | .field_of => f_field_of
    | .case_of => f_case_of
    | .are_ascending => f_are_ascending
    | .is_definition => f_is_definition
    | .is_shaped => f_is_shaped
    | .l_cell => f_l_cell
    | .l_digits => f_l_digits
    | .l_draw => f_l_draw
    | .l_kind => f_l_kind
    | .l_some => f_l_some
    | .l_defs => f_l_defs
    | .l_types => f_l_types
    | .l_broken => f_l_broken
    | .law => fa
    | .Format__init => f_Format__init
    | .Format_of => f_Format_of
    | .Format_names => f_Format_names
  let fdt : Fi → FuncData := fun i => match i with
    | .is_name => PySem.W.fnOf "is_name" "is_name" (defArgs (top 4)) (defBody (top 4)) (defScope (top 4)) .none kV_is_name dc_is_name pm_is_name an_is_name (.ref tc_is_name) ct_is_name
    | .types_of => PySem.W.fnOf "types_of" "types_of" (defArgs (top 13)) (defBody (top 13)) (defScope (top 13)) .none kV_types_of dc_types_of pm_types_of an_types_of cd_types_of ct_types_of
    | .is_always => PySem.W.fnOf "is_always" "is_always" (defArgs (top 14)) (defBody (top 14)) (defScope (top 14)) .none kV_is_always dc_is_always pm_is_always an_is_always cd_is_always ct_is_always
    | .always_types => PySem.W.fnOf "always_types" "always_types" (defArgs (top 15)) (defBody (top 15)) (defScope (top 15)) .none kV_always_types dc_always_types pm_always_types an_always_types cd_always_types ct_always_types
    | .field_of => PySem.W.fnOf "field_of" "field_of" (defArgs (top 16)) (defBody (top 16)) (defScope (top 16)) .none kV_field_of dc_field_of pm_field_of an_field_of cd_field_of ct_field_of
    | .case_of => PySem.W.fnOf "case_of" "case_of" (defArgs (top 17)) (defBody (top 17)) (defScope (top 17)) .none kV_case_of dc_case_of pm_case_of an_case_of cd_case_of ct_case_of
    | .are_ascending => PySem.W.fnOf "are_ascending" "are_ascending" (defArgs (top 18)) (defBody (top 18)) (defScope (top 18)) .none kV_are_ascending dc_are_ascending pm_are_ascending an_are_ascending (.ref tc_are_ascending) ct_are_ascending
    | .is_definition => PySem.W.fnOf "is_definition" "is_definition" (defArgs (top 19)) (defBody (top 19)) (defScope (top 19)) .none kV_is_definition dc_is_definition pm_is_definition an_is_definition cd_is_definition ct_is_definition
    | .is_shaped => PySem.W.fnOf "is_shaped" "is_shaped" (defArgs (top 20)) (defBody (top 20)) (defScope (top 20)) .none kV_is_shaped dc_is_shaped pm_is_shaped an_is_shaped (.ref tc_is_shaped) ct_is_shaped
    | .l_cell => PySem.W.fnOf "_law_cell" "_law_cell" (defArgs (top 22)) (defBody (top 22)) (defScope (top 22)) .none kV_l_cell dc_l_cell pm_l_cell an_l_cell cd_l_cell ct_l_cell
    | .l_digits => PySem.W.fnOf "_law_digits" "_law_digits" (defArgs (top 23)) (defBody (top 23)) (defScope (top 23)) .none kV_l_digits dc_l_digits pm_l_digits an_l_digits cd_l_digits ct_l_digits
    | .l_draw => PySem.W.fnOf "_law_draw" "_law_draw" (defArgs (top 24)) (defBody (top 24)) (defScope (top 24)) .none kV_l_draw dc_l_draw pm_l_draw an_l_draw cd_l_draw ct_l_draw
    | .l_kind => PySem.W.fnOf "_law_kind" "_law_kind" (defArgs (top 35)) (defBody (top 35)) (defScope (top 35)) .none kV_l_kind dc_l_kind pm_l_kind an_l_kind cd_l_kind ct_l_kind
    | .l_some => PySem.W.fnOf "_law_some" "_law_some" (defArgs (top 36)) (defBody (top 36)) (defScope (top 36)) .none kV_l_some dc_l_some pm_l_some an_l_some cd_l_some ct_l_some
    | .l_defs => PySem.W.fnOf "_law_defs" "_law_defs" (defArgs (top 37)) (defBody (top 37)) (defScope (top 37)) .none kV_l_defs dc_l_defs pm_l_defs an_l_defs cd_l_defs ct_l_defs
    | .l_types => PySem.W.fnOf "_law_types" "_law_types" (defArgs (top 41)) (defBody (top 41)) (defScope (top 41)) .none kV_l_types dc_l_types pm_l_types an_l_types cd_l_types ct_l_types
    | .l_broken => PySem.W.fnOf "_law_broken" "_law_broken" (defArgs (top 42)) (defBody (top 42)) (defScope (top 42)) .none kV_l_broken dc_l_broken pm_l_broken an_l_broken cd_l_broken ct_l_broken
    | .law => PySem.W.fnOf "law" "law" (defArgs (top 43)) (defBody (top 43)) (defScope (top 43)) .none kV_law dc_law pm_law an_law cd_law ct_law
    | .Format__init => PySem.W.fnOf "__init__" "Format.__init__" (defArgs (inCls (top 12) 0)) (defBody (inCls (top 12) 0)) (defScope (inCls (top 12) 0)) .none kV_Format__init dc_Format__init pm_Format__init an_Format__init cd_Format__init ct_Format__init
    | .Format_of => PySem.W.fnOf "of" "Format.of" (defArgs (inCls (top 12) 1)) (defBody (inCls (top 12) 1)) (defScope (inCls (top 12) 1)) .none kV_Format_of dc_Format_of pm_Format_of an_Format_of cd_Format_of ct_Format_of
    | .Format_names => PySem.W.fnOf "names" "Format.names" (defArgs (inCls (top 12) 2)) (defBody (inCls (top 12) 2)) (defScope (inCls (top 12) 2)) .none kV_Format_names dc_Format_names pm_Format_names an_Format_names cd_Format_names ct_Format_names
  have TT : FamTopC fam K mg ad fdt := by
    refine ⟨fun i => ?_, fun i hi => ?_, fun i => ?_, fun x hx => ?_⟩
    · cases i with
      | is_name => exact fun_mk (st := (top 4)) l_is_name c_is_name k_is_name
      | types_of => exact fun_mk (st := (top 13)) l_types_of c_types_of k_types_of
      | is_always => exact fun_mk (st := (top 14)) l_is_always c_is_always k_is_always
      | always_types => exact fun_mk (st := (top 15)) l_always_types c_always_types k_always_types
      | field_of => exact fun_mk (st := (top 16)) l_field_of c_field_of k_field_of
      | case_of => exact fun_mk (st := (top 17)) l_case_of c_case_of k_case_of
      | are_ascending => exact fun_mk (st := (top 18)) l_are_ascending c_are_ascending k_are_ascending
      | is_definition => exact fun_mk (st := (top 19)) l_is_definition c_is_definition k_is_definition
      | is_shaped => exact fun_mk (st := (top 20)) l_is_shaped c_is_shaped k_is_shaped
      | l_cell => exact fun_mk (st := (top 22)) l_l_cell c_l_cell k_l_cell
      | l_digits => exact fun_mk (st := (top 23)) l_l_digits c_l_digits k_l_digits
      | l_draw => exact fun_mk (st := (top 24)) l_l_draw c_l_draw k_l_draw
      | l_kind => exact fun_mk (st := (top 35)) l_l_kind c_l_kind k_l_kind
      | l_some => exact fun_mk (st := (top 36)) l_l_some c_l_some k_l_some
      | l_defs => exact fun_mk (st := (top 37)) l_l_defs c_l_defs k_l_defs
      | l_types => exact fun_mk (st := (top 41)) l_l_types c_l_types k_l_types
      | l_broken => exact fun_mk (st := (top 42)) l_l_broken c_l_broken k_l_broken
      | law => exact fun_mk (st := (top 43)) l_law c_law k_law
      | Format__init => exact fun_mk (st := (inCls (top 12) 0)) l_Format__init c_Format__init k_Format__init
      | Format_of => exact fun_mk (st := (inCls (top 12) 1)) l_Format_of c_Format_of k_Format_of
      | Format_names => exact fun_mk (st := (inCls (top 12) 2)) l_Format_names c_Format_names k_Format_names
    · cases i with
      | is_name => exact PySem.W.mg_of X G a_is_name
      | types_of => exact PySem.W.mg_of X G a_types_of
      | is_always => exact PySem.W.mg_of X G a_is_always
      | always_types => exact PySem.W.mg_of X G a_always_types
      | field_of => exact PySem.W.mg_of X G a_field_of
      | case_of => exact PySem.W.mg_of X G a_case_of
      | are_ascending => exact PySem.W.mg_of X G a_are_ascending
      | is_definition => exact PySem.W.mg_of X G a_is_definition
      | is_shaped => exact PySem.W.mg_of X G a_is_shaped
      | l_cell => exact PySem.W.mg_of X G a_l_cell
      | l_digits => exact PySem.W.mg_of X G a_l_digits
      | l_draw => exact PySem.W.mg_of X G a_l_draw
      | l_kind => exact PySem.W.mg_of X G a_l_kind
      | l_some => exact PySem.W.mg_of X G a_l_some
      | l_defs => exact PySem.W.mg_of X G a_l_defs
      | l_types => exact PySem.W.mg_of X G a_l_types
      | l_broken => exact PySem.W.mg_of X G a_l_broken
      | law => exact PySem.W.mg_of X G a_law
      | Format__init => cases hi
      | Format_of => cases hi
      | Format_names => cases hi
    · cases i with
      | is_name => exact (fun_mk (st := (top 4)) l_is_name c_is_name k_is_name).binds (ps := ["text"]) fun _ _ _ _ _ _ us hl => match us, hl with | [_], _ => rfl
      | types_of => exact (fun_mk (st := (top 13)) l_types_of c_types_of k_types_of).binds (ps := ["definition"]) fun _ _ _ _ _ _ us hl => match us, hl with | [_], _ => rfl
      | is_always => exact (fun_mk (st := (top 14)) l_is_always c_is_always k_is_always).binds (ps := ["field"]) fun _ _ _ _ _ _ us hl => match us, hl with | [_], _ => rfl
      | always_types => exact (fun_mk (st := (top 15)) l_always_types c_always_types k_always_types).binds (ps := ["definition"]) fun _ _ _ _ _ _ us hl => match us, hl with | [_], _ => rfl
      | field_of => exact (fun_mk (st := (top 16)) l_field_of c_field_of k_field_of).binds (ps := ["definition", "name"]) fun _ _ _ _ _ _ us hl => match us, hl with | [_, _], _ => rfl
      | case_of => exact (fun_mk (st := (top 17)) l_case_of c_case_of k_case_of).binds (ps := ["definition", "tag"]) fun _ _ _ _ _ _ us hl => match us, hl with | [_, _], _ => rfl
      | are_ascending => exact (fun_mk (st := (top 18)) l_are_ascending c_are_ascending k_are_ascending).binds (ps := ["names"]) fun _ _ _ _ _ _ us hl => match us, hl with | [_], _ => rfl
      | is_definition => exact (fun_mk (st := (top 19)) l_is_definition c_is_definition k_is_definition).binds (ps := ["definition"]) fun _ _ _ _ _ _ us hl => match us, hl with | [_], _ => rfl
      | is_shaped => exact (fun_mk (st := (top 20)) l_is_shaped c_is_shaped k_is_shaped).binds (ps := ["form"]) fun _ _ _ _ _ _ us hl => match us, hl with | [_], _ => rfl
      | l_cell => exact (fun_mk (st := (top 22)) l_l_cell c_l_cell k_l_cell).binds (ps := ["_law_script", "_law_k"]) fun _ _ _ _ _ _ us hl => match us, hl with | [_, _], _ => rfl
      | l_digits => exact (fun_mk (st := (top 23)) l_l_digits c_l_digits k_l_digits).binds (ps := ["_law_script", "_law_first", "_law_last"]) fun _ _ _ _ _ _ us hl => match us, hl with | [_, _, _], _ => rfl
      | l_draw => exact (fun_mk (st := (top 24)) l_l_draw c_l_draw k_l_draw).binds (ps := ["_law_box", "_law_many"]) fun _ _ _ _ _ _ us hl => match us, hl with | [_, _], _ => rfl
      | l_kind => exact (fun_mk (st := (top 35)) l_l_kind c_l_kind k_l_kind).binds (ps := ["_law_box", "_law_name_here"]) fun _ _ _ _ _ _ us hl => match us, hl with | [_, _], _ => rfl
      | l_some => exact (fun_mk (st := (top 36)) l_l_some c_l_some k_l_some).binds (ps := ["_law_definition", "_law_at"]) fun _ _ _ _ _ _ us hl => match us, hl with | [_, _], _ => rfl
      | l_defs => exact (fun_mk (st := (top 37)) l_l_defs c_l_defs k_l_defs).binds (ps := ["_law_box"]) fun _ _ _ _ _ _ us hl => match us, hl with | [_], _ => rfl
      | l_types => exact (fun_mk (st := (top 41)) l_l_types c_l_types k_l_types).binds (ps := ["_law_definition"]) fun _ _ _ _ _ _ us hl => match us, hl with | [_], _ => rfl
      | l_broken => exact (fun_mk (st := (top 42)) l_l_broken c_l_broken k_l_broken).binds (ps := ["_law_box", "_law_defs_here"]) fun _ _ _ _ _ _ us hl => match us, hl with | [_, _], _ => rfl
      | law => exact (fun_mk (st := (top 43)) l_law c_law k_law).binds (ps := ["_law_script"]) fun _ _ _ _ _ _ us hl => match us, hl with | [_], _ => rfl
      | Format__init => exact (fun_mk (st := (inCls (top 12) 0)) l_Format__init c_Format__init k_Format__init).binds (ps := ["self", "root", "definitions"]) fun _ _ _ _ _ _ us hl => match us, hl with | [_, _, _], _ => rfl
      | Format_of => exact (fun_mk (st := (inCls (top 12) 1)) l_Format_of c_Format_of k_Format_of).binds (ps := ["self", "name"]) fun _ _ _ _ _ _ us hl => match us, hl with | [_, _], _ => rfl
      | Format_names => exact (fun_mk (st := (inCls (top 12) 2)) l_Format_names c_Format_names k_Format_names).binds (ps := ["self"]) fun _ _ _ _ _ _ us hl => match us, hl with | [_], _ => rfl
    · rcases List.mem_cons.mp hx with rfl | hx
      · exact PySem.W.mg_none_of X G z_all
      rcases List.mem_cons.mp hx with rfl | hx
      · exact PySem.W.mg_none_of X G z_len
      rcases List.mem_cons.mp hx with rfl | hx
      · exact PySem.W.mg_none_of X G z_range
      rcases List.mem_cons.mp hx with rfl | hx
      · exact PySem.W.mg_none_of X G z_int
      rcases List.mem_cons.mp hx with rfl | hx
      · exact PySem.W.mg_none_of X G z_min
      rcases List.mem_cons.mp hx with rfl | hx
      · exact PySem.W.mg_none_of X G z_tuple
      rcases List.mem_cons.mp hx with rfl | hx
      · exact PySem.W.mg_none_of X G z_dict
      rcases List.mem_cons.mp hx with rfl | hx
      · exact PySem.W.mg_none_of X G z_sorted
      rcases List.mem_cons.mp hx with rfl | hx
      · exact PySem.W.mg_none_of X G z_isinstance
      rcases List.mem_cons.mp hx with rfl | hx
      · exact PySem.W.mg_none_of X G z_list
      cases hx
  have CN : Cn mg := ⟨⟨_, PySem.W.mg_of X G w_LETTERS⟩, ⟨_, PySem.W.mg_of X G w_FIGURES⟩, ⟨_, PySem.W.mg_of X G w_NAME_MOST⟩, ⟨_, PySem.W.mg_of X G w_DEFINITIONS_MOST⟩, ⟨_, PySem.W.mg_of X G w_BOUND_MOST⟩, ⟨_, PySem.W.mg_of X G w_LENGTH_MOST⟩, ⟨_, PySem.W.mg_of X G w_FIELDS_MOST⟩, ⟨_, PySem.W.mg_of X G w_CASES_MOST⟩, ⟨_, PySem.W.mg_of X G w_OPTIONAL⟩⟩
  let cl : Str → Option Addr := fun x => if x = "Format" then some cc_Format else none
  have CT : Ct cl K mg ad cc_Format := by
    exact ⟨(by show (if _ then _ else _) = _; rw [if_pos rfl]), ⟨⟨g1_Format, g2_Format, g3_Format, g4_Format⟩, (by simp only [List.forall_mem_cons]; exact ⟨gf0_Format, gf1_Format, fun _ h => by cases h⟩)⟩, PySem.W.mg_of X G ga_Format, ⟨g5_Format, g6_Format, g7_Format, g8_Format⟩, ⟨gm_Format_of, gn_Format_of, k_Format_of⟩, ⟨gm_Format_names, gn_Format_names, k_Format_names⟩⟩
  let tc : Fi → Addr := fun i => match i with
    | .is_name => tc_is_name
    | .types_of => 0
    | .is_always => 0
    | .always_types => 0
    | .field_of => 0
    | .case_of => 0
    | .are_ascending => tc_are_ascending
    | .is_definition => 0
    | .is_shaped => tc_is_shaped
    | .l_cell => 0
    | .l_digits => 0
    | .l_draw => 0
    | .l_kind => 0
    | .l_some => 0
    | .l_defs => 0
    | .l_types => 0
    | .l_broken => 0
    | .law => 0
    | .Format__init => 0
    | .Format_of => 0
    | .Format_names => 0
  let tp : Fi → Addr := fun i => match i with
    | .is_name => tp_is_name
    | .types_of => 0
    | .is_always => 0
    | .always_types => 0
    | .field_of => 0
    | .case_of => 0
    | .are_ascending => tp_are_ascending
    | .is_definition => 0
    | .is_shaped => tp_is_shaped
    | .l_cell => 0
    | .l_digits => 0
    | .l_draw => 0
    | .l_kind => 0
    | .l_some => 0
    | .l_defs => 0
    | .l_types => 0
    | .l_broken => 0
    | .law => 0
    | .Format__init => 0
    | .Format_of => 0
    | .Format_names => 0
  let cs : List (Addr × Addr) := [(tc_is_name, tp_is_name), (tc_are_ascending, tp_are_ascending), (tc_is_shaped, tp_is_shaped)]
  have A_is_name := TA "is_name" _ _ r_is_name (tabIn_mk a_is_name l_is_name rfl u_is_name t_is_name)
  have A_are_ascending := TA "are_ascending" _ _ r_are_ascending (tabIn_mk a_are_ascending l_are_ascending rfl u_are_ascending t_are_ascending)
  have A_is_shaped := TA "is_shaped" _ _ r_is_shaped (tabIn_mk a_is_shaped l_is_shaped rfl u_is_shaped t_is_shaped)
  refine ⟨fdt .law, cs, spLaw K (fun P => ∃ p ∈ cs, p.2 = P), ?_, ?_, ?_, fun s v => .of_eq rfl, fun H a ns hl _ hT hS => ⟨?_, a, ns, rfl, hS, Nat.le_trans hl hn, fun _ => rfl⟩, fun base hK hG hB => ?_⟩
  · simp only [cs, List.forall_mem_cons]; exact ⟨A_is_name.2, A_are_ascending.2, A_is_shaped.2, fun _ h => by cases h⟩
  · simp only [cs, List.forall_mem_cons]; exact ⟨v_is_name, v_are_ascending, v_is_shaped, fun _ h => by cases h⟩
  · simp only [cs, List.forall_mem_cons]; exact ⟨A_is_name.1, A_are_ascending.1, A_is_shaped.1, fun _ h => by cases h⟩
  · rintro P ⟨p, hp, rfl⟩; exact tabG0 (hT p hp)
  have GT : GTab gx mg base (fun P => ∃ p ∈ cs, p.2 = P) fdt tc tp := by
    refine ⟨fun i hi => ?_, fun i hi => ?_, fun i hi => ?_⟩
    · cases i with
      | is_name => exact (fun z => ⟨z.code, z.bm, z.gP⟩) (hB (tc_is_name, tp_is_name) (by simp [cs]))
      | types_of => cases hi
      | is_always => cases hi
      | always_types => cases hi
      | field_of => cases hi
      | case_of => cases hi
      | are_ascending => exact (fun z => ⟨z.code, z.bm, z.gP⟩) (hB (tc_are_ascending, tp_are_ascending) (by simp [cs]))
      | is_definition => cases hi
      | is_shaped => exact (fun z => ⟨z.code, z.bm, z.gP⟩) (hB (tc_is_shaped, tp_is_shaped) (by simp [cs]))
      | l_cell => cases hi
      | l_digits => cases hi
      | l_draw => cases hi
      | l_kind => cases hi
      | l_some => cases hi
      | l_defs => cases hi
      | l_types => cases hi
      | l_broken => cases hi
      | law => cases hi
      | Format__init => cases hi
      | Format_of => cases hi
      | Format_names => cases hi
    · cases i with
      | is_name => exact ⟨(tc_is_name, tp_is_name), by simp [cs], rfl⟩
      | types_of => cases hi
      | is_always => cases hi
      | always_types => cases hi
      | field_of => cases hi
      | case_of => cases hi
      | are_ascending => exact ⟨(tc_are_ascending, tp_are_ascending), by simp [cs], rfl⟩
      | is_definition => cases hi
      | is_shaped => exact ⟨(tc_is_shaped, tp_is_shaped), by simp [cs], rfl⟩
      | l_cell => cases hi
      | l_digits => cases hi
      | l_draw => cases hi
      | l_kind => cases hi
      | l_some => cases hi
      | l_defs => cases hi
      | l_types => cases hi
      | l_broken => cases hi
      | law => cases hi
      | Format__init => cases hi
      | Format_of => cases hi
      | Format_names => cases hi
    · cases i with
      | is_name => rfl
      | types_of => cases hi
      | is_always => cases hi
      | always_types => cases hi
      | field_of => cases hi
      | case_of => cases hi
      | are_ascending => rfl
      | is_definition => cases hi
      | is_shaped => rfl
      | l_cell => cases hi
      | l_digits => cases hi
      | l_draw => cases hi
      | l_kind => cases hi
      | l_some => cases hi
      | l_defs => cases hi
      | l_types => cases hi
      | l_broken => cases hi
      | law => cases hi
      | Format__init => cases hi
      | Format_of => cases hi
      | Format_names => cases hi
  exact ((FamOk.lev2 (step (cl := cl) (fx := fun _ => none) (P := l.prog) (w := w) (base := base) TT CN CT GT) LVH).ok .law).imp (fun vs H Q E h => law_sp (C := ⟨K, cl, fun _ => none, fun P => ∃ p ∈ cs, p.2 = P⟩) main vs H Q E h)
end K10
open PySem PySem.W PyProof.Rows
set_option maxRecDepth 100000 in
set_option maxHeartbeats 0 in
theorem PySem.Challenge.cw_formatfit_k10_parts_of_definitions_holds : PySem.Challenge.rw_formatfit_k10_parts_of_definitions.Holds := by
  w_on; o_law; k_head; (case hw => w_witness2)
  k_fill
  refine MP.walk_tabs (l := PySem.Challenge.rw_formatfit_k10_parts_of_definitions) (n := 63) (k := K10.LV) (x := "_law_script") (CX := fun w => L2.CX PySem.Challenge.rw_formatfit_k10_parts_of_definitions.prog w) rfl (by decide) rfl ⟨rfl, by decide, by decide⟩ (fun w h Y => PySem.W.kIn_of Y) ?F fun _ _ _ _ _ z => by
    obtain ⟨_, _, _, _, _, _, _, _, _, _, _, _, h⟩ := z
    exact h
  case F =>
    intro w mg fa h KX G hmg TA
    refine' K10.all_mk KX G hmg ?a_is_name ?l_is_name ?c_is_name ?k_is_name ?a_types_of ?l_types_of ?c_types_of ?k_types_of ?a_is_always ?l_is_always ?c_is_always ?k_is_always ?a_always_types ?l_always_types ?c_always_types ?k_always_types ?a_field_of ?l_field_of ?c_field_of ?k_field_of ?a_case_of ?l_case_of ?c_case_of ?k_case_of ?a_are_ascending ?l_are_ascending ?c_are_ascending ?k_are_ascending ?a_is_definition ?l_is_definition ?c_is_definition ?k_is_definition ?a_is_shaped ?l_is_shaped ?c_is_shaped ?k_is_shaped ?a_l_cell ?l_l_cell ?c_l_cell ?k_l_cell ?a_l_digits ?l_l_digits ?c_l_digits ?k_l_digits ?a_l_draw ?l_l_draw ?c_l_draw ?k_l_draw ?a_l_kind ?l_l_kind ?c_l_kind ?k_l_kind ?a_l_some ?l_l_some ?c_l_some ?k_l_some ?a_l_defs ?l_l_defs ?c_l_defs ?k_l_defs ?a_l_types ?l_l_types ?c_l_types ?k_l_types ?a_l_broken ?l_l_broken ?c_l_broken ?k_l_broken ?a_law ?l_law ?c_law ?k_law ?l_Format__init ?c_Format__init ?k_Format__init ?l_Format_of ?c_Format_of ?k_Format_of ?l_Format_names ?c_Format_names ?k_Format_names ?z_all ?z_len ?z_range ?z_int ?z_min ?z_tuple ?z_dict ?z_sorted ?z_isinstance ?z_list ?ga_Format ?g1_Format ?g2_Format ?g3_Format ?g4_Format ?gf0_Format ?gf1_Format ?g5_Format ?g6_Format ?g7_Format ?g8_Format ?gm_Format_of ?gn_Format_of ?gm_Format_names ?gn_Format_names ?u_is_name ?t_is_name ?v_is_name ?u_are_ascending ?t_are_ascending ?v_are_ascending ?u_is_shaped ?t_is_shaped ?v_is_shaped ?w_LETTERS ?w_FIGURES ?w_NAME_MOST ?w_DEFINITIONS_MOST ?w_BOUND_MOST ?w_LENGTH_MOST ?w_FIELDS_MOST ?w_CASES_MOST ?w_OPTIONAL (Nat.le_refl 63) TA rfl rfl rfl
    (case a_is_name => k_is)
    (case l_is_name => k_is)
    (case c_is_name => k_is)
    (case k_is_name => k_is)
    (case a_types_of => k_is)
    (case l_types_of => k_is)
    (case c_types_of => k_is)
    (case k_types_of => k_is)
    (case a_is_always => k_is)
    (case l_is_always => k_is)
    (case c_is_always => k_is)
    (case k_is_always => k_is)
    (case a_always_types => k_is)
    (case l_always_types => k_is)
    (case c_always_types => k_is)
    (case k_always_types => k_is)
    (case a_field_of => k_is)
    (case l_field_of => k_is)
    (case c_field_of => k_is)
    (case k_field_of => k_is)
    (case a_case_of => k_is)
    (case l_case_of => k_is)
    (case c_case_of => k_is)
    (case k_case_of => k_is)
    (case a_are_ascending => k_is)
    (case l_are_ascending => k_is)
    (case c_are_ascending => k_is)
    (case k_are_ascending => k_is)
    (case a_is_definition => k_is)
    (case l_is_definition => k_is)
    (case c_is_definition => k_is)
    (case k_is_definition => k_is)
    (case a_is_shaped => k_is)
    (case l_is_shaped => k_is)
    (case c_is_shaped => k_is)
    (case k_is_shaped => k_is)
    (case a_l_cell => k_is)
    (case l_l_cell => k_is)
    (case c_l_cell => k_is)
    (case k_l_cell => k_is)
    (case a_l_digits => k_is)
    (case l_l_digits => k_is)
    (case c_l_digits => k_is)
    (case k_l_digits => k_is)
    (case a_l_draw => k_is)
    (case l_l_draw => k_is)
    (case c_l_draw => k_is)
    (case k_l_draw => k_is)
    (case a_l_kind => k_is)
    (case l_l_kind => k_is)
    (case c_l_kind => k_is)
    (case k_l_kind => k_is)
    (case a_l_some => k_is)
    (case l_l_some => k_is)
    (case c_l_some => k_is)
    (case k_l_some => k_is)
    (case a_l_defs => k_is)
    (case l_l_defs => k_is)
    (case c_l_defs => k_is)
    (case k_l_defs => k_is)
    (case a_l_types => k_is)
    (case l_l_types => k_is)
    (case c_l_types => k_is)
    (case k_l_types => k_is)
    (case a_l_broken => k_is)
    (case l_l_broken => k_is)
    (case c_l_broken => k_is)
    (case k_l_broken => k_is)
    (case a_law => k_is)
    (case l_law => k_is)
    (case c_law => k_is)
    (case k_law => k_is)
    (case ga_Format => k_is)
    (case g1_Format => k_is)
    (case g2_Format => k_is)
    (case g3_Format => k_is)
    (case g4_Format => k_is)
    (case gf0_Format => k_is)
    (case gf1_Format => k_is)
    (case g5_Format => k_is)
    (case g6_Format => k_is)
    (case g7_Format => k_is)
    (case g8_Format => k_is)
    (case gm_Format_of => k_is)
    (case gn_Format_of => k_is)
    (case gm_Format_names => k_is)
    (case gn_Format_names => k_is)
    (case l_Format__init => k_is)
    (case c_Format__init => k_is)
    (case k_Format__init => k_is)
    (case l_Format_of => k_is)
    (case c_Format_of => k_is)
    (case k_Format_of => k_is)
    (case l_Format_names => k_is)
    (case c_Format_names => k_is)
    (case k_Format_names => k_is)
    (case z_all => k_is)
    (case z_len => k_is)
    (case z_range => k_is)
    (case z_int => k_is)
    (case z_min => k_is)
    (case z_tuple => k_is)
    (case z_dict => k_is)
    (case z_sorted => k_is)
    (case z_isinstance => k_is)
    (case z_list => k_is)
    (case u_is_name => k_is)
    (case t_is_name => exact rfl)
    (case v_is_name => exact rfl)
    (case u_are_ascending => k_is)
    (case t_are_ascending => exact rfl)
    (case v_are_ascending => exact rfl)
    (case u_is_shaped => k_is)
    (case t_is_shaped => exact rfl)
    (case v_is_shaped => exact rfl)
    (case w_LETTERS => k_is)
    (case w_FIGURES => k_is)
    (case w_NAME_MOST => k_is)
    (case w_DEFINITIONS_MOST => k_is)
    (case w_BOUND_MOST => k_is)
    (case w_LENGTH_MOST => k_is)
    (case w_FIELDS_MOST => k_is)
    (case w_CASES_MOST => k_is)
    (case w_OPTIONAL => k_is)
#print axioms PySem.Challenge.cw_formatfit_k10_parts_of_definitions_holds

