import PyProof.Rows.All
import Wide.All
import OpenK.AllK
import Wide.FinOn
import PyProof.EqAt
import PyProof.EqKinds
import PyProof.TupleCall
import HandS.Base
import HandS.Call
import HandS.List
import HandS.Comp
import HandS.Dict
import HandS.Iter
import HandS.Text
import HandS.Exc
import HandS.ExcOwn
import HandS.Words
import HandS.WordsExc
import HandS.Defaults
import HandS.Flow
import HandS.TryOnly
import HandS.HeadHook1
import HandS.TupAny
import PyProof.StrOps2
import HandS.TupMul
import HandS.SortInts
import HandS.SortRule
import HandS.IsInst
import HandS.Deep
import HandS.Conv
import HandS.Codes
import KE.DataEq
import HandS.TupLen
import PyProof.AutoSeq1
import HandS.More
import HandS.HeadEnd
import HandS.TryMany
import HandS.ExcInit
import HandS.ExcIs
import HandS.ExcField
import KE.KExcIs
import KE.KExcSuper
import HandS.Style
import HandS.Head0
import HandS.Head1
import HandS.Head2
import HandS.HeadHook2
import KE.SortData
import KE.DataFind
import KE.KRevSl
import KE.KStateDown
import HandS.Ends
import PySem.Challenge.RW_byendsalone_k33_check_code
set_option Elab.async false
set_option linter.all false
set_option maxRecDepth 100000
set_option maxHeartbeats 2000000
set_option autoImplicit false
namespace Mi
open PySem PySem.Spec PyProof.Rows L2
abbrev St := L2.St

inductive Val where
  | non | bl (b : Bool) | int (i : Int) | str (s : Str) | tup (vs : List Val) | ref (n : Nat) | kls (is : List Int)
  deriving Inhabited
inductive Cell where
  | lst (vs : List Val)
  | frz (vs : List Val)
  | dK (kvs : List (Key × Val))
  | dT (kvs : List (List Key × Val))
abbrev MH := List Cell
structure Exc where
  c : Str
  fs : List (Str × Val)
inductive Out (α : Type) where
  | ok (a : α) (h : MH)
  | exc (e : Exc) (h : MH)
  | stuck
def Out.bind {α β : Type} : Out α → (α → MH → Out β) → Out β
  | .ok a h, f => f a h
  | .exc e h, _ => .exc e h
  | .stuck, _ => .stuck
@[simp] theorem Out.bind_ok {α β : Type} (a : α) (h : MH) (f : α → MH → Out β) : Out.bind (.ok a h) f = f a h := rfl
@[simp] theorem Out.bind_exc {α β : Type} (e : Exc) (h : MH) (f : α → MH → Out β) : Out.bind (.exc e h) f = .exc e h := rfl
@[simp] theorem Out.bind_stuck {α β : Type} (f : α → MH → Out β) : Out.bind .stuck f = .stuck := rfl
inductive Sl where
  | no
  | val (v : Val)
  | own (c : Cell)
  | exn (e : Exc)
abbrev ME := List Sl
inductive SOut where
  | next (env : ME) (h : MH)
  | ret (v : Val) (h : MH)
  | brk (env : ME) (h : MH)
  | cont (env : ME) (h : MH)
  | exc (e : Exc) (env : ME) (h : MH)
  | stuck
abbrev EM (α : Type) := ME → MH → Out α
abbrev SM := ME → MH → SOut
abbrev FM := List Val → MH → Out Val

def KL (K : PySem.W.Frag) (a : Addr) (is : List Int) : Prop := ∃ (o : Obj) (its : Array Value) (n : Nat), K.lookup a = some o ∧ o.cls = .type "list" ∧ o.dict = none ∧ o.data = .seq its n ∧ its.size ≤ sizeLine ∧ Vals (is.map V.int) its.toList
mutual
inductive RV (K : PySem.W.Frag) (ρ : List Addr) (H : Hp) : Val → V → Prop
  | non : RV K ρ H .non .non
  | bl (b : Bool) : RV K ρ H (.bl b) (.bl b)
  | int (i : Int) : RV K ρ H (.int i) (.int i)
  | str (s : Str) : RV K ρ H (.str s) (.str s)
  | tup {vs : List Val} {a : Addr} {xs : List V} : H a = some (.tup xs) → RVs K ρ H vs xs → RV K ρ H (.tup vs) (.ref a)
  | ref {n : Nat} {a : Addr} : ρ[n]? = some a → RV K ρ H (.ref n) (.ref a)
  | kls {is : List Int} {a : Addr} : KL K a is → RV K ρ H (.kls is) (.ref a)
inductive RVs (K : PySem.W.Frag) (ρ : List Addr) (H : Hp) : List Val → List V → Prop
  | nil : RVs K ρ H [] []
  | cons {v : Val} {x : V} {vs : List Val} {xs : List V} : RV K ρ H v x → RVs K ρ H vs xs → RVs K ρ H (v :: vs) (x :: xs)
end
section
variable {K : PySem.W.Frag} {ρ ρ' ρ1 ρ2 : List Addr} {H H' H1 H2 : Hp}
theorem RVs.length : ∀ {vs : List Val} {xs : List V}, RVs K ρ H vs xs → vs.length = xs.length
  | _, _, .nil => rfl
  | _, _, .cons _ t => by rw [List.length_cons, List.length_cons, RVs.length t]
theorem RVs.append : ∀ {vs us : List Val} {xs ys : List V}, RVs K ρ H vs xs → RVs K ρ H us ys → RVs K ρ H (vs ++ us) (xs ++ ys)
  | _, _, _, _, .nil, s => s
  | _, _, _, _, .cons r t, s => .cons r (RVs.append t s)
theorem RVs.get : ∀ {vs : List Val} {xs : List V} {i : Nat} {x : V}, RVs K ρ H vs xs → xs[i]? = some x → ∃ v, vs[i]? = some v ∧ RV K ρ H v x
  | _, _, _, _, .nil, e => by simp at e
  | _, _, 0, _, .cons r _, e => by simp at e; subst e; exact ⟨_, rfl, r⟩
  | _, _, i + 1, x, .cons _ t, e => by
    obtain ⟨u, h1, h2⟩ := RVs.get (i := i) (x := x) t (by simpa using e)
    exact ⟨u, by simpa using h1, h2⟩
theorem RVs.getV : ∀ {vs : List Val} {xs : List V} {i : Nat} {v : Val}, RVs K ρ H vs xs → vs[i]? = some v → ∃ x, xs[i]? = some x ∧ RV K ρ H v x
  | _, _, _, _, .nil, e => by simp at e
  | _, _, 0, _, .cons r _, e => by simp at e; subst e; exact ⟨_, rfl, r⟩
  | _, _, i + 1, x, .cons _ t, e => by
    obtain ⟨u, h1, h2⟩ := RVs.getV (i := i) (v := x) t (by simpa using e)
    exact ⟨u, by simpa using h1, h2⟩
theorem RVs.set {v : Val} {x : V} (r : RV K ρ H v x) : ∀ {vs : List Val} {xs : List V} (i : Nat), RVs K ρ H vs xs → RVs K ρ H (vs.set i v) (xs.set i x)
  | _, _, _, .nil => .nil
  | _, _, 0, .cons _ t => .cons r t
  | _, _, i + 1, .cons q t => .cons q (RVs.set r i t)
theorem RVs.take : ∀ {vs : List Val} {xs : List V} (n : Nat), RVs K ρ H vs xs → RVs K ρ H (vs.take n) (xs.take n)
  | _, _, 0, _ => by simpa using RVs.nil
  | _, _, _ + 1, .nil => .nil
  | _, _, n + 1, .cons r t => .cons r (RVs.take n t)
theorem RVs.drop : ∀ {vs : List Val} {xs : List V} (n : Nat), RVs K ρ H vs xs → RVs K ρ H (vs.drop n) (xs.drop n)
  | _, _, 0, r => r
  | _, _, _ + 1, .nil => .nil
  | _, _, n + 1, .cons _ t => RVs.drop n t
theorem RVs.reverse {vs : List Val} {xs : List V} (h : RVs K ρ H vs xs) : RVs K ρ H vs.reverse xs.reverse := by
  induction vs generalizing xs with
  | nil => cases h; exact .nil
  | cons v vs ih =>
    cases h with
    | cons r t => rw [List.reverse_cons, List.reverse_cons]; exact RVs.append (ih t) (.cons r .nil)
theorem RVs.eraseIdx : ∀ {vs : List Val} {xs : List V} (i : Nat), RVs K ρ H vs xs → RVs K ρ H (vs.eraseIdx i) (xs.eraseIdx i)
  | _, _, _, .nil => .nil
  | _, _, 0, .cons _ t => t
  | _, _, i + 1, .cons r t => .cons r (RVs.eraseIdx i t)
theorem RVs.dropLast {vs : List Val} {xs : List V} (h : RVs K ρ H vs xs) : RVs K ρ H vs.dropLast xs.dropLast := by
  rw [List.dropLast_eq_take, List.dropLast_eq_take, h.length]
  exact RVs.take _ h
theorem RVs.rep {vs : List Val} {xs : List V} (h : RVs K ρ H vs xs) : ∀ k : Nat, RVs K ρ H (List.replicate k vs).flatten (List.replicate k xs).flatten
  | 0 => .nil
  | k + 1 => by
    rw [List.replicate_succ, List.replicate_succ, List.flatten_cons, List.flatten_cons]
    exact RVs.append h (RVs.rep h k)
theorem RVs.ints : ∀ {is : List Int} {xs : List V}, RVs K ρ H (is.map Val.int) xs → xs = is.map V.int
  | [], _, .nil => rfl
  | i :: is, _, .cons r t => by
    cases r
    rw [RVs.ints t]
    rfl
theorem RVs.strs : ∀ {is : List Str} {xs : List V}, RVs K ρ H (is.map Val.str) xs → xs = is.map V.str
  | [], _, .nil => rfl
  | i :: is, _, .cons r t => by
    cases r
    rw [RVs.strs t]
    rfl
theorem RVs.of_ints : ∀ (is : List Int), RVs K ρ H (is.map Val.int) (is.map V.int)
  | [] => .nil
  | i :: is => .cons (.int i) (RVs.of_ints is)
theorem RVs.of_strs : ∀ (is : List Str), RVs K ρ H (is.map Val.str) (is.map V.str)
  | [] => .nil
  | i :: is => .cons (.str i) (RVs.of_strs is)
theorem RVs.one {v : Val} {xs : List V} (h : RVs K ρ H [v] xs) : ∃ x, xs = [x] ∧ RV K ρ H v x := by
  cases h with
  | cons r t => cases t; exact ⟨_, rfl, r⟩
theorem RVs.two {v u : Val} {xs : List V} (h : RVs K ρ H [v, u] xs) : ∃ x y, xs = [x, y] ∧ RV K ρ H v x ∧ RV K ρ H u y := by
  cases h with
  | cons r t => cases t with
    | cons r2 t2 => cases t2; exact ⟨_, _, rfl, r, r2⟩

def RKs {κ : Type} (K : PySem.W.Frag) (ρ : List Addr) (H : Hp) (kvs : List (κ × Val)) (ws : List (κ × V)) : Prop := kvs.map (·.1) = ws.map (·.1) ∧ RVs K ρ H (kvs.map (·.2)) (ws.map (·.2))
def RC (K : PySem.W.Frag) (ρ : List Addr) (H : Hp) : Cell → Addr → Prop
  | .lst vs, a => ∃ xs, H a = some (.lst xs) ∧ RVs K ρ H vs xs
  | .frz vs, a => ∃ o xs, H a = some (.frz o (.lst xs)) ∧ RVs K ρ H vs xs
  | .dK kvs, a => ∃ ws, H a = some (.dK ws) ∧ RKs K ρ H kvs ws
  | .dT kvs, a => ∃ ws, H a = some (.dT ws) ∧ RKs K ρ H kvs ws
theorem RC.there {c : Cell} {a : Addr} (r : RC K ρ H c a) : ∃ o, H a = some o := by
  cases c with
  | lst _ => obtain ⟨_, e, _⟩ := r; exact ⟨_, e⟩
  | frz _ => obtain ⟨_, _, e, _⟩ := r; exact ⟨_, e⟩
  | dK _ => obtain ⟨_, e, _⟩ := r; exact ⟨_, e⟩
  | dT _ => obtain ⟨_, e, _⟩ := r; exact ⟨_, e⟩
theorem RC.notTup {c : Cell} {a : Addr} {xs : List V} (r : RC K ρ H c a) : ¬ Rd H a (.tup xs) := by
  intro q
  cases c with
  | lst _ => obtain ⟨_, e, _⟩ := r; rcases q with q | ⟨_, q⟩ <;> (rw [e] at q; cases q)
  | frz _ => obtain ⟨_, _, e, _⟩ := r; rcases q with q | ⟨_, q⟩ <;> (rw [e] at q; cases q)
  | dK _ => obtain ⟨_, e, _⟩ := r; rcases q with q | ⟨_, q⟩ <;> (rw [e] at q; cases q)
  | dT _ => obtain ⟨_, e, _⟩ := r; rcases q with q | ⟨_, q⟩ <;> (rw [e] at q; cases q)
theorem RC.notXd {c : Cell} {a : Addr} {fs : List (Str × V)} (r : RC K ρ H c a) : H a ≠ .some (.xd fs) := by
  intro q
  cases c with
  | lst _ => obtain ⟨_, e, _⟩ := r; rw [e] at q; cases q
  | frz _ => obtain ⟨_, _, e, _⟩ := r; rw [e] at q; cases q
  | dK _ => obtain ⟨_, e, _⟩ := r; rw [e] at q; cases q
  | dT _ => obtain ⟨_, e, _⟩ := r; rw [e] at q; cases q
structure RS (K : PySem.W.Frag) (ρ : List Addr) (H : Hp) (h : MH) : Prop where
  len : ρ.length = h.length
  nd : ρ.Nodup
  cell : ∀ (n : Nat) (c : Cell) (a : Addr), h[n]? = some c → ρ[n]? = some a → RC K ρ H c a
theorem RS.at_mem {h : MH} (S : RS K ρ H h) {a : Addr} (ha : a ∈ ρ) : ∃ (n : Nat) (c : Cell), h[n]? = some c ∧ ρ[n]? = some a ∧ RC K ρ H c a := by
  obtain ⟨n, hn, e⟩ := List.getElem_of_mem ha
  have hl : n < h.length := by rw [← S.len]; exact hn
  exact ⟨n, h[n], List.getElem?_eq_getElem hl, by rw [List.getElem?_eq_getElem hn, e], S.cell n _ a (List.getElem?_eq_getElem hl) (by rw [List.getElem?_eq_getElem hn, e])⟩
theorem RS.notTup {h : MH} (S : RS K ρ H h) {a : Addr} {xs : List V} (q : Rd H a (.tup xs)) : a ∉ ρ := fun ha => by
  obtain ⟨_, _, _, _, r⟩ := S.at_mem ha
  exact r.notTup q
theorem RS.notXd {h : MH} (S : RS K ρ H h) {a : Addr} {fs : List (Str × V)} (q : H a = some (.xd fs)) : a ∉ ρ := fun ha => by
  obtain ⟨_, _, _, _, r⟩ := S.at_mem ha
  exact r.notXd q
theorem RS.addr {h : MH} (S : RS K ρ H h) {n : Nat} {c : Cell} (e : h[n]? = some c) : ∃ a, ρ[n]? = some a ∧ RC K ρ H c a := by
  have hl : n < h.length := (List.getElem?_eq_some_iff.mp e).1
  have hn : n < ρ.length := by rw [S.len]; exact hl
  exact ⟨ρ[n], List.getElem?_eq_getElem hn, S.cell n c _ e (List.getElem?_eq_getElem hn)⟩
structure Ex (ρ : List Addr) (H : Hp) (ρ' : List Addr) (H' : Hp) : Prop where
  pre : ρ <+: ρ'
  keep : ∀ b o, H b = some o → b ∉ ρ → H' b = some o
  new : ∀ b ∈ ρ', b ∈ ρ ∨ H b = none
theorem Ex.refl : Ex ρ H ρ H := ⟨List.prefix_refl _, fun _ _ e _ => e, fun _ h => .inl h⟩
theorem Ex.trans (x : Ex ρ H ρ1 H1) (y : Ex ρ1 H1 ρ2 H2) : Ex ρ H ρ2 H2 where
  pre := x.pre.trans y.pre
  keep := fun b o e n => by
    refine y.keep b o (x.keep b o e n) fun hb => ?_
    rcases x.new b hb with z | z
    · exact n z
    · rw [e] at z; cases z
  new := fun b hb => by
    rcases y.new b hb with z | z
    · exact x.new b z
    · by_cases hm : b ∈ ρ
      · exact .inl hm
      · cases e : H b with
        | none => exact .inr rfl
        | some o => rw [x.keep b o e hm] at z; cases z
theorem Ex.fresh (x : Ex ρ H ρ1 H1) {h' : MH} (S1 : RS K ρ1 H1 h') {b : Addr} (e : H1 b = none) : H b = none := by
  cases q : H b with
  | none => rfl
  | some o =>
    by_cases hm : b ∈ ρ
    · obtain ⟨_, _, _, _, r⟩ := S1.at_mem (x.pre.subset hm)
      obtain ⟨o', e'⟩ := r.there
      rw [e'] at e; cases e
    · rw [x.keep b o q hm] at e; cases e
theorem Ex.get (x : Ex ρ H ρ1 H1) {n : Nat} {a : Addr} (e : ρ[n]? = some a) : ρ1[n]? = some a := by
  obtain ⟨t, rfl⟩ := x.pre
  rw [List.getElem?_append_left (List.getElem?_eq_some_iff.mp e).1]
  exact e
theorem sqT_keep {h : MH} (S : RS K ρ H h) (x : Ex ρ H ρ1 H1) {a : Addr} {xs : List V} (q : H a = some (.tup xs)) : H1 a = some (.tup xs) := x.keep _ _ q (S.notTup (.inl q))
mutual
theorem RV.gen (ht : ∀ b xs, H b = some (HO.tup xs) → H1 b = some (HO.tup xs)) (up : ∀ (m : Nat) (b : Addr), ρ[m]? = some b → ρ1[m]? = some b) : ∀ {v : Val} {y : V}, RV K ρ H v y → RV K ρ1 H1 v y
  | _, _, .non => .non
  | _, _, .bl b => .bl b
  | _, _, .int i => .int i
  | _, _, .str s => .str s
  | _, _, .tup q r => .tup (ht _ _ q) (RVs.gen ht up r)
  | _, _, .ref e => .ref (up _ _ e)
  | _, _, .kls q => .kls q
theorem RVs.gen (ht : ∀ b xs, H b = some (HO.tup xs) → H1 b = some (HO.tup xs)) (up : ∀ (m : Nat) (b : Addr), ρ[m]? = some b → ρ1[m]? = some b) : ∀ {vs : List Val} {ys : List V}, RVs K ρ H vs ys → RVs K ρ1 H1 vs ys
  | _, _, .nil => .nil
  | _, _, .cons r t => .cons (RV.gen ht up r) (RVs.gen ht up t)
end
theorem RC.gen (ht : ∀ b xs, H b = some (HO.tup xs) → H1 b = some (HO.tup xs)) (up : ∀ (m : Nat) (b : Addr), ρ[m]? = some b → ρ1[m]? = some b) {c : Cell} {a : Addr} (e : H1 a = H a) (r : RC K ρ H c a) : RC K ρ1 H1 c a := by
  cases c with
  | lst _ => obtain ⟨xs, q, r⟩ := r; exact ⟨xs, e.trans q, r.gen ht up⟩
  | frz _ => obtain ⟨o, xs, q, r⟩ := r; exact ⟨o, xs, e.trans q, r.gen ht up⟩
  | dK _ => obtain ⟨xs, q, r⟩ := r; exact ⟨xs, e.trans q, r.1, r.2.gen ht up⟩
  | dT _ => obtain ⟨xs, q, r⟩ := r; exact ⟨xs, e.trans q, r.1, r.2.gen ht up⟩
theorem sqT_upd {a : Addr} {o : HO} (n : ∀ xs, ¬ Rd H a (.tup xs)) {b : Addr} {xs : List V} (q : H b = some (.tup xs)) : upd H a o b = some (.tup xs) := by
  have hb : b ≠ a := fun z => n xs (z ▸ .inl q)
  exact (upd_ne hb).trans q
mutual
theorem RV.mono {h : MH} (S : RS K ρ H h) (x : Ex ρ H ρ1 H1) : ∀ {v : Val} {y : V}, RV K ρ H v y → RV K ρ1 H1 v y
  | _, _, .non => .non
  | _, _, .bl b => .bl b
  | _, _, .int i => .int i
  | _, _, .str s => .str s
  | _, _, .tup q r => .tup (sqT_keep S x q) (RVs.mono S x r)
  | _, _, .ref e => .ref (x.get e)
  | _, _, .kls q => .kls q
theorem RVs.mono {h : MH} (S : RS K ρ H h) (x : Ex ρ H ρ1 H1) : ∀ {vs : List Val} {ys : List V}, RVs K ρ H vs ys → RVs K ρ1 H1 vs ys
  | _, _, .nil => .nil
  | _, _, .cons r t => .cons (RV.mono S x r) (RVs.mono S x t)
end
theorem RKs.mono {κ : Type} {h : MH} (S : RS K ρ H h) (x : Ex ρ H ρ1 H1) {kvs : List (κ × Val)} {ws : List (κ × V)} (r : RKs K ρ H kvs ws) : RKs K ρ1 H1 kvs ws := ⟨r.1, r.2.mono S x⟩
theorem RC.mono {h : MH} (S : RS K ρ H h) (x : Ex ρ H ρ1 H1) {c : Cell} {a : Addr} (n : a ∉ ρ) (r : RC K ρ H c a) : RC K ρ1 H1 c a := by
  cases c with
  | lst _ => obtain ⟨xs, e, r⟩ := r; exact ⟨xs, x.keep _ _ e n, r.mono S x⟩
  | frz _ => obtain ⟨o, xs, e, r⟩ := r; exact ⟨o, xs, x.keep _ _ e n, r.mono S x⟩
  | dK _ => obtain ⟨xs, e, r⟩ := r; exact ⟨xs, x.keep _ _ e n, r.mono S x⟩
  | dT _ => obtain ⟨xs, e, r⟩ := r; exact ⟨xs, x.keep _ _ e n, r.mono S x⟩
def RX (K : PySem.W.Frag) (ρ : List Addr) (H : Hp) (e : Exc) (cls : Value) (d : Option Addr) : Prop :=
  cls = .ref (He.ga K e.c) ∧ ((e.fs = [] ∧ d = none) ∨ ∃ dd fs, d = some dd ∧ H dd = some (.xd fs) ∧ RKs K ρ H e.fs fs)
theorem RX.mono {h : MH} (S : RS K ρ H h) (x : Ex ρ H ρ1 H1) {e : Exc} {cls : Value} {d : Option Addr} (r : RX K ρ H e cls d) : RX K ρ1 H1 e cls d := by
  obtain ⟨r1, r2⟩ := r
  refine ⟨r1, ?_⟩
  rcases r2 with r2 | ⟨dd, fs, e1, e2, e3⟩
  · exact .inl r2
  · exact .inr ⟨dd, fs, e1, x.keep _ _ e2 (S.notXd e2), e3.mono S x⟩
end

structure Ctx where
  xc : Option (Addr × Value × Option Addr)
  ρ0 : List Addr
  H0 : Hp
  pin : List (Addr × HO)
def RSl (K : PySem.W.Frag) (c : Ctx) (ρ : List Addr) (H : Hp) : Sl → Option V → Prop
  | .no, _ => True
  | .val v, o => ∃ x, o = some x ∧ RV K ρ H v x
  | .own k, o => ∃ a, o = some (.ref a) ∧ c.H0 a = none ∧ a ∉ ρ ∧ RC K ρ H k a
  | .exn e, o => ∃ a cls d, o = some (.ref a) ∧ c.xc = some (a, cls, d) ∧ RX K ρ H e cls d
structure RE (K : PySem.W.Frag) (c : Ctx) (ρ : List Addr) (H : Hp) (env : ME) (σ : St) : Prop where
  len : env.length = σ.length
  slot : ∀ (i : Nat) (s : Sl) (o : Option V), env[i]? = some s → σ[i]? = some o → RSl K c ρ H s o
  sep : ∀ (i j : Nat) (k k' : Cell) (a : Addr), i ≠ j → env[i]? = some (.own k) → env[j]? = some (.own k') → σ[i]? = some (some (.ref a)) → σ[j]? ≠ some (some (.ref a))
structure ST (K : PySem.W.Frag) (c : Ctx) (ρ : List Addr) (H : Hp) (h : MH) (env : ME) (σ : St) : Prop where
  rs : RS K ρ H h
  ex : Ex c.ρ0 c.H0 ρ H
  re : RE K c ρ H env σ
  pn : ∀ p ∈ c.pin, H p.1 = some p.2 ∧ p.1 ∉ ρ ∧ ∀ (i : Nat) (k : Cell), env[i]? = some (.own k) → σ[i]? ≠ some (some (.ref p.1))
section
variable {K : PySem.W.Frag} {c : Ctx} {ρ ρ1 ρ2 : List Addr} {H H1 H2 : Hp} {h h1 h2 : MH} {env env1 : ME} {σ : St}
theorem RSl.mono (S : RS K ρ H h) (x : Ex ρ H ρ1 H1) {s : Sl} {o : Option V} (r : RSl K c ρ H s o) : RSl K c ρ1 H1 s o := by
  cases s with
  | no => trivial
  | val v => obtain ⟨y, e, q⟩ := r; exact ⟨y, e, q.mono S x⟩
  | own k =>
    obtain ⟨a, e, z, n, q⟩ := r
    refine ⟨a, e, z, fun hm => ?_, q.mono S x n⟩
    rcases x.new a hm with y | y
    · exact n y
    · obtain ⟨o, e'⟩ := q.there
      rw [e'] at y; cases y
  | exn e => obtain ⟨a, cls, d, e1, e2, q⟩ := r; exact ⟨a, cls, d, e1, e2, q.mono S x⟩
theorem ST.step (T : ST K c ρ H h env σ) (x : Ex ρ H ρ1 H1) (S : RS K ρ1 H1 h1) : ST K c ρ1 H1 h1 env σ :=
  ⟨S, T.ex.trans x, ⟨T.re.len, fun i s o e1 e2 => (T.re.slot i s o e1 e2).mono T.rs x, T.re.sep⟩, fun p hp => by
    obtain ⟨e, n, z⟩ := T.pn p hp
    refine ⟨x.keep _ _ e n, fun hm => ?_, z⟩
    rcases x.new _ hm with y | y
    · exact n y
    · rw [e] at y; cases y⟩
theorem ST.slot_at (T : ST K c ρ H h env σ) {i : Nat} {s : Sl} (e : env[i]? = some s) : ∃ o, σ[i]? = some o ∧ RSl K c ρ H s o := by
  have hl : i < σ.length := by rw [← T.re.len]; exact (List.getElem?_eq_some_iff.mp e).1
  exact ⟨σ[i], List.getElem?_eq_getElem hl, T.re.slot i s _ e (List.getElem?_eq_getElem hl)⟩
theorem ST.put (T : ST K c ρ H h env σ) (i : Nat) {s : Sl} {o : Option V} (r : RSl K c ρ H s o) (hs : ∀ k, s ≠ .own k) : ST K c ρ H h (env.set i s) (σ.set i o) := by
  refine ⟨T.rs, T.ex, ⟨by simpa using T.re.len, fun j s' o' e1 e2 => ?_, fun j l k k' a hne e1 e2 e3 e4 => ?_⟩, fun p hp => ?_⟩
  · by_cases hj : j = i
    · subst hj
      have l1 : j < env.length := by have := (List.getElem?_eq_some_iff.mp e1).1; simpa using this
      have l2 : j < σ.length := by rw [← T.re.len]; exact l1
      rw [List.getElem?_set_self l1] at e1
      rw [List.getElem?_set_self l2] at e2
      cases e1; cases e2; exact r
    · rw [List.getElem?_set_ne (Ne.symm hj)] at e1 e2
      exact T.re.slot j s' o' e1 e2
  · have hj : j ≠ i := fun z => by
      subst z
      have l1 : j < env.length := by have := (List.getElem?_eq_some_iff.mp e1).1; simpa using this
      rw [List.getElem?_set_self l1] at e1
      cases e1; exact hs _ rfl
    have hl : l ≠ i := fun z => by
      subst z
      have l1 : l < env.length := by have := (List.getElem?_eq_some_iff.mp e2).1; simpa using this
      rw [List.getElem?_set_self l1] at e2
      cases e2; exact hs _ rfl
    rw [List.getElem?_set_ne (Ne.symm hj)] at e1 e3
    rw [List.getElem?_set_ne (Ne.symm hl)] at e2 e4
    exact T.re.sep j l k k' a hne e1 e2 e3 e4
  · obtain ⟨e, n, z⟩ := T.pn p hp
    refine ⟨e, n, fun j k e1 e2 => ?_⟩
    have hj : j ≠ i := fun z => by
      subst z
      have l1 : j < env.length := by have := (List.getElem?_eq_some_iff.mp e1).1; simpa using this
      rw [List.getElem?_set_self l1] at e1
      cases e1; exact hs _ rfl
    rw [List.getElem?_set_ne (Ne.symm hj)] at e1 e2
    exact z j k e1 e2
end
end Mi

set_option Elab.async false
set_option linter.all false
set_option maxRecDepth 100000
set_option maxHeartbeats 2000000
set_option autoImplicit false
namespace Mi
open PySem PySem.Spec PyProof.Rows L2

abbrev Rel (α β : Type) := Hp → List Addr → Hp → α → β → Prop
def Fin {α β : Type} (K : PySem.W.Frag) (W : WX) (σ : St) (R : Rel α β) (ρ : List Addr) (H : Hp) (Q : β → Hp → Prop) : Out α → Prop
  | .ok a h' => ∀ (ρ' : List Addr) (x : β) (H' : Hp), Ex ρ H ρ' H' → RS K ρ' H' h' → R H ρ' H' a x → Q x H'
  | .exc e h' => ∀ (ρ' : List Addr) (cls : Value) (d : Option Addr) (H' : Hp), Ex ρ H ρ' H' → RS K ρ' H' h' → RX K ρ' H' e cls d → W cls d σ H'
  | .stuck => False
def rd {α β : Type} (K : PySem.W.Frag) (c : Ctx) (W : WX) (R : Rel α β) (m : EM α) : St → Hp → (β → Hp → Prop) → Prop := fun σ H Q =>
  ∃ (ρ : List Addr) (env : ME) (h : MH), ST K c ρ H h env σ ∧ Fin K W σ R ρ H Q (m env h)
def RMon {α β : Type} (R : Rel α β) : Prop := ∀ (ρ : List Addr) (H : Hp) (ρ1 : List Addr) (H1 : Hp) (ρ2 : List Addr) (H2 : Hp) (a : α) (x : β), Ex ρ H ρ1 H1 → (∀ b, H1 b = none → H b = none) → R H1 ρ2 H2 a x → R H ρ2 H2 a x
section
variable {K : PySem.W.Frag} {c : Ctx} {W : WX} {σ : St} {ρ ρ1 : List Addr} {H H1 : Hp} {α β γ δ : Type} {R : Rel α β} {R' : Rel γ δ}
theorem Fin.mono {Q Q' : β → Hp → Prop} {o : Out α} (f : Fin K W σ R ρ H Q o) (q : ∀ x H', Q x H' → Q' x H') : Fin K W σ R ρ H Q' o := by
  cases o with
  | ok a h => exact fun ρ' x H' e s r => q _ _ (f ρ' x H' e s r)
  | exc e h => exact f
  | stuck => exact f
theorem Fin.bind (mon : RMon R') {o : Out α} {f : α → MH → Out γ} {Q : δ → Hp → Prop} (F : Fin K W σ R' ρ H Q (o.bind f)) :
    Fin K W σ R ρ H (fun x H1 => ∃ (a : α) (h1 : MH) (ρ1 : List Addr), Ex ρ H ρ1 H1 ∧ RS K ρ1 H1 h1 ∧ R H ρ1 H1 a x ∧ Fin K W σ R' ρ1 H1 Q (f a h1)) o := by
  cases o with
  | ok a h =>
    intro ρ1 x H1 e1 s1 r1
    refine ⟨a, h, ρ1, e1, s1, r1, ?_⟩
    have F' : Fin K W σ R' ρ H Q (f a h) := F
    cases q : f a h with
    | ok b h2 =>
      rw [q] at F'
      exact fun ρ2 y H2 e2 s2 r2 => F' ρ2 y H2 (e1.trans e2) s2 (mon ρ H ρ1 H1 ρ2 H2 b y e1 (fun b hb => e1.fresh s1 hb) r2)
    | exc e h2 =>
      rw [q] at F'
      exact fun ρ2 cls d H2 e2 s2 r2 => F' ρ2 cls d H2 (e1.trans e2) s2 r2
    | stuck => rw [q] at F'; exact F'
  | exc e h => exact F
  | stuck => exact F
theorem PE.imp {X : Cx} {e : Expr} {t t' : TE} (p : PE X e t) (h : ∀ σ H Q, t' σ H Q → t σ H Q) : PE X e t' := ⟨fun pins s σ H Q I q => p.run pins s σ H Q I (h σ H Q q)⟩
theorem PT.imp {X : Cx} {e : Expr} {t t' : TT} (p : PT X e t) (h : ∀ σ H Q, t' σ H Q → t σ H Q) : PT X e t' := ⟨fun pins s σ H Q I q => p.run pins s σ H Q I (h σ H Q q)⟩
theorem PW.imp {X : Cx} {e : Expr} {t t' : TT} (p : PW X e t) (h : ∀ σ H Q, t' σ H Q → t σ H Q) : PW X e t' := ⟨fun w pins s σ H Q I q => p.run w pins s σ H Q I (h σ H Q q)⟩
theorem PA.imp {X : Cx} {es : List Expr} {t t' : TA} (p : PA X es t) (h : ∀ σ H Q, t' σ H Q → t σ H Q) : PA X es t' := ⟨fun pos pins s σ H Q I q => p.run pos pins s σ H Q I (h σ H Q q)⟩
theorem PS.imp {X : Cx} {st : Stmt} {t t' : TS} (p : PS X st t) (h : ∀ D σ H, t' D σ H → t D σ H) : PS X st t' := ⟨fun pins s σ H D I q => p.run pins s σ H D I (h D σ H q)⟩
theorem PSs.imp {X : Cx} {st : List Stmt} {t t' : TS} (p : PSs X st t) (h : ∀ D σ H, t' D σ H → t D σ H) : PSs X st t' := ⟨fun pins s σ H D I q => p.run pins s σ H D I (h D σ H q)⟩
end

inductive Opd where
  | val (v : Val)
  | cell (k : Cell)
def RVal (K : PySem.W.Frag) : Rel Val V := fun _ ρ H v x => RV K ρ H v x
def ROpd (K : PySem.W.Frag) : Rel Opd V := fun _ ρ H o x => match o with
  | .val v => RV K ρ H v x
  | .cell k => ∃ a, x = .ref a ∧ a ∉ ρ ∧ RC K ρ H k a
def RNew (K : PySem.W.Frag) : Rel Cell V := fun Hs ρ H k x => ∃ a, x = .ref a ∧ Hs a = none ∧ a ∉ ρ ∧ RC K ρ H k a
def RBool : Rel Bool Bool := fun _ _ _ a b => a = b
inductive ROs (K : PySem.W.Frag) (ρ : List Addr) (H : Hp) : List Opd → List V → Prop
  | nil : ROs K ρ H [] []
  | cons {o : Opd} {x : V} {os : List Opd} {xs : List V} : ROpd K H ρ H o x → ROs K ρ H os xs → ROs K ρ H (o :: os) (x :: xs)
def RArgs (K : PySem.W.Frag) : Rel (List Opd) (List V) := fun _ ρ H os xs => ROs K ρ H os xs
def RVals (K : PySem.W.Frag) : Rel (List Val) (List V) := fun _ ρ H os xs => RVs K ρ H os xs
section
variable {K : PySem.W.Frag}
theorem mon_val : RMon (RVal K) := fun _ _ _ _ _ _ _ _ _ _ r => r
theorem mon_opd : RMon (ROpd K) := fun _ _ _ _ _ _ o _ _ _ r => by cases o <;> exact r
theorem mon_new : RMon (RNew K) := fun _ _ _ _ _ _ _ _ _ f ⟨a, e, z, n, r⟩ => ⟨a, e, f a z, n, r⟩
theorem mon_bool : RMon RBool := fun _ _ _ _ _ _ _ _ _ _ r => r
theorem mon_args : RMon (RArgs K) := fun _ _ _ _ _ _ _ _ _ _ r => r
theorem mon_vals : RMon (RVals K) := fun _ _ _ _ _ _ _ _ _ _ r => r
variable {ρ ρ1 : List Addr} {H H1 Hs Hs' : Hp} {h : MH}
theorem ROpd.mono (S : RS K ρ H h) (x : Ex ρ H ρ1 H1) {o : Opd} {y : V} (r : ROpd K Hs ρ H o y) : ROpd K Hs' ρ1 H1 o y := by
  cases o with
  | val v => exact RV.mono S x r
  | cell k =>
    obtain ⟨a, e, n, q⟩ := r
    refine ⟨a, e, fun hm => ?_, q.mono S x n⟩
    rcases x.new a hm with z | z
    · exact n z
    · obtain ⟨o, e'⟩ := q.there
      rw [e'] at z; cases z
theorem ROs.mono (S : RS K ρ H h) (x : Ex ρ H ρ1 H1) {os : List Opd} {ys : List V} (r : ROs K ρ H os ys) : ROs K ρ1 H1 os ys := by
  induction r with
  | nil => exact .nil
  | cons q _ ih => exact .cons (ROpd.mono S x q) ih
theorem ROpd.hs {o : Opd} {y : V} (r : ROpd K Hs ρ H o y) : ROpd K Hs' ρ H o y := by cases o <;> exact r
end

def E (X : Cx) (c : Ctx) (W : WX) (e : Expr) (m : EM Val) : Prop := PE X e (rd X.K c W (RVal X.K) m)
def EO (X : Cx) (c : Ctx) (W : WX) (e : Expr) (m : EM Opd) : Prop := PE X e (rd X.K c W (ROpd X.K) m)
def EC (X : Cx) (c : Ctx) (W : WX) (e : Expr) (m : EM Cell) : Prop := PE X e (rd X.K c W (RNew X.K) m)
def TB (X : Cx) (c : Ctx) (W : WX) (e : Expr) (m : EM Bool) : Prop := PT X e (rd X.K c W RBool m)
def TW (X : Cx) (c : Ctx) (W : WX) (e : Expr) (m : EM Bool) : Prop := PW X e (rd X.K c W RBool m)
def AO (X : Cx) (c : Ctx) (W : WX) (es : List Expr) (m : EM (List Opd)) : Prop := PA X es (rd X.K c W (RArgs X.K) m)
def AV (X : Cx) (c : Ctx) (W : WX) (es : List Expr) (m : EM (List Val)) : Prop := PA X es (rd X.K c W (RVals X.K) m)

section
variable {X : Cx} {c : Ctx} {W : WX}

def xVar (i : Nat) : EM Val := fun env h => match env[i]? with
  | some (.val v) => .ok v h
  | _ => .stuck
theorem e_var {i : Nat} {x : Str} {pos : Pos} (hN : X.N[i]? = some x := by rfl) (hv : Vis X.env.scope x := by first | exact Or.inl rfl | exact Or.inr (Or.inl rfl) | exact Or.inr (Or.inr rfl))
    (hd : (x == ("__debug__" : Str)) = false := by decide) (hcd : (x == ("__classdict__" : Str)) = false := by decide) : E X c W (.Name x pos) (xVar i) := by
  refine PE.imp (pe_var hN hv hd hcd) fun σ H Q ⟨ρ, env, h, S, F⟩ => ?_
  unfold xVar at F
  split at F
  · rename_i v e
    obtain ⟨o, e2, x, rfl, r⟩ := S.slot_at e
    exact ⟨x, e2, F ρ x H .refl S.rs r⟩
  · exact F.elim
def xOwn (i : Nat) : EM Opd := fun env h => match env[i]? with
  | some (.own k) => .ok (.cell k) h
  | _ => .stuck
theorem o_own {i : Nat} {x : Str} {pos : Pos} (hN : X.N[i]? = some x := by rfl) (hv : Vis X.env.scope x := by first | exact Or.inl rfl | exact Or.inr (Or.inl rfl) | exact Or.inr (Or.inr rfl))
    (hd : (x == ("__debug__" : Str)) = false := by decide) (hcd : (x == ("__classdict__" : Str)) = false := by decide) : EO X c W (.Name x pos) (xOwn i) := by
  refine PE.imp (pe_var hN hv hd hcd) fun σ H Q ⟨ρ, env, h, S, F⟩ => ?_
  unfold xOwn at F
  split at F
  · rename_i k e
    obtain ⟨o, e2, a, rfl, _, n, r⟩ := S.slot_at e
    exact ⟨_, e2, F ρ _ H .refl S.rs ⟨a, rfl, n, r⟩⟩
  · exact F.elim
def xC (v : Val) : EM Val := fun _ h => .ok v h
theorem e_c {e : Expr} {v : Val} {x : V} (p : PE X e (tC x)) (r : ∀ ρ H, RV X.K ρ H v x) : E X c W e (xC v) :=
  PE.imp p fun σ H Q ⟨ρ, _, _, S, F⟩ => F ρ x H .refl S.rs (r ρ H)
theorem e_int {i : Int} {j} {pos : Pos} : E X c W (.Constant (.int i) j pos) (xC (.int i)) := e_c pe_int fun _ _ => .int i
theorem e_bl {b : Bool} {j} {pos : Pos} : E X c W (.Constant (.bool b) j pos) (xC (.bl b)) := e_c pe_bl fun _ _ => .bl b
theorem e_non {j} {pos : Pos} : E X c W (.Constant .none j pos) (xC .non) := e_c pe_non fun _ _ => .non
theorem e_str {s : Str} {j} {pos : Pos} : E X c W (.Constant (.str s) j pos) (xC (.str s)) := e_c pe_str fun _ _ => .str s

theorem rd_map {K : PySem.W.Frag} {α β γ : Type} {R : Rel α β} {R' : Rel γ β} {m : EM α} {g : α → γ} (hg : ∀ Hs ρ H a x, R Hs ρ H a x → R' Hs ρ H (g a) x) {σ : St} {H : Hp} {Q : β → Hp → Prop}
    (q : rd K c W R' (fun env h => (m env h).bind fun a h1 => .ok (g a) h1) σ H Q) : rd K c W R m σ H Q := by
  obtain ⟨ρ, env, h, S, F⟩ := q
  refine ⟨ρ, env, h, S, ?_⟩
  have F : Fin K W σ R' ρ H Q ((m env h).bind fun a h1 => .ok (g a) h1) := F
  cases e : m env h with
  | ok a h1 => rw [e] at F; exact fun ρ' x H' ex s r => F ρ' x H' ex s (hg _ _ _ _ _ r)
  | exc e' h1 => rw [e] at F; exact F
  | stuck => rw [e] at F; exact F
def xV (m : EM Val) : EM Opd := fun env h => (m env h).bind fun a h1 => .ok (.val a) h1
def xN (m : EM Cell) : EM Opd := fun env h => (m env h).bind fun a h1 => .ok (.cell a) h1
theorem o_v {e : Expr} {m : EM Val} (p : E X c W e m) : EO X c W e (xV m) := PE.imp p fun σ H Q q => rd_map (R' := ROpd X.K) (g := Opd.val) (fun _ _ _ _ _ r => r) q
theorem o_n {e : Expr} {m : EM Cell} (p : EC X c W e m) : EO X c W e (xN m) := PE.imp p fun σ H Q q => rd_map (R' := ROpd X.K) (g := Opd.cell) (fun _ _ _ _ _ ⟨a, e, _, n, r⟩ => ⟨a, e, n, r⟩) q
def xPut (m : EM Cell) : EM Val := fun env h => (m env h).bind fun k h1 => .ok (.ref h1.length) (h1 ++ [k])
theorem Ex.put {ρ ρ1 : List Addr} {H H1 : Hp} (x : Ex ρ H ρ1 H1) {a : Addr} (z : H a = none) : Ex ρ H (ρ1 ++ [a]) H1 :=
  ⟨x.pre.trans (List.prefix_append _ _), x.keep, fun b hb => by
    rcases List.mem_append.mp hb with hb | hb
    · exact x.new b hb
    · simp at hb; subst hb; exact .inr z⟩
theorem up_app {ρ : List Addr} {a : Addr} (m : Nat) (b : Addr) (e : ρ[m]? = some b) : (ρ ++ [a])[m]? = some b := by
  rw [List.getElem?_append_left (List.getElem?_eq_some_iff.mp e).1]; exact e
theorem RS.put {K : PySem.W.Frag} {ρ : List Addr} {H : Hp} {h : MH} (S : RS K ρ H h) {a : Addr} {k : Cell} (n : a ∉ ρ) (r : RC K ρ H k a) : RS K (ρ ++ [a]) H (h ++ [k]) ∧ RV K (ρ ++ [a]) H (.ref h.length) (.ref a) := by
  refine ⟨⟨by simp [S.len], List.nodup_append.mpr ⟨S.nd, by simp, fun b hb d hd => by simp at hd; subst hd; exact fun z => n (z ▸ hb)⟩, fun i k' b e1 e2 => ?_⟩, .ref (by rw [← S.len]; simp)⟩
  by_cases hi : i < h.length
  · rw [List.getElem?_append_left hi] at e1
    rw [List.getElem?_append_left (by rw [S.len]; exact hi)] at e2
    exact (S.cell i k' b e1 e2).gen (fun _ _ q => q) up_app rfl
  · rw [List.getElem?_append_right (Nat.le_of_not_lt hi)] at e1
    rw [List.getElem?_append_right (by rw [S.len]; exact Nat.le_of_not_lt hi)] at e2
    have hz : i - h.length = 0 := by
      have := (List.getElem?_eq_some_iff.mp e1).1
      simp at this; omega
    rw [S.len] at e2
    rw [hz] at e1 e2
    simp at e1 e2
    subst e1; subst e2; exact r.gen (fun _ _ q => q) up_app rfl
theorem rd_put {K : PySem.W.Frag} {m : EM Cell} {σ : St} {H : Hp} {Q : VK} (q : rd K c W (RVal K) (xPut m) σ H Q) : rd K c W (RNew K) m σ H Q := by
  obtain ⟨ρ, env, h, S, F⟩ := q
  refine ⟨ρ, env, h, S, ?_⟩
  have F : Fin K W σ (RVal K) ρ H Q ((m env h).bind fun k h1 => .ok (.ref h1.length) (h1 ++ [k])) := F
  cases e : m env h with
  | ok k h1 =>
    rw [e] at F
    rintro ρ1 x H1 ex s1 ⟨a, rfl, z, n, r⟩
    obtain ⟨s2, r2⟩ := s1.put n r
    exact F _ _ _ (ex.put z) s2 r2
  | exc e' h1 => rw [e] at F; exact F
  | stuck => rw [e] at F; exact F
theorem e_put {e : Expr} {m : EM Cell} (p : EC X c W e m) : E X c W e (xPut m) := PE.imp p fun σ H Q q => rd_put q

abbrev Res (γ : Type) := Option (γ × MH)
def Good {γ : Type} (K : PySem.W.Frag) (R : Rel γ V) (ρ : List Addr) (H : Hp) (Q : VK) (v : γ) (h' : MH) : Prop := ∀ z H', Ex ρ H ρ H' → RS K ρ H' h' → R H ρ H' v z → Q z H'
def OpG {γ : Type} (X : Cx) (R : Rel γ V) (r : R2) (f : Opd → Opd → MH → Res γ) : Prop :=
  ∀ (ρ : List Addr) (H : Hp) (h : MH) (a b : Opd) (x y : V) (v : γ) (h' : MH) (Q : VK), RS X.K ρ H h → ROpd X.K H ρ H a x → ROpd X.K H ρ H b y → f a b h = some (v, h') → Good X.K R ρ H Q v h' → r x y H Q
def UnG {γ : Type} (X : Cx) (R : Rel γ V) (r : V → Hp → VK → Prop) (f : Opd → MH → Res γ) : Prop :=
  ∀ (ρ : List Addr) (H : Hp) (h : MH) (a : Opd) (x : V) (v : γ) (h' : MH) (Q : VK), RS X.K ρ H h → ROpd X.K H ρ H a x → f a h = some (v, h') → Good X.K R ρ H Q v h' → r x H Q
def CallG {γ : Type} (X : Cx) (R : Rel γ V) (r : List V → Hp → VK → Prop) (f : List Opd → MH → Res γ) : Prop :=
  ∀ (ρ : List Addr) (H : Hp) (h : MH) (as : List Opd) (xs : List V) (v : γ) (h' : MH) (Q : VK), RS X.K ρ H h → ROs X.K ρ H as xs → f as h = some (v, h') → Good X.K R ρ H Q v h' → r xs H Q
def MtG {γ : Type} (X : Cx) (R : Rel γ V) (r : V → List V → Hp → VK → Prop) (f : Opd → List Opd → MH → Res γ) : Prop :=
  ∀ (ρ : List Addr) (H : Hp) (h : MH) (a : Opd) (as : List Opd) (x : V) (xs : List V) (v : γ) (h' : MH) (Q : VK), RS X.K ρ H h → ROpd X.K H ρ H a x → ROs X.K ρ H as xs → f a as h = some (v, h') → Good X.K R ρ H Q v h' → r x xs H Q
def lift {γ : Type} (o : Res γ) : Out γ := match o with
  | some (a, h) => .ok a h
  | none => .stuck
@[simp] theorem lift_some {γ : Type} (a : γ) (h : MH) : lift (some (a, h)) = .ok a h := rfl
@[simp] theorem lift_none {γ : Type} : lift (none : Res γ) = .stuck := rfl
def xOp {γ : Type} (f : Opd → Opd → MH → Res γ) (ma mb : EM Opd) : EM γ := fun env h => (ma env h).bind fun a h1 => (mb env h1).bind fun b h2 => lift (f a b h2)
def xUn {γ : Type} (f : Opd → MH → Res γ) (ma : EM Opd) : EM γ := fun env h => (ma env h).bind fun a h1 => lift (f a h1)
def xCall {γ : Type} (f : List Opd → MH → Res γ) (ma : EM (List Opd)) : EM γ := fun env h => (ma env h).bind fun a h1 => lift (f a h1)
theorem fin_lift {K : PySem.W.Frag} {γ : Type} {R : Rel γ V} {σ : St} {ρ : List Addr} {H : Hp} {Q : VK} {o : Res γ} (F : Fin K W σ R ρ H Q (lift o)) : ∃ v h', o = some (v, h') ∧ Good K R ρ H Q v h' := by
  cases o with
  | some v => exact ⟨v.1, v.2, rfl, fun z H' e s r => F ρ z H' e s r⟩
  | none => exact F.elim
theorem rd_op {γ : Type} {R : Rel γ V} (mon : RMon R) {r : R2} {f : Opd → Opd → MH → Res γ} (hs : OpG X R r f) {ma mb : EM Opd}
    {σ : St} {H : Hp} {Q : VK} (q : rd X.K c W R (xOp f ma mb) σ H Q) : rd X.K c W (ROpd X.K) ma σ H (fun x H1 => rd X.K c W (ROpd X.K) mb σ H1 fun y H2 => r x y H2 Q) := by
  obtain ⟨ρ, env, h, S, F⟩ := q
  refine ⟨ρ, env, h, S, ?_⟩
  refine (Fin.bind (R := ROpd X.K) mon F).mono fun x H1 ⟨a, h1, ρ1, e1, s1, r1, F1⟩ => ?_
  refine ⟨ρ1, env, h1, S.step e1 s1, ?_⟩
  refine (Fin.bind (R := ROpd X.K) mon F1).mono fun y H2 ⟨b, h2, ρ2, e2, s2, r2, F2⟩ => ?_
  obtain ⟨v, h', e3, F3⟩ := fin_lift F2
  exact hs ρ2 H2 h2 a b x y v h' Q s2 (ROpd.mono s1 e2 r1) r2.hs e3 F3
variable {γ : Type} {R : Rel γ V} {a b e o : Expr} {es : List Expr} {ma mb : EM Opd} {mas : EM (List Opd)} {pos p : Pos}
theorem g_op (mon : RMon R) {op : Operator} {r : R2} {f : Opd → Opd → MH → Res γ} (ho : OpR X (binaryOp op) r) (hs : OpG X R r f) (ha : EO X c W a ma) (hb : EO X c W b mb) :
    PE X (.BinOp a op b pos) (rd X.K c W R (xOp f ma mb)) := PE.imp (pe_op ho ha hb) fun σ H Q q => rd_op mon hs q
theorem g_cmp (mon : RMon R) {op : CmpOp} {r : R2} {f : Opd → Opd → MH → Res γ} (ho : OpR X (compareOp op) r) (hs : OpG X R r f) (ha : EO X c W a ma) (hb : EO X c W b mb) (hm : behindInMarks op b = false) :
    PE X (.Compare a [op] [b] pos) (rd X.K c W R (xOp f ma mb)) := PE.imp (pe_cmpR ho ha hb hm) fun σ H Q q => rd_op mon hs q
theorem g_ix (mon : RMon R) {r : R2} {f : Opd → Opd → MH → Res γ} (ho : IxR X r) (hs : OpG X R r f) (ha : EO X c W a ma) (hb : EO X c W b mb) (hp : PlainIx b := by intro _ _; rfl) :
    PE X (.Subscript a b pos) (rd X.K c W R (xOp f ma mb)) := PE.imp (pe_ix ho ha hb hp) fun σ H Q q => rd_op mon hs q
theorem rd_un (mon : RMon R) {r : V → Hp → VK → Prop} {f : Opd → MH → Res γ} (hs : UnG X R r f) {σ : St} {H : Hp} {Q : VK} (q : rd X.K c W R (xUn f ma) σ H Q) : rd X.K c W (ROpd X.K) ma σ H (fun x H1 => r x H1 Q) := by
  obtain ⟨ρ, env, h, S, F⟩ := q
  refine ⟨ρ, env, h, S, ?_⟩
  refine (Fin.bind (R := ROpd X.K) mon F).mono fun x H1 ⟨a, h1, ρ1, e1, s1, r1, F1⟩ => ?_
  obtain ⟨v, h', e3, F3⟩ := fin_lift F1
  exact hs ρ1 H1 h1 a x v h' Q s1 r1.hs e3 F3
theorem g_un (mon : RMon R) {op : UnaryOp} {r : V → Hp → VK → Prop} {f : Opd → MH → Res γ} (ho : UnR X (unaryOp op) r) (hs : UnG X R r f) (ha : EO X c W a ma) :
    PE X (.UnaryOp op a pos) (rd X.K c W R (xUn f ma)) := PE.imp (pe_un ho ha) fun σ H Q q => rd_un mon hs q

def aNil : EM (List Opd) := fun _ h => .ok [] h
def aCons (ma : EM Opd) (mr : EM (List Opd)) : EM (List Opd) := fun env h => (ma env h).bind fun a h1 => (mr env h1).bind fun as h2 => .ok (a :: as) h2
theorem ao_nil : AO X c W [] aNil := PA.imp pa_nil fun σ H Q ⟨ρ, _, _, S, F⟩ => F ρ [] H .refl S.rs .nil
theorem ao_cons (ha : EO X c W e ma) (hr : AO X c W es mas) (hs : starEach (e :: es) X.env = (false, eval e X.env) :: starEach es X.env := by rfl) : AO X c W (e :: es) (aCons ma mas) := by
  refine PA.imp (pa_cons ha hr hs) fun σ H Q ⟨ρ, env, h, S, F⟩ => ⟨ρ, env, h, S, ?_⟩
  refine (Fin.bind (R := ROpd X.K) mon_args F).mono fun x H1 ⟨a, h1, ρ1, e1, s1, r1, F1⟩ => ?_
  refine ⟨ρ1, env, h1, S.step e1 s1, ?_⟩
  refine (Fin.bind (R := RArgs X.K) mon_args F1).mono fun xs H2 ⟨as, h2, ρ2, e2, s2, r2, F2⟩ => ?_
  exact F2 ρ2 (x :: xs) H2 .refl s2 (.cons (ROpd.mono s1 e2 r1) r2)
def vNil : EM (List Val) := fun _ h => .ok [] h
def vCons (ma : EM Val) (mr : EM (List Val)) : EM (List Val) := fun env h => (ma env h).bind fun a h1 => (mr env h1).bind fun as h2 => .ok (a :: as) h2
theorem av_nil : AV X c W [] vNil := PA.imp pa_nil fun σ H Q ⟨ρ, _, _, S, F⟩ => F ρ [] H .refl S.rs .nil
theorem av_cons {ma : EM Val} {mas : EM (List Val)} (ha : E X c W e ma) (hr : AV X c W es mas) (hs : starEach (e :: es) X.env = (false, eval e X.env) :: starEach es X.env := by rfl) : AV X c W (e :: es) (vCons ma mas) := by
  refine PA.imp (pa_cons ha hr hs) fun σ H Q ⟨ρ, env, h, S, F⟩ => ⟨ρ, env, h, S, ?_⟩
  refine (Fin.bind (R := RVal X.K) mon_vals F).mono fun x H1 ⟨a, h1, ρ1, e1, s1, r1, F1⟩ => ?_
  refine ⟨ρ1, env, h1, S.step e1 s1, ?_⟩
  refine (Fin.bind (R := RVals X.K) mon_vals F1).mono fun xs H2 ⟨as, h2, ρ2, e2, s2, r2, F2⟩ => ?_
  exact F2 ρ2 (x :: xs) H2 .refl s2 (.cons (RV.mono s1 e2 r1) r2)
theorem rd_call (mon : RMon R) {r : List V → Hp → VK → Prop} {f : List Opd → MH → Res γ} (hs : CallG X R r f) {σ : St} {H : Hp} {Q : VK} (q : rd X.K c W R (xCall f mas) σ H Q) : rd X.K c W (RArgs X.K) mas σ H (fun xs H1 => r xs H1 Q) := by
  obtain ⟨ρ, env, h, S, F⟩ := q
  refine ⟨ρ, env, h, S, ?_⟩
  refine (Fin.bind (R := RArgs X.K) mon F).mono fun xs H1 ⟨as, h1, ρ1, e1, s1, r1, F1⟩ => ?_
  obtain ⟨v, h', e3, F3⟩ := fin_lift F1
  exact hs ρ1 H1 h1 as xs v h' Q s1 r1 e3 F3
variable {x name : Str}
theorem g_callB (mon : RMon R) {id : String} {r : List V → Hp → VK → Prop} {f : List Opd → MH → Res γ} (hc : CallR X (.builtin id) r) (hs : CallG X R r f) (hm : X.mg x = none) (ha : AO X c W (e :: es) mas)
    (hv : bootBuiltins x = some (.builtin id) := by decide +kernel) (hg : Gl X x := by rfl) (hn : x ≠ "__name__" := by decide) (hdb : (x == ("__debug__" : Str)) = false := by decide)
    (h1 : starEach (e :: es) X.env = (false, eval e X.env) :: starEach es X.env := by rfl) (h2 : (backTo pos (starEach es X.env)).any (·.1) = false := by rfl) :
    PE X (.Call (.Name x p) (e :: es) [] pos) (rd X.K c W R (xCall f mas)) := PE.imp (pe_callB hc hg hm hv ha hn hdb h1 h2) fun σ H Q q => rd_call mon hs q
theorem g_callTy (mon : RMon R) {T : String} {r : List V → Hp → VK → Prop} {f : List Opd → MH → Res γ} (hc : CallR X (.type T) r) (hs : CallG X R r f) (hm : X.mg x = none) (ha : AO X c W (e :: es) mas)
    (hv : bootBuiltins x = some (.type T) := by decide +kernel) (hg : Gl X x := by rfl) (hn : x ≠ "__name__" := by decide) (hdb : (x == ("__debug__" : Str)) = false := by decide)
    (h1 : starEach (e :: es) X.env = (false, eval e X.env) :: starEach es X.env := by rfl) (h2 : (backTo pos (starEach es X.env)).any (·.1) = false := by rfl) :
    PE X (.Call (.Name x p) (e :: es) [] pos) (rd X.K c W R (xCall f mas)) := PE.imp (pe_callTy hc hg hm hv ha hn hdb h1 h2) fun σ H Q q => rd_call mon hs q

def xTup (m : EM (List Val)) : EM Val := fun env h => (m env h).bind fun vs h1 => if vs.length ≤ 10000 then .ok (.tup vs) h1 else .stuck
def xLst (m : EM (List Val)) : EM Cell := fun env h => (m env h).bind fun vs h1 => if vs.length ≤ 10000 then .ok (.lst vs) h1 else .stuck
theorem line4 {n : Nat} (h : n ≤ 10000) : n ≤ sizeLine := by rw [sizeLine_eq]; omega
theorem Ex.new1 {ρ : List Addr} {H : Hp} {p : Addr} {o : HO} (e : H p = none) : Ex ρ H ρ (upd H p o) := ⟨List.prefix_refl _, fun b u q _ => (upd_ne (ne_of_none q e)).trans q, fun _ h => .inl h⟩
theorem RS.notNone {K : PySem.W.Frag} {ρ : List Addr} {H : Hp} {h : MH} (S : RS K ρ H h) {p : Addr} (e : H p = none) : p ∉ ρ := fun hm => by
  obtain ⟨_, _, _, _, r⟩ := S.at_mem hm
  obtain ⟨o, q⟩ := r.there
  rw [q] at e; cases e
theorem RS.new1 {K : PySem.W.Frag} {ρ : List Addr} {H : Hp} {h : MH} (S : RS K ρ H h) {p : Addr} {o : HO} (e : H p = none) : RS K ρ (upd H p o) h := by
  have nt : ∀ xs, ¬ Rd H p (.tup xs) := fun xs q => by rcases q with q | ⟨_, q⟩ <;> (rw [e] at q; cases q)
  exact ⟨S.len, S.nd, fun n c a e1 e2 => (S.cell n c a e1 e2).gen (fun b xs q => sqT_upd nt q) (fun _ _ z => z) (upd_ne fun z => S.notNone e (z ▸ List.mem_of_getElem? e2))⟩
theorem RVs.new1 {K : PySem.W.Frag} {ρ : List Addr} {H : Hp} {p : Addr} {o : HO} (e : H p = none) {vs : List Val} {xs : List V} (r : RVs K ρ H vs xs) : RVs K ρ (upd H p o) vs xs :=
  r.gen (fun b ys q => sqT_upd (fun zs q => by rcases q with q | ⟨_, q⟩ <;> (rw [e] at q; cases q)) q) fun _ _ z => z
theorem good_tup {K : PySem.W.Frag} {ρ : List Addr} {H : Hp} {h : MH} {Q : VK} {vs : List Val} {xs : List V} (S : RS K ρ H h) (r : RVs K ρ H vs xs) (G : Good K (RVal K) ρ H Q (.tup vs) h) {p : Addr} (e : H p = none) : Q (.ref p) (upd H p (.tup xs)) :=
  G _ _ (.new1 e) (S.new1 e) (.tup upd_same (r.new1 e))
theorem good_lst {K : PySem.W.Frag} {ρ : List Addr} {H : Hp} {h : MH} {Q : VK} {vs : List Val} {xs : List V} (S : RS K ρ H h) (r : RVs K ρ H vs xs) (G : Good K (RNew K) ρ H Q (.lst vs) h) {p : Addr} (e : H p = none) : Q (.ref p) (upd H p (.lst xs)) :=
  G _ _ (.new1 e) (S.new1 e) ⟨p, rfl, e, S.notNone e, xs, upd_same, r.new1 e⟩
theorem e_tup {m : EM (List Val)} {k} (ha : AV X c W es m) : E X c W (.Tuple es k pos) (xTup m) := by
  refine PE.imp (pe_tup ha) fun σ H Q ⟨ρ, env, h, S, F⟩ => ⟨ρ, env, h, S, ?_⟩
  refine (Fin.bind (R := RVals X.K) mon_val F).mono fun xs H1 ⟨vs, h1, ρ1, e1, s1, r1, F1⟩ => ?_
  split at F1
  · rename_i hz
    exact ⟨line4 (by rw [← RVs.length r1]; exact hz), fun p hp => good_tup s1 r1 (fun z H' e s r => F1 ρ1 z H' e s r) hp⟩
  · exact F1.elim
theorem n_lst {m : EM (List Val)} (ha : AV X c W es m) : EC X c W (.List es pos) (xLst m) := by
  refine PE.imp (pe_lst ha) fun σ H Q ⟨ρ, env, h, S, F⟩ => ⟨ρ, env, h, S, ?_⟩
  refine (Fin.bind (R := RVals X.K) mon_new F).mono fun xs H1 ⟨vs, h1, ρ1, e1, s1, r1, F1⟩ => ?_
  split at F1
  · rename_i hz
    exact ⟨line4 (by rw [← RVs.length r1]; exact hz), fun p hp => good_lst s1 r1 (fun z H' e s r => F1 ρ1 z H' e s r) hp⟩
  · exact F1.elim

def seqTruth (n : Nat) : Bool := n != 0
def truth (o : Opd) (h : MH) : Option Bool := match o with
  | .val .non => some false
  | .val (.bl b) => some b
  | .val (.int i) => some (i != 0)
  | .val (.str s) => if s.length ≤ 10000 then some ((s.length : Int) != 0) else none
  | .val (.tup vs) => some (!vs.isEmpty)
  | .val (.kls vs) => some (!vs.isEmpty)
  | .val (.ref n) => (match h[n]? with
    | some (.lst vs) => some (!vs.isEmpty)
    | some (.frz vs) => some (!vs.isEmpty)
    | some (.dK kvs) => some (!kvs.isEmpty)
    | _ => none)
  | .cell (.lst vs) => some (!vs.isEmpty)
  | .cell (.dK kvs) => some (!kvs.isEmpty)
  | _ => none
theorem RVs.isEmpty {K : PySem.W.Frag} {ρ : List Addr} {H : Hp} {vs : List Val} {xs : List V} (r : RVs K ρ H vs xs) : xs.isEmpty = vs.isEmpty := by cases r <;> rfl
theorem RKs.isEmpty {κ : Type} {K : PySem.W.Frag} {ρ : List Addr} {H : Hp} {vs : List (κ × Val)} {xs : List (κ × V)} (r : RKs K ρ H vs xs) : xs.isEmpty = vs.isEmpty := by
  have e := congrArg List.length r.1
  simp only [List.length_map] at e
  cases vs with
  | nil => cases xs with
    | nil => rfl
    | cons _ _ => simp at e
  | cons _ _ => cases xs with
    | nil => simp at e
    | cons _ _ => rfl
theorem truth_ok {K : PySem.W.Frag} {ρ : List Addr} {H Hs : Hp} {h : MH} {o : Opd} {x : V} {k : Bool} (S : RS K ρ H h) (r : ROpd K Hs ρ H o x) (e : truth o h = some k) : TruV K x H k := by
  cases o with
  | val v =>
    have r : RV K ρ H v x := r
    cases r with
    | non => exact (Option.some.inj e).symm
    | bl b => exact (Option.some.inj e).symm
    | int i => exact (Option.some.inj e).symm
    | str s =>
      unfold truth at e
      simp only at e
      split at e
      · rename_i hz; exact ⟨line4 hz, (Option.some.inj e).symm⟩
      · cases e
    | tup q r2 => exact .inr (.inl ⟨_, SqT.of q, by rw [r2.isEmpty]; exact (Option.some.inj e).symm⟩)
    | @kls is a q => exact .inl ⟨_, .inr q, by rw [← Option.some.inj e]; cases is <;> rfl⟩
    | @ref n a en =>
      unfold truth at e
      simp only at e
      split at e
      · rename_i vs eh
        obtain ⟨xs, q, r⟩ := S.cell n _ a eh en
        exact .inl ⟨xs, SqL.of q, by rw [r.isEmpty]; exact (Option.some.inj e).symm⟩
      · rename_i vs eh
        obtain ⟨ob, xs, q, r⟩ := S.cell n _ a eh en
        exact .inl ⟨xs, .inl (.inr ⟨ob, q⟩), by rw [r.isEmpty]; exact (Option.some.inj e).symm⟩
      · rename_i vs eh
        obtain ⟨xs, q, r⟩ := S.cell n _ a eh en
        exact .inr (.inr ⟨xs, q, by rw [r.isEmpty]; exact (Option.some.inj e).symm⟩)
      · cases e
  | cell c =>
    obtain ⟨a, rfl, n, q⟩ := r
    cases c with
    | lst vs => obtain ⟨xs, q, r⟩ := q; exact .inl ⟨xs, SqL.of q, by rw [r.isEmpty]; exact (Option.some.inj e).symm⟩
    | dK vs => obtain ⟨xs, q, r⟩ := q; exact .inr (.inr ⟨xs, q, by rw [r.isEmpty]; exact (Option.some.inj e).symm⟩)
    | frz _ => cases e
    | dT _ => cases e
def tTruth (m : EM Opd) : EM Bool := fun env h => (m env h).bind fun o h1 => match truth o h1 with
  | some b => .ok b h1
  | none => .stuck
theorem t_truth (ha : EO X c W e ma) (he : ∀ whole, isTrue e X.env whole = (do let v ← whole; standAt e.pos; holding [v] (truthy v)) := by intro _; rfl) : TB X c W e (tTruth ma) := by
  refine PT.imp (pt_truth ha he) fun σ H Q ⟨ρ, env, h, S, F⟩ => ⟨ρ, env, h, S, ?_⟩
  refine (Fin.bind (R := ROpd X.K) mon_bool F).mono fun x H1 ⟨o, h1, ρ1, e1, s1, r1, F1⟩ => ?_
  cases q : truth o h1 with
  | some b =>
    rw [q] at F1
    exact ⟨b, truth_ok s1 r1 q, F1 ρ1 b H1 .refl s1 rfl⟩
  | none => rw [q] at F1; exact F1.elim

def tOf (m : EM Val) : EM Bool := fun env h => (m env h).bind fun v h1 => match v with
  | .bl b => .ok b h1
  | _ => .stuck
theorem fin_tOf {K : PySem.W.Frag} {σ : St} {ρ : List Addr} {H : Hp} {Q : Bool → Hp → Prop} {o : Out Val} (F : Fin K W σ RBool ρ H Q (o.bind fun v h1 => match v with
  | .bl b => .ok b h1
  | _ => .stuck)) : Fin K W σ (RVal K) ρ H (fun x H' => ∃ k, x = .bl k ∧ Q k H') o := by
  refine (Fin.bind (R := RVal K) mon_bool F).mono fun x H1 ⟨v, h1, ρ1, e1, s1, r1, F1⟩ => ?_
  have r1 : RV K ρ1 H1 v x := r1
  cases r1 with
  | bl b => exact ⟨b, rfl, F1 ρ1 b H1 .refl s1 rfl⟩
  | _ => exact F1.elim
theorem t_cmp {op : CmpOp} {r : R2} {f : Opd → Opd → MH → Res Val} (ho : OpR X (compareOp op) r) (hs : OpG X (RVal X.K) r f) (ha : EO X c W a ma) (hb : EO X c W b mb) (hm : behindInMarks op b = false) :
    TB X c W (.Compare a [op] [b] pos) (tOf (xOp f ma mb)) := by
  refine PT.imp (pt_cmpR ho ha hb hm) fun σ H Q ⟨ρ, env, h, S, F⟩ => ?_
  exact rd_op mon_val hs (Q := fun x H' => ∃ k, x = .bl k ∧ Q k H') ⟨ρ, env, h, S, fin_tOf F⟩
theorem t_val {m : EM Val} (ha : E X c W e m) (he : ∀ whole, isTrue e X.env whole = (do let v ← whole; standAt e.pos; holding [v] (truthy v)) := by intro _; rfl) : TB X c W e (tTruth (xV m)) := t_truth (o_v ha) he
def tAnd (ta tb : EM Bool) : EM Bool := fun env h => (ta env h).bind fun k h1 => if k = true then tb env h1 else .ok false h1
def tOr (ta tb : EM Bool) : EM Bool := fun env h => (ta env h).bind fun k h1 => if k = true then .ok true h1 else tb env h1
def tNot (ta : EM Bool) : EM Bool := fun env h => (ta env h).bind fun k h1 => .ok (!k) h1
variable {ta tb : EM Bool} {rest : List Expr}
theorem w_and1 (ha : TB X c W a ta) : TW X c W (.BoolOp .And [a] pos) ta := pw_and1 ha
theorem w_or1 (ha : TB X c W a ta) : TW X c W (.BoolOp .Or [a] pos) ta := pw_or1 ha
theorem w_and (ha : TB X c W a ta) (hb : TW X c W (.BoolOp .And (b :: rest) pos) tb) : TW X c W (.BoolOp .And (a :: b :: rest) pos) (tAnd ta tb) := by
  refine PW.imp (pw_and ha hb) fun σ H Q ⟨ρ, env, h, S, F⟩ => ⟨ρ, env, h, S, ?_⟩
  refine (Fin.bind (R := RBool) mon_bool F).mono fun k H1 ⟨k', h1, ρ1, e1, s1, r1, F1⟩ => ?_
  have r1 : k' = k := r1
  subst r1
  split at F1
  · rename_i hk; rw [if_pos hk]; exact ⟨ρ1, env, h1, S.step e1 s1, F1⟩
  · rename_i hk; rw [if_neg hk]; exact F1 ρ1 false H1 .refl s1 rfl
theorem w_or (ha : TB X c W a ta) (hb : TW X c W (.BoolOp .Or (b :: rest) pos) tb) : TW X c W (.BoolOp .Or (a :: b :: rest) pos) (tOr ta tb) := by
  refine PW.imp (pw_or ha hb) fun σ H Q ⟨ρ, env, h, S, F⟩ => ⟨ρ, env, h, S, ?_⟩
  refine (Fin.bind (R := RBool) mon_bool F).mono fun k H1 ⟨k', h1, ρ1, e1, s1, r1, F1⟩ => ?_
  have r1 : k' = k := r1
  subst r1
  split at F1
  · rename_i hk; rw [if_pos hk]; exact F1 ρ1 true H1 .refl s1 rfl
  · rename_i hk; rw [if_neg hk]; exact ⟨ρ1, env, h1, S.step e1 s1, F1⟩
theorem t_w (h : TW X c W e ta) : TB X c W e ta := PW.pt h
theorem t_not (ha : TB X c W a ta) : TB X c W (.UnaryOp .Not a pos) (tNot ta) := by
  refine PT.imp (pt_not ha) fun σ H Q ⟨ρ, env, h, S, F⟩ => ⟨ρ, env, h, S, ?_⟩
  refine (Fin.bind (R := RBool) mon_bool F).mono fun k H1 ⟨k', h1, ρ1, e1, s1, r1, F1⟩ => ?_
  have r1 : k' = k := r1
  subst r1
  exact F1 ρ1 (!k') H1 .refl s1 rfl
def xIf (t : EM Bool) (ma mb : EM Val) : EM Val := fun env h => (t env h).bind fun k h1 => if k = true then ma env h1 else mb env h1
theorem e_if {t : Expr} {m1 m2 : EM Val} (ht : TB X c W t ta) (ha : E X c W a m1) (hb : E X c W b m2) : E X c W (.IfExp t a b pos) (xIf ta m1 m2) := by
  refine PE.imp (pe_ifExp ht ha hb) fun σ H Q ⟨ρ, env, h, S, F⟩ => ⟨ρ, env, h, S, ?_⟩
  refine (Fin.bind (R := RBool) mon_val F).mono fun k H1 ⟨k', h1, ρ1, e1, s1, r1, F1⟩ => ?_
  have r1 : k' = k := r1
  subst r1
  split at F1
  · rename_i hk; rw [if_pos hk]; exact ⟨ρ1, env, h1, S.step e1 s1, F1⟩
  · rename_i hk; rw [if_neg hk]; exact ⟨ρ1, env, h1, S.step e1 s1, F1⟩
def xAnd (m1 m2 : EM Val) : EM Val := fun env h => (m1 env h).bind fun v h1 => match truth (.val v) h1 with
  | some true => m2 env h1
  | some false => .ok v h1
  | none => .stuck
def xOr (m1 m2 : EM Val) : EM Val := fun env h => (m1 env h).bind fun v h1 => match truth (.val v) h1 with
  | some true => .ok v h1
  | some false => m2 env h1
  | none => .stuck
def xNot (m1 : EM Opd) : EM Val := fun env h => (m1 env h).bind fun v h1 => match truth v h1 with
  | some k => .ok (.bl (!k)) h1
  | none => .stuck
theorem e_one {op} {m : EM Val} (h : E X c W a m) : E X c W (.BoolOp op [a] pos) m := pe_one h
theorem e_and {m1 m2 : EM Val} (ha : E X c W a m1) (hb : E X c W (.BoolOp .And (b :: rest) pos) m2) : E X c W (.BoolOp .And (a :: b :: rest) pos) (xAnd m1 m2) := by
  refine PE.imp (pe_andT ha hb) fun σ H Q ⟨ρ, env, h, S, F⟩ => ⟨ρ, env, h, S, ?_⟩
  refine (Fin.bind (R := RVal X.K) mon_val F).mono fun x H1 ⟨v, h1, ρ1, e1, s1, r1, F1⟩ => ?_
  cases q : truth (.val v) h1 with
  | none => rw [q] at F1; exact F1.elim
  | some k =>
    rw [q] at F1
    refine ⟨k, truth_ok (o := .val v) (Hs := H1) s1 r1 q, ?_⟩
    cases k with
    | true => rw [if_pos rfl]; exact ⟨ρ1, env, h1, S.step e1 s1, F1⟩
    | false => rw [if_neg Bool.false_ne_true]; exact F1 ρ1 x H1 .refl s1 r1
theorem e_or {m1 m2 : EM Val} (ha : E X c W a m1) (hb : E X c W (.BoolOp .Or (b :: rest) pos) m2) : E X c W (.BoolOp .Or (a :: b :: rest) pos) (xOr m1 m2) := by
  refine PE.imp (pe_orT ha hb) fun σ H Q ⟨ρ, env, h, S, F⟩ => ⟨ρ, env, h, S, ?_⟩
  refine (Fin.bind (R := RVal X.K) mon_val F).mono fun x H1 ⟨v, h1, ρ1, e1, s1, r1, F1⟩ => ?_
  cases q : truth (.val v) h1 with
  | none => rw [q] at F1; exact F1.elim
  | some k =>
    rw [q] at F1
    refine ⟨k, truth_ok (o := .val v) (Hs := H1) s1 r1 q, ?_⟩
    cases k with
    | true => rw [if_pos rfl]; exact F1 ρ1 x H1 .refl s1 r1
    | false => rw [if_neg Bool.false_ne_true]; exact ⟨ρ1, env, h1, S.step e1 s1, F1⟩
theorem e_not (ha : EO X c W a ma) : E X c W (.UnaryOp .Not a pos) (xNot ma) := by
  refine PE.imp (pe_notT ha) fun σ H Q ⟨ρ, env, h, S, F⟩ => ⟨ρ, env, h, S, ?_⟩
  refine (Fin.bind (R := ROpd X.K) mon_val F).mono fun x H1 ⟨v, h1, ρ1, e1, s1, r1, F1⟩ => ?_
  cases q : truth v h1 with
  | none => rw [q] at F1; exact F1.elim
  | some k =>
    rw [q] at F1
    exact ⟨k, truth_ok s1 r1 q, F1 ρ1 _ H1 .refl s1 (.bl _)⟩
def xChain (f g : Opd → Opd → MH → Res Val) (ma mb md : EM Opd) : EM Val := fun env h => (ma env h).bind fun a h1 => (mb env h1).bind fun b h2 => (lift (f a b h2)).bind fun z h3 => match z with
  | .bl true => (md env h3).bind fun d h4 => lift (g b d h4)
  | .bl false => .ok (.bl false) h3
  | _ => .stuck
theorem rd_chain {r r' : R2} {f g : Opd → Opd → MH → Res Val} (hs : OpG X (RVal X.K) r f) (hs' : OpG X (RVal X.K) r' g) {md : EM Opd} {σ : St} {H : Hp} {Q : VK} (q : rd X.K c W (RVal X.K) (xChain f g ma mb md) σ H Q) :
    tChain r r' (rd X.K c W (ROpd X.K) ma) (rd X.K c W (ROpd X.K) mb) (rd X.K c W (ROpd X.K) md) σ H Q := by
  obtain ⟨ρ, env, h, S, F⟩ := q
  refine ⟨ρ, env, h, S, ?_⟩
  refine (Fin.bind (R := ROpd X.K) mon_val F).mono fun x H1 ⟨a, h1, ρ1, e1, s1, r1, F1⟩ => ?_
  refine ⟨ρ1, env, h1, S.step e1 s1, ?_⟩
  refine (Fin.bind (R := ROpd X.K) mon_val F1).mono fun y H2 ⟨b, h2, ρ2, e2, s2, r2, F2⟩ => ?_
  have F3 := Fin.bind (R := RVal X.K) mon_val F2
  obtain ⟨v, h', e3, F4⟩ := fin_lift F3
  refine hs ρ2 H2 h2 a b x y v h' _ s2 (ROpd.mono s1 e2 r1) r2.hs e3 fun z H3 e4 s4 r4 => ?_
  obtain ⟨z', h3, ρ3, e5, s5, r5, F5⟩ := F4 z H3 e4 s4 r4
  have r5 : RV X.K ρ3 H3 z' z := r5
  cases r5 with
  | bl k =>
    refine ⟨k, rfl, ?_⟩
    cases k with
    | true =>
      rw [if_pos rfl]
      refine ⟨ρ3, env, h3, ((S.step e1 s1).step e2 s2).step e5 s5, ?_⟩
      refine (Fin.bind (R := ROpd X.K) mon_val F5).mono fun w' H4 ⟨d, h4, ρ4, e6, s6, r6, F6⟩ => ?_
      obtain ⟨v2, h'2, e7, F7⟩ := fin_lift F6
      exact hs' ρ4 H4 h4 b d y w' v2 h'2 Q s6 (ROpd.mono (Hs := H2) s5 e6 (ROpd.mono s2 e5 (r2.hs (Hs' := H2)))) r6.hs e7 F7
    | false => rw [if_neg Bool.false_ne_true]; exact F5 ρ3 _ H3 .refl s5 (.bl false)
  | _ => exact F5.elim
theorem e_chain {op op' : CmpOp} {r r' : R2} {f g : Opd → Opd → MH → Res Val} {d : Expr} {md : EM Opd} (ho : OpR X (compareOp op) r) (hs : OpG X (RVal X.K) r f) (ho' : OpR X (compareOp op') r') (hs' : OpG X (RVal X.K) r' g) (ha : EO X c W a ma) (hb : EO X c W b mb) (hd : EO X c W d md)
    (hm : lastMarks [op, op'] [b, d] = false := by with_unfolding_all rfl) : E X c W (.Compare a [op, op'] [b, d] pos) (xChain f g ma mb md) := PE.imp (pe_chain ho ho' ha hb hd hm) fun σ H Q q => rd_chain hs hs' q
theorem t_chain {op op' : CmpOp} {r r' : R2} {f g : Opd → Opd → MH → Res Val} {d : Expr} {md : EM Opd} (ho : OpR X (compareOp op) r) (hs : OpG X (RVal X.K) r f) (ho' : OpR X (compareOp op') r') (hs' : OpG X (RVal X.K) r' g) (ha : EO X c W a ma) (hb : EO X c W b mb) (hd : EO X c W d md)
    (hm : lastMarks [op, op'] [b, d] = false := by with_unfolding_all rfl) : TB X c W (.Compare a [op, op'] [b, d] pos) (tOf (xChain f g ma mb md)) := by
  refine PT.imp (pt_chain ho ho' ha hb hd hm) fun σ H Q ⟨ρ, env, h, S, F⟩ => ?_
  exact rd_chain hs hs' (Q := fun x H' => ∃ k, x = .bl k ∧ Q k H') ⟨ρ, env, h, S, fin_tOf F⟩

def okTy (T : String) (o : Opd) (h : MH) : Bool := match o with
  | .val (.str _) => T == "str"
  | .val (.ref n) => (match h[n]? with
    | some (.lst _) => T == "list"
    | some (.frz _) => T == "list"
    | some (.dK _) => T == "dict"
    | some (.dT _) => T == "dict"
    | _ => false)
  | .cell (.lst _) => T == "list"
  | .cell (.dK _) => T == "dict"
  | .cell (.dT _) => T == "dict"
  | _ => false
theorem okTy_ok {K : PySem.W.Frag} {ρ : List Addr} {H Hs : Hp} {h : MH} {o : Opd} {x : V} {T : String} (S : RS K ρ H h) (r : ROpd K Hs ρ H o x) (e : okTy T o h = true) : tyV K T x H := by
  cases o with
  | val v =>
    have r : RV K ρ H v x := r
    cases r with
    | str s => exact eq_of_beq e
    | @ref n a en =>
      unfold okTy at e
      simp only at e
      split at e
      · rename_i vs eh
        obtain ⟨xs, q, r⟩ := S.cell n _ a eh en
        exact .inl ⟨eq_of_beq e, xs, SqL.of q⟩
      · rename_i vs eh
        obtain ⟨ob, xs, q, r⟩ := S.cell n _ a eh en
        exact .inl ⟨eq_of_beq e, xs, .inl (.inr ⟨ob, q⟩)⟩
      · rename_i vs eh
        obtain ⟨xs, q, r⟩ := S.cell n _ a eh en
        exact .inr (.inr (.inl ⟨eq_of_beq e, .inl ⟨xs, q⟩⟩))
      · rename_i vs eh
        obtain ⟨xs, q, r⟩ := S.cell n _ a eh en
        exact .inr (.inr (.inl ⟨eq_of_beq e, .inr ⟨xs, q⟩⟩))
      · cases e
    | _ => cases e
  | cell c =>
    obtain ⟨a, rfl, n, q⟩ := r
    cases c with
    | lst vs => obtain ⟨xs, q, r⟩ := q; exact .inl ⟨eq_of_beq e, xs, SqL.of q⟩
    | dK vs => obtain ⟨xs, q, r⟩ := q; exact .inr (.inr (.inl ⟨eq_of_beq e, .inl ⟨xs, q⟩⟩))
    | dT vs => obtain ⟨xs, q, r⟩ := q; exact .inr (.inr (.inl ⟨eq_of_beq e, .inr ⟨xs, q⟩⟩))
    | frz _ => cases e
def xMt {γ : Type} (T : String) (f : Opd → List Opd → MH → Res γ) (ma : EM Opd) (mas : EM (List Opd)) : EM γ := fun env h => (ma env h).bind fun a h1 => if okTy T a h1 = true then (mas env h1).bind fun as h2 => lift (f a as h2) else .stuck
theorem g_mt0 (mon : RMon R) {T id : String} {r : V → List V → Hp → VK → Prop} {f : Opd → List Opd → MH → Res γ} {apos : Pos} (pa : PlainAttrs T) (slot : Slot T name id) (hty : typeOf (.builtin id) = pure (.type "method_descriptor"))
    (hm : MtR X id r) (hs : MtG X R r f) (ho : EO X c W o ma)
    (hbase : attributeBase o name X.env (eval o X.env) = eval o X.env := by rfl) (hline : (apos.endLine == pos.line) = true := by rfl) :
    PE X (.Call (.Attribute o name apos) [] [] pos) (rd X.K c W R (xMt T f ma aNil)) := by
  refine PE.imp (pe_bm0 pa slot hty hm ho hbase hline) fun σ H Q ⟨ρ, env, h, S, F⟩ => ⟨ρ, env, h, S, ?_⟩
  refine (Fin.bind (R := ROpd X.K) mon F).mono fun x H1 ⟨a, h1, ρ1, e1, s1, r1, F1⟩ => ?_
  split at F1
  · rename_i hk
    obtain ⟨v, h', e3, F3⟩ := fin_lift F1
    exact ⟨okTy_ok s1 r1 hk, hs ρ1 H1 h1 a [] x [] v h' Q s1 r1.hs .nil e3 F3⟩
  · exact F1.elim
theorem g_mt (mon : RMon R) {T id : String} {r : V → List V → Hp → VK → Prop} {f : Opd → List Opd → MH → Res γ} {apos : Pos} (pa : PlainAttrs T) (slot : Slot T name id) (hty : typeOf (.builtin id) = pure (.type "method_descriptor"))
    (hm : MtR X id r) (hs : MtG X R r f) (ho : EO X c W o ma) (ha : AO X c W (e :: es) mas)
    (hbase : attributeBase o name X.env (eval o X.env) = eval o X.env := by rfl)
    (hfew : ((backTo pos (starEach (e :: es) X.env)).all (fun x => !x.1) && (backToKw pos (keywordEach [] X.env)).all (fun x => x.1.isSome)
      && decide ((e :: es).length + ([] : List Keyword).length + (if ([] : List Keyword).isEmpty then 0 else 1) < 30)) = true := by rfl)
    (hline : (apos.endLine == pos.line) = true := by rfl) (h1 : starEach (e :: es) X.env = (false, eval e X.env) :: starEach es X.env := by rfl) (h2 : (backTo pos (starEach es X.env)).any (·.1) = false := by rfl) :
    PE X (.Call (.Attribute o name apos) (e :: es) [] pos) (rd X.K c W R (xMt T f ma mas)) := by
  refine PE.imp (pe_bm pa slot hty hm ho ha hbase hfew hline h1 h2) fun σ H Q ⟨ρ, env, h, S, F⟩ => ⟨ρ, env, h, S, ?_⟩
  refine (Fin.bind (R := ROpd X.K) mon F).mono fun x H1 ⟨a, h1, ρ1, e1, s1, r1, F1⟩ => ?_
  split at F1
  · rename_i hk
    refine ⟨okTy_ok s1 r1 hk, ρ1, env, h1, S.step e1 s1, ?_⟩
    refine (Fin.bind (R := RArgs X.K) mon F1).mono fun xs H2 ⟨as, h2, ρ2, e2, s2, r2, F2⟩ => ?_
    obtain ⟨v, h', e3, F3⟩ := fin_lift F2
    exact hs ρ2 H2 h2 a as x xs v h' Q s2 (ROpd.mono s1 e2 r1) r2 e3 F3
  · exact F1.elim

structure Part where
  o : Option Int
def RPart : Rel (Option Int) (Option Int) := fun _ _ _ a b => a = b
theorem mon_part : RMon RPart := fun _ _ _ _ _ _ _ _ _ _ r => r
def OP (X : Cx) (c : Ctx) (W : WX) (e : Option Expr) (m : EM (Option Int)) : Prop := PO X e (rd X.K c W RPart m)
def pNone : EM (Option Int) := fun _ h => .ok none h
def pSome (m : EM Val) : EM (Option Int) := fun env h => (m env h).bind fun v h1 => match v with
  | .int i => .ok (some i) h1
  | _ => .stuck
theorem PO.imp {e : Option Expr} {t t' : TO} (p : PO X e t) (h : ∀ σ H Q, t' σ H Q → t σ H Q) : PO X e t' := ⟨fun pins s σ H Q I q => p.run pins s σ H Q I (h σ H Q q)⟩
theorem op_none : OP X c W none pNone := PO.imp po_none fun σ H Q ⟨ρ, _, _, S, F⟩ => F ρ none H .refl S.rs rfl
theorem op_some {m : EM Val} (h : E X c W e m) : OP X c W (some e) (pSome m) := by
  refine PO.imp (po_some h) fun σ H Q ⟨ρ, env, h, S, F⟩ => ⟨ρ, env, h, S, ?_⟩
  refine (Fin.bind (R := RVal X.K) mon_part F).mono fun x H1 ⟨v, h1, ρ1, e1, s1, r1, F1⟩ => ?_
  have r1 : RV X.K ρ1 H1 v x := r1
  cases r1 with
  | int i => exact ⟨i, rfl, F1 ρ1 (some i) H1 .refl s1 rfl⟩
  | _ => exact F1.elim
def SlG {γ : Type} (X : Cx) (R : Rel γ V) (r : V → Option Int → Option Int → Hp → VK → Prop) (f : Opd → Option Int → Option Int → MH → Res γ) : Prop :=
  ∀ (ρ : List Addr) (H : Hp) (h : MH) (a : Opd) (x : V) (lo hi : Option Int) (v : γ) (h' : MH) (Q : VK), RS X.K ρ H h → ROpd X.K H ρ H a x → f a lo hi h = some (v, h') → Good X.K R ρ H Q v h' → r x lo hi H Q
def xSl {γ : Type} (f : Opd → Option Int → Option Int → MH → Res γ) (ma : EM Opd) (ml mh : EM (Option Int)) : EM γ := fun env h => (ma env h).bind fun a h1 => (ml env h1).bind fun lo h2 => (mh env h2).bind fun hi h3 => lift (f a lo hi h3)
theorem g_sl (mon : RMon R) {r : V → Option Int → Option Int → Hp → VK → Prop} {f : Opd → Option Int → Option Int → MH → Res γ} {lo hi : Option Expr} {ml mh : EM (Option Int)} {p2 : Pos} (hr : SlR X r) (hs : SlG X R r f) (ha : EO X c W a ma) (hl : OP X c W lo ml) (hu : OP X c W hi mh) :
    PE X (.Subscript a (.Slice lo hi none p2) pos) (rd X.K c W R (xSl f ma ml mh)) := by
  refine PE.imp (pe_slice hr ha hl hu) fun σ H Q ⟨ρ, env, h, S, F⟩ => ⟨ρ, env, h, S, ?_⟩
  refine (Fin.bind (R := ROpd X.K) mon F).mono fun x H1 ⟨a, h1, ρ1, e1, s1, r1, F1⟩ => ?_
  refine ⟨ρ1, env, h1, S.step e1 s1, ?_⟩
  refine (Fin.bind (R := RPart) mon F1).mono fun l H2 ⟨l', h2, ρ2, e2, s2, r2, F2⟩ => ?_
  have r2 : l' = l := r2
  subst r2
  refine ⟨ρ2, env, h2, (S.step e1 s1).step e2 s2, ?_⟩
  refine (Fin.bind (R := RPart) mon F2).mono fun u H3 ⟨u', h3, ρ3, e3, s3, r3, F3⟩ => ?_
  have r3 : u' = u := r3
  subst r3
  obtain ⟨v, h', e4, F4⟩ := fin_lift F3
  exact hs ρ3 H3 h3 a x l' u' v h' Q s3 (ROpd.mono (Hs := H1) s2 e3 (ROpd.mono (Hs := H) s1 e2 r1)) e4 F4

def FnP (K : PySem.W.Frag) (ρ : List Addr) (H : Hp) (Q : VK) (E : XK) : Out Val → Prop
  | .ok v h' => ∀ (ρ' : List Addr) (x : V) (H' : Hp), Ex ρ H ρ' H' → RS K ρ' H' h' → RV K ρ' H' v x → Q x H'
  | .exc e h' => ∀ (ρ' : List Addr) (cls : Value) (d : Option Addr) (H' : Hp), Ex ρ H ρ' H' → RS K ρ' H' h' → RX K ρ' H' e cls d → E cls d H'
  | .stuck => False
def spF (K : PySem.W.Frag) (F : FM) : Sp := fun vs H Q E => ∃ (ρ : List Addr) (args : List Val) (h : MH), RS K ρ H h ∧ RVs K ρ H args vs ∧ FnP K ρ H Q E (F args h)
def xFn (F : FM) (m : EM (List Val)) : EM Val := fun env h => (m env h).bind fun args h1 => F args h1
structure Def (P : Program) (w : World) (K : PySem.W.Frag) (mg : Str → Option Value) (base : Heap) (x : Str) (k : Nat) (F : FM) : Prop where
  ex : ∃ (f : Addr) (fd : FuncData) (ps : List Str), FnOk P w K mg base (L2.CX P w) k f fd ps (spF K F) ∧ mg x = some (.ref f) ∧ PySem.W.keepIn K (.ref f) = true ∧ Binds K fd ps []
theorem e_fn {F : FM} {m : EM (List Val)} {k : Nat} (d : Def X.prog X.w X.K X.mg X.base x k F) (hr : Room k X.A) (tk : Takes X W) (ha : AV X c W (e :: es) m) (hg : Gl X x := by rfl) (hdb : (x == ("__debug__" : Str)) = false := by decide)
    (h1 : starEach (e :: es) X.env = (false, eval e X.env) :: starEach es X.env := by rfl) (h2 : (backTo pos (starEach es X.env)).any (·.1) = false := by rfl) :
    E X c W (.Call (.Name x p) (e :: es) [] pos) (xFn F m) := by
  obtain ⟨f, fd, ps, ok, hm, hk, hb⟩ := d.ex
  refine PE.imp (pe_callS ok hr hg hm hk hb (fun σ => passAt tk σ) ha hdb h1 h2) fun σ H Q ⟨ρ, env, h, S, Fi⟩ => ⟨ρ, env, h, S, ?_⟩
  refine (Fin.bind (R := RVals X.K) mon_val Fi).mono fun xs H1 ⟨args, h1, ρ1, e1, s1, r1, F1⟩ => ?_
  refine ⟨ρ1, args, h1, s1, r1, ?_⟩
  cases q : F args h1 with
  | ok v h' => rw [q] at F1; exact fun ρ' x H' ex s r => F1 ρ' x H' ex s r
  | exc e' h' => rw [q] at F1; exact fun ρ' cls d H' ex s r => F1 ρ' cls d H' ex s r
  | stuck => rw [q] at F1; exact F1
end
end Mi

set_option Elab.async false
set_option linter.all false
set_option maxRecDepth 100000
set_option maxHeartbeats 2000000
set_option autoImplicit false
namespace Mi
open PySem PySem.Spec PyProof.Rows L2

structure Es (K : PySem.W.Frag) (ρ : List Addr) (H : Hp) (ρ' : List Addr) (H' : Hp) : Prop where
  pre : ρ <+: ρ'
  tup : ∀ (b : Addr) (xs : List V), H b = some (.tup xs) → H' b = some (.tup xs)
section
variable {K : PySem.W.Frag} {ρ ρ1 ρ2 : List Addr} {H H1 H2 Hs Hs' : Hp} {h h1 h2 : MH} {c : Ctx} {W : WX}
theorem Es.refl : Es K ρ H ρ H := ⟨List.prefix_refl _, fun _ _ q => q⟩
theorem Es.trans (x : Es K ρ H ρ1 H1) (y : Es K ρ1 H1 ρ2 H2) : Es K ρ H ρ2 H2 := ⟨x.pre.trans y.pre, fun b xs q => y.tup b xs (x.tup b xs q)⟩
theorem Ex.es (x : Ex ρ H ρ1 H1) (S : RS K ρ H h) : Es K ρ H ρ1 H1 := ⟨x.pre, fun b xs q => sqT_keep S x q⟩
theorem pre_get (x : ρ <+: ρ1) {n : Nat} {a : Addr} (e : ρ[n]? = some a) : ρ1[n]? = some a := by
  obtain ⟨t, rfl⟩ := x
  rw [List.getElem?_append_left (List.getElem?_eq_some_iff.mp e).1]
  exact e
theorem RV.es (x : Es K ρ H ρ1 H1) {v : Val} {y : V} (r : RV K ρ H v y) : RV K ρ1 H1 v y := RV.gen x.tup (fun _ _ e => pre_get x.pre e) r
theorem RVs.es (x : Es K ρ H ρ1 H1) {v : List Val} {y : List V} (r : RVs K ρ H v y) : RVs K ρ1 H1 v y := RVs.gen x.tup (fun _ _ e => pre_get x.pre e) r

inductive Src where
  | items (vs : List Val)
  | live (n : Nat)
  | liveE (n : Nat)
def Src.at (s : Src) (i : Nat) (h : MH) : Option (Option Val) := match s with
  | .items vs => some vs[i]?
  | .live n => match h[n]? with
    | some (.lst vs) => some vs[i]?
    | some (.frz vs) => some vs[i]?
    | _ => none
  | .liveE n => match h[n]? with
    | some (.lst vs) => some (vs[i]?.map fun v => .tup [.int (i : Nat), v])
    | some (.frz vs) => some (vs[i]?.map fun v => .tup [.int (i : Nat), v])
    | _ => none
def Src.size (s : Src) (h : MH) : Nat := match s with
  | .items vs => vs.length
  | .live n => match h[n]? with
    | some (.lst vs) => vs.length
    | some (.frz vs) => vs.length
    | _ => 0
  | .liveE n => match h[n]? with
    | some (.lst vs) => vs.length
    | some (.frz vs) => vs.length
    | _ => 0
structure RSrc (K : PySem.W.Frag) (pin : List (Addr × HO)) (ρ : List Addr) (H : Hp) (src : Src) (J : It) : Prop where
  go : ∀ (ρ' : List Addr) (H' : Hp) (h' : MH) (i : Nat) (v : Val), Es K ρ H ρ' H' → (∀ p ∈ pin, H' p.1 = some p.2) → RS K ρ' H' h' → src.at i h' = some (some v) →
    J.go i H' ∧ ∀ x H2, J.yld i H' x H2 → Ex ρ' H' ρ' H2 ∧ RS K ρ' H2 h' ∧ RV K ρ' H2 v x
  stop : ∀ (ρ' : List Addr) (H' : Hp) (h' : MH) (i : Nat), Es K ρ H ρ' H' → (∀ p ∈ pin, H' p.1 = some p.2) → RS K ρ' H' h' → src.at i h' = some none → J.stop i H'
  pin0 : ∀ p ∈ pin, H p.1 = some p.2 ∧ p.1 ∉ ρ
def RIt (K : PySem.W.Frag) : Rel Src It := fun Hs ρ H src J => ∃ pin, RSrc K pin ρ H src J ∧ ∀ p ∈ pin, Hs p.1 = none
def RItV (K : PySem.W.Frag) : Rel Src It := fun _ ρ H src J => ∃ pin, RSrc K pin ρ H src J
theorem mon_it : RMon (RIt K) := fun _ _ _ _ _ _ _ _ _ f ⟨p, r, z⟩ => ⟨p, r, fun q hq => f _ (z q hq)⟩
theorem mon_itV : RMon (RItV K) := fun _ _ _ _ _ _ _ _ _ _ r => r
theorem src_tup {a : Addr} {vs : List Val} {xs : List V} (q : H a = some (.tup xs)) (r : RVs K ρ H vs xs) : RSrc K [] ρ H (.items vs) (Itt K a) where
  go := fun ρ' H' h' i v x _ S e => by
    have e : vs[i]? = some v := Option.some.inj e
    obtain ⟨y, ey, ry⟩ := r.getV e
    refine ⟨⟨xs, y, SqT.of (x.tup _ _ q), ey⟩, fun z H2 ⟨e2, hz⟩ => ?_⟩
    subst e2
    have := (hz xs (SqT.of (x.tup _ _ q))).symm.trans ey
    cases this
    exact ⟨.refl, S, ry.es x⟩
  stop := fun ρ' H' h' i x _ S e => by
    have e : vs[i]? = none := Option.some.inj e
    exact ⟨xs, SqT.of (x.tup _ _ q), by rw [← r.length]; exact List.getElem?_eq_none_iff.mp e⟩
  pin0 := fun _ h => nomatch h
theorem src_lst {a : Addr} {vs : List Val} {xs : List V} (q : H a = some (.lst xs)) (n : a ∉ ρ) (r : RVs K ρ H vs xs) : RSrc K [(a, .lst xs)] ρ H (.items vs) (Itl K a) where
  go := fun ρ' H' h' i v x p S e => by
    have e : vs[i]? = some v := Option.some.inj e
    have q' : H' a = some (.lst xs) := p (a, .lst xs) (List.mem_singleton.mpr rfl)
    obtain ⟨y, ey, ry⟩ := r.getV e
    refine ⟨⟨xs, y, SqL.of q', ey⟩, fun z H2 ⟨e2, hz⟩ => ?_⟩
    subst e2
    have := (hz xs (SqL.of q')).symm.trans ey
    cases this
    exact ⟨.refl, S, ry.es x⟩
  stop := fun ρ' H' h' i x p S e => by
    have e : vs[i]? = none := Option.some.inj e
    have q' : H' a = some (.lst xs) := p (a, .lst xs) (List.mem_singleton.mpr rfl)
    exact ⟨xs, SqL.of q', by rw [← r.length]; exact List.getElem?_eq_none_iff.mp e⟩
  pin0 := fun p hp => by rw [List.mem_singleton.mp hp]; exact ⟨q, n⟩
theorem src_kls {a : Addr} {is : List Int} (q : KL K a is) : RSrc K [] ρ H (.items (is.map .int)) (Itl K a) where
  go := fun ρ' H' h' i v x _ S e => by
    have e : (is.map Val.int)[i]? = some v := Option.some.inj e
    obtain ⟨y, ey, ry⟩ := (RVs.of_ints (K := K) (ρ := ρ') (H := H') is).getV e
    refine ⟨⟨_, y, .inr q, ey⟩, fun z H2 ⟨e2, hz⟩ => ?_⟩
    subst e2
    have := (hz _ (.inr q)).symm.trans ey
    cases this
    exact ⟨.refl, S, ry⟩
  stop := fun ρ' H' h' i x _ S e => by
    have e : (is.map Val.int)[i]? = none := Option.some.inj e
    refine ⟨_, .inr q, ?_⟩
    have := List.getElem?_eq_none_iff.mp e
    rw [List.length_map] at this ⊢
    exact this
  pin0 := fun _ h => nomatch h
theorem src_live {n : Nat} {a : Addr} (e : ρ[n]? = some a) : RSrc K [] ρ H (.live n) (Itl K a) where
  go := fun ρ' H' h' i v x _ S e2 => by
    have ea := pre_get x.pre e
    unfold Src.at at e2
    simp only at e2
    split at e2
    · rename_i vs eh
      obtain ⟨xs, q, r⟩ := S.cell n _ a eh ea
      obtain ⟨y, ey, ry⟩ := r.getV (Option.some.inj e2)
      refine ⟨⟨xs, y, SqL.of q, ey⟩, fun z H2 ⟨e3, hz⟩ => ?_⟩
      subst e3
      have := (hz xs (SqL.of q)).symm.trans ey
      cases this
      exact ⟨.refl, S, ry⟩
    · rename_i vs eh
      obtain ⟨o, xs, q, r⟩ := S.cell n _ a eh ea
      obtain ⟨y, ey, ry⟩ := r.getV (Option.some.inj e2)
      refine ⟨⟨xs, y, .inl (.inr ⟨o, q⟩), ey⟩, fun z H2 ⟨e3, hz⟩ => ?_⟩
      subst e3
      have := (hz xs (.inl (.inr ⟨o, q⟩))).symm.trans ey
      cases this
      exact ⟨.refl, S, ry⟩
    · cases e2
  stop := fun ρ' H' h' i x _ S e2 => by
    have ea := pre_get x.pre e
    unfold Src.at at e2
    simp only at e2
    split at e2
    · rename_i vs eh
      obtain ⟨xs, q, r⟩ := S.cell n _ a eh ea
      exact ⟨xs, SqL.of q, by rw [← r.length]; exact List.getElem?_eq_none_iff.mp (Option.some.inj e2)⟩
    · rename_i vs eh
      obtain ⟨o, xs, q, r⟩ := S.cell n _ a eh ea
      exact ⟨xs, .inl (.inr ⟨o, q⟩), by rw [← r.length]; exact List.getElem?_eq_none_iff.mp (Option.some.inj e2)⟩
    · cases e2
  pin0 := fun _ h => nomatch h
def chars (s : Str) : List Val := s.cps.toList.map fun k => .str ⟨#[k]⟩
theorem src_str (s : Str) : RSrc K [] ρ H (.items (chars s)) (Its s) where
  go := fun ρ' H' h' i v x _ S e => by
    have e : (chars s)[i]? = some v := Option.some.inj e
    unfold chars at e
    rw [List.getElem?_map, Array.getElem?_toList] at e
    cases q : s.cps[i]? with
    | none => rw [q] at e; cases e
    | some k =>
      rw [q] at e
      cases Option.some.inj e
      refine ⟨(Array.getElem?_eq_some_iff.mp q).1, fun z H2 ⟨e2, c', e3, e4⟩ => ?_⟩
      subst e2
      rw [q] at e3
      cases e3
      subst e4
      exact ⟨.refl, S, .str _⟩
  stop := fun ρ' H' h' i x _ S e => by
    have e : (chars s)[i]? = none := Option.some.inj e
    have := List.getElem?_eq_none_iff.mp e
    unfold chars at this
    show s.cps.size ≤ i
    simpa using this
  pin0 := fun _ h => nomatch h
def rngV (lo : Int) (n : Nat) : List Val := (List.range n).map fun i => .int (lo + (i : Nat))
theorem rngV_get (lo : Int) (n i : Nat) : (rngV lo n)[i]? = if i < n then some (.int (lo + (i : Nat))) else none := by
  unfold rngV
  rw [List.getElem?_map]
  by_cases h : i < n
  · rw [if_pos h, List.getElem?_range h]; rfl
  · rw [if_neg h, List.getElem?_eq_none (by simpa using h)]; rfl
theorem src_rng (lo : Int) (n : Nat) : RSrc K [] ρ H (.items (rngV lo n)) (Itr lo n) where
  go := fun ρ' H' h' i v x _ S e => by
    have e : (rngV lo n)[i]? = some v := Option.some.inj e
    rw [rngV_get] at e
    split at e
    · rename_i hl
      cases e
      refine ⟨hl, fun z H2 ⟨e2, e3⟩ => ?_⟩
      subst e2; subst e3
      exact ⟨.refl, S, .int _⟩
    · cases e
  stop := fun ρ' H' h' i x _ S e => by
    have e : (rngV lo n)[i]? = none := Option.some.inj e
    rw [rngV_get] at e
    split at e
    · cases e
    · rename_i hl; exact Nat.le_of_not_lt hl
  pin0 := fun _ h => nomatch h
def intsC (lo k : Int) (n : Nat) : List Val := (List.range n).map fun i => .int (lo + (i : Nat) * k)
theorem src_rngC (lo k : Int) (n : Nat) : RSrc K [] ρ H (.items (intsC lo k n)) (Itc lo k n) where
  go := fun ρ' H' h' i v x _ S e => by
    have e : (intsC lo k n)[i]? = some v := Option.some.inj e
    unfold intsC at e
    rw [List.getElem?_map] at e
    by_cases hl : i < n
    · rw [List.getElem?_range hl] at e
      cases Option.some.inj e
      refine ⟨hl, fun z H2 ⟨e2, e3⟩ => ?_⟩
      subst e2; subst e3
      exact ⟨.refl, S, .int _⟩
    · rw [List.getElem?_eq_none (by simpa using hl)] at e; cases e
  stop := fun ρ' H' h' i x _ S e => by
    have e : (intsC lo k n)[i]? = none := Option.some.inj e
    have := List.getElem?_eq_none_iff.mp e
    unfold intsC at this
    show n ≤ i
    simpa using this
  pin0 := fun _ h => nomatch h
end

section
variable {X : Cx} {c : Ctx} {W : WX} {tg iter : Expr}
def It_ (X : Cx) (c : Ctx) (W : WX) (tg iter : Expr) (m : EM Src) : Prop := PI X tg iter (rd X.K c W (RIt X.K) m)
def ItV (X : Cx) (c : Ctx) (W : WX) (tg iter : Expr) (m : EM Src) : Prop := PI X tg iter (rd X.K c W (RItV X.K) m)
theorem PI.imp {t t' : TI} (p : PI X tg iter t) (h : ∀ σ H R, t' σ H R → t σ H R) : PI X tg iter t' := ⟨fun pins s σ H R I q => p.run pins s σ H R I (h σ H R q)⟩
theorem itV_of {m : EM Src} (p : It_ X c W tg iter m) : ItV X c W tg iter m := PI.imp p fun σ H R ⟨ρ, env, h, S, F⟩ => by
  refine ⟨ρ, env, h, S, ?_⟩
  cases q : m env h with
  | ok s h1 => rw [q] at F; exact fun ρ' J H' x s r => by obtain ⟨p, r, _⟩ := r; exact F ρ' J H' x s ⟨p, r⟩
  | exc e h1 => rw [q] at F; exact F
  | stuck => rw [q] at F; exact F
def iAny (K : PySem.W.Frag) (te : TE) : TI := fun σ H R => te σ H fun x H1 => (∃ a xs, x = .ref a ∧ SqL K H1 a xs ∧ R (Itl K a) H1) ∨ (∃ a xs, x = .ref a ∧ SqT K H1 a xs ∧ R (Itt K a) H1) ∨ ∃ s, x = .str s ∧ R (Its s) H1
theorem pi_any {te : TE} (he : PE X iter te) : PI X tg iter (iAny X.K te) := by
  refine ⟨fun pins s σ H R I h => ?_⟩
  refine thn (he.run pins s σ H _ I h) fun v s1 ⟨x, H1, I1, r1, q1⟩ => ?_
  rcases q1 with ⟨a, xs, e, hq, q⟩ | ⟨a, xs, e, hq, q⟩ | ⟨z, e, q⟩
  · subst e
    cases r1
    obtain ⟨its, rv, p, hz⟩ := I1.list hq
    refine wpAny_pyIter_list p.isList ?_
    refine ⟨s1.heap.objs.size, [s1.heap.objs.size], _, _, H1, rfl, I1.kept (t' := s1.toks) fun b o e => Heap.get?_push_of_some _ e, turn_list a _, ⟨_, Heap.get?_push_size _ rfl, rfl, rfl⟩, fun b hb => ?_, q⟩
    have e : b = s1.heap.objs.size := by simpa using hb
    subst e
    exact I1.fpOk (Nat.le_refl _) (I1.hok.fresh (Nat.le_refl _))
  · subst e
    cases r1
    obtain ⟨its, rv, p, hz⟩ := I1.tuple hq
    refine wpAny_pyIter_tuple (show s1.heap.IsTuple a its.toArray from p) ?_
    refine ⟨s1.heap.objs.size, [s1.heap.objs.size], _, _, H1, rfl, I1.kept (t' := s1.toks) fun b o e => Heap.get?_push_of_some _ e, turn_tuple a _, ⟨_, Heap.get?_push_size _ rfl, rfl, rfl⟩, fun b hb => ?_, q⟩
    have e : b = s1.heap.objs.size := by simpa using hb
    subst e
    exact I1.fpOk (Nat.le_refl _) (I1.hok.fresh (Nat.le_refl _))
  · subst e
    obtain ⟨t, rfl⟩ := r1
    cases ha : z.cps.all (· < 128)
    · exact wpAny_pyIter_wide ha (pi_one (tk := s1.toks) I1 _ (turn_str _ z t "str_iterator" (.inr rfl)) ⟨_, Heap.get?_push_size _ rfl, rfl, rfl⟩ q)
    · exact wpAny_pyIter_ascii ha (pi_one (tk := s1.toks) I1 _ (turn_str _ z t "str_ascii_iterator" (.inl rfl)) ⟨_, Heap.get?_push_size _ rfl, rfl, rfl⟩ q)
def srcOf (o : Opd) (h : MH) : Option Src := match o with
  | .val (.tup vs) => some (.items vs)
  | .val (.str s) => some (.items (chars s))
  | .val (.kls is) => some (.items (is.map .int))
  | .val (.ref n) => match h[n]? with
    | some (.lst _) => some (.live n)
    | some (.frz _) => some (.live n)
    | _ => none
  | .cell (.lst vs) => some (.items vs)
  | _ => none
def xSrc (m : EM Opd) : EM Src := fun env h => (m env h).bind fun o h1 => match srcOf o h1 with
  | some s => .ok s h1
  | none => .stuck
theorem srcOf_ok {K : PySem.W.Frag} {ρ : List Addr} {H Hs : Hp} {h : MH} {o : Opd} {x : V} {s : Src} (S : RS K ρ H h) (r : ROpd K Hs ρ H o x) (e : srcOf o h = some s) :
    ∃ (J : It) (pin : List (Addr × HO)), RSrc K pin ρ H s J ∧ (∀ v, o = .val v → pin = []) ∧ (∀ p ∈ pin, x = .ref p.1) ∧ ∀ (R : It → Hp → Prop), R J H → (∃ a xs, x = .ref a ∧ SqL K H a xs ∧ R (Itl K a) H) ∨ (∃ a xs, x = .ref a ∧ SqT K H a xs ∧ R (Itt K a) H) ∨ ∃ s, x = .str s ∧ R (Its s) H := by
  cases o with
  | val v =>
    have r : RV K ρ H v x := r
    cases r with
    | tup q r2 =>
      cases Option.some.inj e
      exact ⟨_, [], src_tup q r2, (fun _ _ => rfl), (fun _ h => nomatch h), fun R hr => .inr (.inl ⟨_, _, rfl, SqT.of q, hr⟩)⟩
    | @kls is a q =>
      cases Option.some.inj e
      exact ⟨_, [], src_kls q, (fun _ _ => rfl), (fun _ h => nomatch h), fun R hr => .inl ⟨_, _, rfl, .inr q, hr⟩⟩
    | str z =>
      cases Option.some.inj e
      exact ⟨_, [], src_str z, (fun _ _ => rfl), (fun _ h => nomatch h), fun R hr => .inr (.inr ⟨_, rfl, hr⟩)⟩
    | @ref n a en =>
      unfold srcOf at e
      simp only at e
      split at e
      · rename_i vs eh
        cases Option.some.inj e
        obtain ⟨xs, q, r⟩ := S.cell n _ a eh en
        exact ⟨_, [], src_live en, (fun _ _ => rfl), (fun _ h => nomatch h), fun R hr => .inl ⟨_, _, rfl, SqL.of q, hr⟩⟩
      · rename_i vs eh
        cases Option.some.inj e
        obtain ⟨ob, xs, q, r⟩ := S.cell n _ a eh en
        exact ⟨_, [], src_live en, (fun _ _ => rfl), (fun _ h => nomatch h), fun R hr => .inl ⟨_, _, rfl, .inl (.inr ⟨ob, q⟩), hr⟩⟩
      · cases e
    | _ => cases e
  | cell k =>
    obtain ⟨a, rfl, n, q⟩ := r
    cases k with
    | lst vs =>
      cases Option.some.inj e
      obtain ⟨xs, q, r⟩ := q
      exact ⟨_, [(a, .lst xs)], src_lst q n r, (fun _ h => nomatch h), (fun p hp => by rw [List.mem_singleton.mp hp]), fun R hr => .inl ⟨_, _, rfl, SqL.of q, hr⟩⟩
    | _ => cases e
theorem rd_srcV {m : EM Opd} {σ : St} {H : Hp} {R : It → Hp → Prop} (q : rd X.K c W (RItV X.K) (xSrc m) σ H R) : iAny X.K (rd X.K c W (ROpd X.K) m) σ H R := by
  obtain ⟨ρ, env, h, S, F⟩ := q
  refine ⟨ρ, env, h, S, ?_⟩
  refine (Fin.bind (R := ROpd X.K) mon_itV F).mono fun x H1 ⟨o, h1, ρ1, e1, s1, r1, F1⟩ => ?_
  cases q : srcOf o h1 with
  | none => rw [q] at F1; exact F1.elim
  | some s =>
    rw [q] at F1
    obtain ⟨J, pin, hs, _, _, k⟩ := srcOf_ok s1 r1 q
    exact k R (F1 ρ1 J H1 .refl s1 ⟨pin, hs⟩)
theorem iv_o {m : EM Opd} (h : EO X c W iter m) : ItV X c W tg iter (xSrc m) := PI.imp (pi_any h) fun σ H R q => rd_srcV q
theorem it_v {m : EM Val} (h : E X c W iter m) : It_ X c W tg iter (xSrc (xV m)) := PI.imp (pi_any h) fun σ H R ⟨ρ, env, h, S, F⟩ => by
  refine ⟨ρ, env, h, S, ?_⟩
  have F : Fin X.K W σ (RIt X.K) ρ H R (((m env h).bind fun a h1 => .ok (.val a) h1).bind fun o h1 => match srcOf o h1 with
    | some s => .ok s h1
    | none => .stuck) := F
  cases e : m env h with
  | exc e' h1 => rw [e] at F; exact F
  | stuck => rw [e] at F; exact F
  | ok v h1 =>
    rw [e] at F
    intro ρ1 x H1 e1 s1 r1
    have F : Fin X.K W σ (RIt X.K) ρ H R (match srcOf (.val v) h1 with
      | some s => .ok s h1
      | none => .stuck) := F
    cases q : srcOf (.val v) h1 with
    | none => rw [q] at F; exact F.elim
    | some s =>
      rw [q] at F
      obtain ⟨J, pin, hs, hp, _, k⟩ := srcOf_ok (Hs := H) s1 (o := .val v) r1 q
      have hp := hp v rfl
      subst hp
      exact k R (F ρ1 J H1 e1 s1 ⟨[], hs, fun _ h => nomatch h⟩)
theorem it_n {m : EM Cell} (h : EC X c W iter m) : It_ X c W tg iter (xSrc (xN m)) := PI.imp (pi_any h) fun σ H R ⟨ρ, env, h, S, F⟩ => by
  refine ⟨ρ, env, h, S, ?_⟩
  have F : Fin X.K W σ (RIt X.K) ρ H R (((m env h).bind fun a h1 => .ok (.cell a) h1).bind fun o h1 => match srcOf o h1 with
    | some s => .ok s h1
    | none => .stuck) := F
  cases e : m env h with
  | exc e' h1 => rw [e] at F; exact F
  | stuck => rw [e] at F; exact F
  | ok v h1 =>
    rw [e] at F
    rintro ρ1 x H1 e1 s1 ⟨a, rfl, z, n, r⟩
    have F : Fin X.K W σ (RIt X.K) ρ H R (match srcOf (.cell v) h1 with
      | some s => .ok s h1
      | none => .stuck) := F
    cases q : srcOf (.cell v) h1 with
    | none => rw [q] at F; exact F.elim
    | some s =>
      rw [q] at F
      obtain ⟨J, pin, hs, _, hp, k⟩ := srcOf_ok (Hs := H) s1 (o := .cell v) ⟨a, rfl, n, r⟩ q
      exact k R (F ρ1 J H1 e1 s1 ⟨pin, hs, fun p hp' => by cases hp p hp'; exact z⟩)
theorem ro_int {K : PySem.W.Frag} {ρ : List Addr} {H : Hp} {i : Int} {os : List Opd} {xs : List V} (r : ROs K ρ H (.val (.int i) :: os) xs) : ∃ ys, xs = .int i :: ys ∧ ROs K ρ H os ys := by
  cases r with
  | cons a b =>
    have a : RV K ρ H (.int i) _ := a
    cases a
    exact ⟨_, rfl, b⟩
theorem ro_nil {K : PySem.W.Frag} {ρ : List Addr} {H : Hp} {xs : List V} (r : ROs K ρ H [] xs) : xs = [] := by cases r; rfl
def xRng1 (m : EM (List Opd)) : EM Src := fun env h => (m env h).bind fun as h1 => match as with
  | [.val (.int j)] => if -(2 ^ 62) ≤ j ∧ j < 2 ^ 62 then .ok (.items (rngV 0 j.toNat)) h1 else .stuck
  | _ => .stuck
def xRng2 (m : EM (List Opd)) : EM Src := fun env h => (m env h).bind fun as h1 => match as with
  | [.val (.int i), .val (.int j)] => if -(2 ^ 62) ≤ i ∧ i < 2 ^ 62 ∧ -(2 ^ 62) ≤ j ∧ j < 2 ^ 62 then .ok (.items (rngV i (j - i).toNat)) h1 else .stuck
  | _ => .stuck
def xRng3 (m : EM (List Opd)) : EM Src := fun env h => (m env h).bind fun as h1 => match as with
  | [.val (.int i), .val (.int j), .val (.int k)] => if k ≠ 0 ∧ k.natAbs < 1073741824 ∧ Builtin.Range.small i j k = true ∧ 0 ≤ Builtin.Range.rangeSize i j k then .ok (.items (intsC i k (Builtin.Range.rangeSize i j k).toNat)) h1 else .stuck
  | _ => .stuck
theorem it_range1 {a : Expr} {m : EM (List Opd)} {p pos : Pos} (hm : X.mg "range" = none) (ha : AO X c W [a] m) (hg : Gl X "range" := by rfl) (hs : starEach [a] X.env = [(false, eval a X.env)] := by rfl) :
    It_ X c W tg (.Call (.Name "range" p) [a] [] pos) (xRng1 m) := PI.imp (pi_range1 hg hm ha hs) fun σ H R ⟨ρ, env, h, S, F⟩ => by
  refine ⟨ρ, env, h, S, ?_⟩
  refine (Fin.bind (R := RArgs X.K) mon_it F).mono fun xs H1 ⟨as, h1, ρ1, e1, s1, r1, F1⟩ => ?_
  have r1 : ROs X.K ρ1 H1 as xs := r1
  split at F1
  · obtain ⟨ys, rfl, r2⟩ := ro_int r1
    cases ro_nil r2
    split at F1
    · rename_i hb
      exact ⟨_, rfl, hb.1, hb.2, F1 ρ1 _ H1 .refl s1 ⟨[], src_rng 0 _, fun _ h => nomatch h⟩⟩
    · exact F1.elim
  · exact F1.elim
theorem it_range2 {a b : Expr} {m : EM (List Opd)} {p pos : Pos} (hm : X.mg "range" = none) (ha : AO X c W [a, b] m) (hg : Gl X "range" := by rfl) (hs : starEach [a, b] X.env = [(false, eval a X.env), (false, eval b X.env)] := by rfl) (hs2 : starEach [b] X.env = [(false, eval b X.env)] := by rfl) :
    It_ X c W tg (.Call (.Name "range" p) [a, b] [] pos) (xRng2 m) := PI.imp (pi_range2 hg hm ha hs hs2) fun σ H R ⟨ρ, env, h, S, F⟩ => by
  refine ⟨ρ, env, h, S, ?_⟩
  refine (Fin.bind (R := RArgs X.K) mon_it F).mono fun xs H1 ⟨as, h1, ρ1, e1, s1, r1, F1⟩ => ?_
  have r1 : ROs X.K ρ1 H1 as xs := r1
  split at F1
  · obtain ⟨ys, rfl, r2⟩ := ro_int r1
    obtain ⟨zs, rfl, r3⟩ := ro_int r2
    cases ro_nil r3
    split at F1
    · rename_i hb
      exact ⟨_, _, rfl, hb, F1 ρ1 _ H1 .refl s1 ⟨[], src_rng _ _, fun _ h => nomatch h⟩⟩
    · exact F1.elim
  · exact F1.elim
theorem it_range3 {a b d : Expr} {m : EM (List Opd)} {p pos : Pos} (hm : X.mg "range" = none) (ha : AO X c W [a, b, d] m) (hg : Gl X "range" := by rfl) (hs : starEach [a, b, d] X.env = (false, eval a X.env) :: starEach [b, d] X.env := by rfl)
    (hp : (backTo pos (starEach [b, d] X.env)).any (·.1) = false := by rfl) :
    It_ X c W tg (.Call (.Name "range" p) [a, b, d] [] pos) (xRng3 m) := PI.imp (pi_range3 hg hm ha hs hp) fun σ H R ⟨ρ, env, h, S, F⟩ => by
  refine ⟨ρ, env, h, S, ?_⟩
  refine (Fin.bind (R := RArgs X.K) mon_it F).mono fun xs H1 ⟨as, h1, ρ1, e1, s1, r1, F1⟩ => ?_
  have r1 : ROs X.K ρ1 H1 as xs := r1
  split at F1
  · obtain ⟨ys, rfl, r2⟩ := ro_int r1
    obtain ⟨zs, rfl, r3⟩ := ro_int r2
    obtain ⟨us, rfl, r4⟩ := ro_int r3
    cases ro_nil r4
    split at F1
    · rename_i hb
      exact ⟨_, _, _, _, rfl, ⟨hb.1, hb.2.1, hb.2.2.1, (Int.toNat_of_nonneg hb.2.2.2).symm⟩, F1 ρ1 _ H1 .refl s1 ⟨[], src_rngC _ _ _, fun _ h => nomatch h⟩⟩
    · exact F1.elim
  · exact F1.elim

abbrev Tgt := Val → ME → Option ME
structure GOk (X : Cx) (tg : Expr) (g0 : TG) (sl : List Nat) (g : Tgt) : Prop where
  pg : PG X tg g0
  sem : ∀ (c : Ctx) (ρ : List Addr) (H : Hp) (h : MH) (env : ME) (σ : St) (v : Val) (x : V) (env' : ME) (Q : St → Hp → Prop), ST X.K c ρ H h env σ → RV X.K ρ H v x → g v env = some env' →
    (∀ σ', ST X.K c ρ H h env' σ' → (∀ vs : List Nat, (∀ i ∈ sl, i ∈ vs) → wipe σ' vs = wipe σ vs) → Q σ' H) → g0 x σ H Q
theorem wipe_set {vs : List Nat} {i : Nat} (hi : i ∈ vs) {σ : St} {o : Option V} : wipe (σ.set i o) vs = wipe σ vs := by
  induction vs generalizing σ with
  | nil => cases hi
  | cons v vs ih =>
    show (wipe (σ.set i o) vs).set v none = (wipe σ vs).set v none
    by_cases hm : i ∈ vs
    · rw [ih hm]
    · have e : i = v := by
        rcases List.mem_cons.mp hi with e | e
        · exact e
        · exact absurd e hm
      subst e
      clear ih hi
      have : ∀ (ws : List Nat) (τ : St), i ∉ ws → wipe (τ.set i o) ws = (wipe τ ws).set i o := by
        intro ws
        induction ws with
        | nil => intro τ _; rfl
        | cons u us ih =>
          intro τ hn
          show (wipe (τ.set i o) us).set u none = ((wipe τ us).set u none).set i o
          rw [ih τ (fun z => hn (List.mem_cons_of_mem _ z)), List.set_comm _ _ (fun z => hn (by rw [z]; exact List.mem_cons_self))]
      rw [this vs σ hm, List.set_set]
def tName (i : Nat) : Tgt := fun v env => some (env.set i (.val v))
theorem gt_name {i : Nat} {x : Str} {pos : Pos} (hN : X.N.Nodup) (hi : X.N[i]? = some x := by rfl) (hx : Loc X.env.scope x := by first | exact Or.inl rfl | exact Or.inr rfl) (hf : X.fn x = true ∨ X.env.scope.names.lookup x = some .local := by first | exact .inl rfl | exact .inr rfl | assumption) : GOk X (.Name x pos) (gName i) [i] (tName i) :=
  ⟨pg_name hN hi hx hf, fun c ρ H h env σ v x env' Q S r e k => by
    cases e
    exact k _ (S.put i ⟨x, rfl, r⟩ fun _ z => nomatch z) fun vs hvs => wipe_set (hvs i (List.mem_singleton.mpr rfl))⟩
abbrev Tgts := List Val → ME → Option ME
structure GOks (X : Cx) (ts : List Expr) (g0 : TGs) (sl : List Nat) (g : Tgts) : Prop where
  pg : PGs X ts g0
  sem : ∀ (c : Ctx) (ρ : List Addr) (H : Hp) (h : MH) (env : ME) (σ : St) (v : List Val) (x : List V) (env' : ME) (Q : St → Hp → Prop), ST X.K c ρ H h env σ → RVs X.K ρ H v x → g v env = some env' →
    (∀ σ', ST X.K c ρ H h env' σ' → (∀ vs : List Nat, (∀ i ∈ sl, i ∈ vs) → wipe σ' vs = wipe σ vs) → Q σ' H) → g0 x σ H Q
def tNil : Tgts := fun vs env => match vs with
  | [] => some env
  | _ => none
def tCons (g : Tgt) (gs : Tgts) : Tgts := fun vs env => match vs with
  | v :: r => (g v env).bind fun e => gs r e
  | [] => none
theorem gts_nil : GOks X [] gNil [] tNil := ⟨pgs_nil, fun c ρ H h env σ v x env' Q S r e k => by
  cases v with
  | cons _ _ => cases e
  | nil =>
    cases Option.some.inj e
    cases r
    exact ⟨rfl, k σ S fun _ _ => rfl⟩⟩
theorem gts_cons {e : Expr} {es : List Expr} {g0 : TG} {g2 : TGs} {s1 s2 : List Nat} {g : Tgt} {gs : Tgts} (h1 : GOk X e g0 s1 g) (h2 : GOks X es g2 s2 gs) (hs : (assignEach (e :: es) X.env).map (·.2) = assign e X.env :: (assignEach es X.env).map (·.2) := by rfl) :
    GOks X (e :: es) (gCons g0 g2) (s1 ++ s2) (tCons g gs) := by
  obtain ⟨p1, k1⟩ := h1
  obtain ⟨p2, k2⟩ := h2
  refine ⟨pgs_cons p1 p2 hs, fun c ρ H h env σ v x env' Q S r e k => ?_⟩
  cases v with
  | nil => cases e
  | cons v vs =>
    cases r with
    | cons r rs =>
      obtain ⟨e1, he, e2⟩ := Option.bind_eq_some_iff.mp e
      refine ⟨_, _, rfl, k1 c ρ H h env σ v _ e1 _ S r he fun σ1 S1 w1 => ?_⟩
      refine k2 c ρ H h e1 σ1 vs _ env' Q S1 rs e2 fun σ2 S2 w2 => ?_
      exact k σ2 S2 fun vs' hv => (w2 vs' fun i hi => hv i (List.mem_append_right _ hi)).trans (w1 vs' fun i hi => hv i (List.mem_append_left _ hi))
def tTup (n : Nat) (gs : Tgts) : Tgt := fun v env => match v with
  | .tup vs => if vs.length = n then gs vs env else none
  | _ => none
theorem gt_tup {es : List Expr} {k n : Nat} {pos : Pos} {g0 : TGs} {sl : List Nat} {gs : Tgts} (hc : X.calm = true) (h : GOks X es g0 sl gs) (hn : (assignEach es X.env).length = n := by rfl) (hst : (assignEach es X.env).findIdx? (·.1) = none := by rfl) :
    GOk X (.Tuple es k pos) (gTup X.K n g0) sl (tTup n gs) := by
  obtain ⟨p, q⟩ := h
  refine ⟨pg_tup hc p hn hst, fun c ρ H h env σ v x env' Q S r e k => ?_⟩
  unfold tTup at e
  split at e
  · rename_i vs
    split at e
    · rename_i hl
      cases r with
      | tup hq rs => exact ⟨_, _, rfl, SqT.of hq, by rw [← rs.length]; exact hl, q c ρ H h env σ vs _ env' Q S rs e k⟩
    · cases e
  · cases e

def wipeM (env : ME) : List Nat → ME
  | [] => env
  | v :: vs => (wipeM env vs).set v .no
theorem ST.wipe {K : PySem.W.Frag} {ρ : List Addr} {H : Hp} {h : MH} {env : ME} {σ : St} (S : ST K c ρ H h env σ) : ∀ vs : List Nat, ST K c ρ H h (wipeM env vs) (wipe σ vs)
  | [] => S
  | v :: vs => (ST.wipe S vs).put v (s := .no) (o := none) trivial fun _ z => nomatch z
def Out.bindN {α β : Type} : Out α → (α → MH → Out β) → Out β
  | .ok a h, f => f a h
  | _, _ => .stuck
@[simp] theorem Out.bindN_ok {α β : Type} (a : α) (h : MH) (f : α → MH → Out β) : Out.bindN (.ok a h) f = f a h := rfl
def loopC (s : Src) (tg : Tgt) (tt : EM Bool) (te : EM Val) (env0 : ME) : Nat → Nat → List Val → MH → Out (List Val)
  | 0, _, _, _ => .stuck
  | f + 1, i, acc, h => match s.at i h with
    | none => .stuck
    | some none => .ok acc h
    | some (some v) => match tg v env0 with
      | none => .stuck
      | some env1 => (tt env1 h).bindN fun b h1 => if b = true then (te env1 h1).bindN fun y h2 => if acc.length < 100000 then loopC s tg tt te env0 f (i + 1) (acc ++ [y]) h2 else .stuck else loopC s tg tt te env0 f (i + 1) acc h1
def xComp (src : EM Src) (tg : Tgt) (own : List Nat) (tt : EM Bool) (te : EM Val) : EM Cell := fun env h => (src env h).bind fun s h1 => (loopC s tg tt te (wipeM env own) (s.size h1 + 1) 0 [] h1).bindN fun vs h2 => .ok (.lst vs) h2
abbrev W0 : WX := fun _ _ _ _ => False
def TTs (X : Cx) (c : Ctx) (ifs : List Expr) (m : EM Bool) : Prop := PTs X ifs (rd X.K c W0 RBool m)
theorem PTs.imp {ifs : List Expr} {t t' : TT} (p : PTs X ifs t) (h : ∀ σ H Q, t' σ H Q → t σ H Q) : PTs X ifs t' := ⟨fun pins s σ H Q I q => p.run pins s σ H Q I (h σ H Q q)⟩
def tTrue : EM Bool := fun _ h => .ok true h
theorem tts_nil : TTs X c [] tTrue := PTs.imp pts_nil fun σ H Q ⟨ρ, _, _, S, F⟩ => F ρ true H .refl S.rs rfl
theorem tts_one {e : Expr} {m : EM Bool} (h : TB X c W0 e m) : TTs X c [e] m := pts_one h
theorem sqT_upd_lst {H : Hp} {D : Addr} {xs : List V} {o : HO} (e : H D = some (.lst xs)) : ∀ (b : Addr) (ys : List V), H b = some (.tup ys) → upd H D o b = some (.tup ys) := fun b ys q =>
  sqT_upd (fun zs q => by rcases q with q | ⟨_, q⟩ <;> (rw [e] at q; cases q)) q
theorem RS.upd_out {K : PySem.W.Frag} {ρ : List Addr} {H : Hp} {h : MH} (S : RS K ρ H h) {D : Addr} {xs : List V} {o : HO} (e : H D = some (.lst xs)) (n : D ∉ ρ) : RS K ρ (upd H D o) h :=
  ⟨S.len, S.nd, fun m c a e1 e2 => (S.cell m c a e1 e2).gen (sqT_upd_lst e) (fun _ _ z => z) (upd_ne fun z => n (z ▸ List.mem_of_getElem? e2))⟩
theorem size_line {n : Nat} (h : n < 100000) : n < sizeLine := by rw [sizeLine_eq]; omega
theorem lc_turns {s : Src} {J : It} {pin : List (Addr × HO)} {g : Tgt} {g0 : TG} {own : List Nat} {tt : EM Bool} {te : EM Val} {K : PySem.W.Frag} {ρ ρ1 : List Addr} {H H1 : Hp} {h1 : MH} {env : ME} {σ : St} {Q : VK} {D : Addr}
    (sem : ∀ (c : Ctx) (ρ : List Addr) (H : Hp) (h : MH) (env : ME) (σ : St) (v : Val) (x : V) (env' : ME) (Q : St → Hp → Prop), ST K c ρ H h env σ → RV K ρ H v x → g v env = some env' → (∀ σ', ST K c ρ H h env' σ' → wipe σ' own = wipe σ own → Q σ' H) → g0 x σ H Q)
    (S : ST K c ρ1 H1 h1 env σ) (ex : Ex ρ H ρ1 H1) (hs : RSrc K pin ρ1 H1 s J) (hD : H1 D = none)
    (fuel : Nat) (F : ∀ vs h2, loopC s g tt te (wipeM env own) fuel 0 [] h1 = .ok vs h2 → ∀ ρ2 H2, Ex ρ H ρ2 H2 → RS K ρ2 H2 h2 → RNew K H ρ2 H2 (.lst vs) (.ref D) → Q (.ref D) H2) (ns : ∃ vs h2, loopC s g tt te (wipeM env own) fuel 0 [] h1 = .ok vs h2) :
    ∃ W : Nat → Nat → Hp → Prop, (∃ m, W 0 m (upd H1 D (.lst []))) ∧ ∀ i m H, W i m H →
      (J.stop i H ∧ Q (.ref D) H) ∨ (J.go i H ∧ ∃ Nx : Hp → Prop, (∀ H', Nx H' → ∃ m', m' < m ∧ W (i + 1) m' H') ∧ ∀ x H', J.yld i H x H' → g0 x (wipe σ own) H' fun σ2 H2 => wipe σ2 own = wipe σ own ∧ rd K c W0 RBool tt σ2 H2 fun b H3 =>
        if b = true then rd K c W0 (RVal K) te σ2 H3 fun y H4 => ∃ acc, H4 D = some (.lst acc) ∧ acc.length < sizeLine ∧ Nx (upd H4 D (.lst (acc ++ [y]))) else Nx H3) := by
  have zD : H D = none := ex.fresh S.rs hD
  refine ⟨fun i m Hh => ∃ (ρ' : List Addr) (h' : MH) (acc : List Val) (xs : List V), Ex ρ1 H1 ρ' Hh ∧ RS K ρ' Hh h' ∧ Hh D = some (.lst xs) ∧ D ∉ ρ' ∧ RVs K ρ' Hh acc xs ∧
    (∃ vs h2, loopC s g tt te (wipeM env own) m i acc h' = .ok vs h2) ∧ ∀ vs h2, loopC s g tt te (wipeM env own) m i acc h' = .ok vs h2 → ∀ ρ2 H2, Ex ρ H ρ2 H2 → RS K ρ2 H2 h2 → RNew K H ρ2 H2 (.lst vs) (.ref D) → Q (.ref D) H2,
    ⟨fuel, ρ1, h1, [], [], .new1 hD, S.rs.new1 hD, upd_same, S.rs.notNone hD, .nil, ns, F⟩, ?_⟩
  rintro i m Hh ⟨ρ', h', acc, xs, e', s', eD, nD, racc, ⟨vs, h2, he⟩, F'⟩
  have es' : Es K ρ1 H1 ρ' Hh := e'.es S.rs
  have pins : ∀ p ∈ pin, Hh p.1 = some p.2 := fun p hp => e'.keep _ _ (hs.pin0 p hp).1 (hs.pin0 p hp).2
  cases m with
  | zero => cases he
  | succ f =>
    have he0 := he
    unfold loopC at he
    cases ea : s.at i h' with
    | none => rw [ea] at he; cases he
    | some ov =>
      rw [ea] at he
      cases ov with
      | none =>
        refine .inl ⟨hs.stop ρ' Hh h' i es' pins s' ea, ?_⟩
        cases he
        exact F' _ _ he0 ρ' Hh (ex.trans e') s' ⟨D, rfl, zD, nD, xs, eD, racc⟩
      | some v =>
        obtain ⟨jg, jy⟩ := hs.go ρ' Hh h' i v es' pins s' ea
        refine .inr ⟨jg, fun Hn => ∃ (ρ' : List Addr) (h' : MH) (acc : List Val) (xs : List V), Ex ρ1 H1 ρ' Hn ∧ RS K ρ' Hn h' ∧ Hn D = some (.lst xs) ∧ D ∉ ρ' ∧ RVs K ρ' Hn acc xs ∧
          (∃ vs h2, loopC s g tt te (wipeM env own) f (i + 1) acc h' = .ok vs h2) ∧ ∀ vs h2, loopC s g tt te (wipeM env own) f (i + 1) acc h' = .ok vs h2 → ∀ ρ2 H2, Ex ρ H ρ2 H2 → RS K ρ2 H2 h2 → RNew K H ρ2 H2 (.lst vs) (.ref D) → Q (.ref D) H2,
          fun H' n => ⟨f, Nat.lt_succ_self f, n⟩, fun x H2 y => ?_⟩
        obtain ⟨ey, sy, ry⟩ := jy x H2 y
        have he : (match g v (wipeM env own) with
          | none => Out.stuck
          | some env1 => (tt env1 h').bindN fun b h1 => if b = true then (te env1 h1).bindN fun y h2 => if acc.length < 100000 then loopC s g tt te (wipeM env own) f (i + 1) (acc ++ [y]) h2 else .stuck else loopC s g tt te (wipeM env own) f (i + 1) acc h1) = .ok vs h2 := he
        have e2 := e'.trans ey
        have S2 : ST K c ρ' H2 h' (wipeM env own) (wipe σ own) := (S.step e2 sy).wipe own
        cases eg : g v (wipeM env own) with
        | none => rw [eg] at he; cases he
        | some env1 =>
          have eq0 : loopC s g tt te (wipeM env own) (f + 1) i acc h' = (tt env1 h').bindN fun b h1 => if b = true then (te env1 h1).bindN fun y h2 => if acc.length < 100000 then loopC s g tt te (wipeM env own) f (i + 1) (acc ++ [y]) h2 else .stuck else loopC s g tt te (wipeM env own) f (i + 1) acc h1 := by
            show (match s.at i h' with
              | none => Out.stuck
              | some none => .ok acc h'
              | some (some v) => match g v (wipeM env own) with
                | none => Out.stuck
                | some env1 => (tt env1 h').bindN fun b h1 => if b = true then (te env1 h1).bindN fun y h2 => if acc.length < 100000 then loopC s g tt te (wipeM env own) f (i + 1) (acc ++ [y]) h2 else .stuck else loopC s g tt te (wipeM env own) f (i + 1) acc h1) = _
            rw [ea]
            show (match g v (wipeM env own) with
                | none => Out.stuck
                | some env1 => (tt env1 h').bindN fun b h1 => if b = true then (te env1 h1).bindN fun y h2 => if acc.length < 100000 then loopC s g tt te (wipeM env own) f (i + 1) (acc ++ [y]) h2 else .stuck else loopC s g tt te (wipeM env own) f (i + 1) acc h1) = _
            rw [eg]
          rw [eq0] at F' he0
          have eD2 : H2 D = some (.lst xs) := ey.keep _ _ eD nD
          refine sem c ρ' H2 h' (wipeM env own) (wipe σ own) v x env1 _ S2 ry eg fun σ2 S3 w2 => ⟨?_, ρ', env1, h', S3, ?_⟩
          · rw [w2]
            -- wiping twice
            have ww : ∀ (vs : List Nat) (τ : St), wipe (wipe τ vs) vs = wipe τ vs := by
              intro vs τ
              have : ∀ (us : List Nat), (∀ i ∈ us, i ∈ vs) → wipe (wipe τ us) vs = wipe τ vs := by
                intro us
                induction us with
                | nil => intro _; rfl
                | cons u us ih =>
                  intro hu
                  show wipe ((wipe τ us).set u none) vs = wipe τ vs
                  rw [wipe_set (hu u List.mem_cons_self), ih fun i hi => hu i (List.mem_cons_of_mem _ hi)]
              exact this vs fun _ h => h
            exact ww own σ
          · cases et : tt env1 h' with
            | exc _ _ => rw [et] at he0; cases he0
            | stuck => rw [et] at he0; cases he0
            | ok b h3 =>
              rw [et] at F' he0
              rintro ρ3 b' H3 e3 s3 rfl
              have eD3 : H3 D = some (.lst xs) := e3.keep _ _ eD2 nD
              have nD3 : D ∉ ρ3 := fun hm => (e3.new D hm).elim nD fun z => by rw [eD2] at z; cases z
              have F' : ∀ vs h2, (if b = true then (te env1 h3).bindN fun y h2 => if acc.length < 100000 then loopC s g tt te (wipeM env own) f (i + 1) (acc ++ [y]) h2 else .stuck else loopC s g tt te (wipeM env own) f (i + 1) acc h3) = .ok vs h2 → ∀ ρ2 H2, Ex ρ H ρ2 H2 → RS K ρ2 H2 h2 → RNew K H ρ2 H2 (.lst vs) (.ref D) → Q (.ref D) H2 := F'
              have he0 : (if b = true then (te env1 h3).bindN fun y h2 => if acc.length < 100000 then loopC s g tt te (wipeM env own) f (i + 1) (acc ++ [y]) h2 else .stuck else loopC s g tt te (wipeM env own) f (i + 1) acc h3) = .ok vs h2 := he0
              cases b with
              | false =>
                rw [if_neg Bool.false_ne_true] at F' he0
                rw [if_neg Bool.false_ne_true]
                exact ⟨ρ3, h3, acc, xs, e2.trans e3, s3, eD3, nD3, (racc.mono s' ey).mono sy e3, ⟨_, _, he0⟩, F'⟩
              | true =>
                rw [if_pos rfl] at F' he0
                rw [if_pos rfl]
                refine ⟨ρ3, env1, h3, S3.step e3 s3, ?_⟩
                cases ee : te env1 h3 with
                | exc _ _ => rw [ee] at he0; cases he0
                | stuck => rw [ee] at he0; cases he0
                | ok y h4 =>
                  rw [ee] at F' he0
                  intro ρ4 z H4 e4 s4 r4
                  have eD4 : H4 D = some (.lst xs) := e4.keep _ _ eD3 nD3
                  have nD4 : D ∉ ρ4 := fun hm => (e4.new D hm).elim nD3 fun z => by rw [eD3] at z; cases z
                  have F' : ∀ vs h2, (if acc.length < 100000 then loopC s g tt te (wipeM env own) f (i + 1) (acc ++ [y]) h4 else .stuck) = .ok vs h2 → ∀ ρ2 H2, Ex ρ H ρ2 H2 → RS K ρ2 H2 h2 → RNew K H ρ2 H2 (.lst vs) (.ref D) → Q (.ref D) H2 := F'
                  have he0 : (if acc.length < 100000 then loopC s g tt te (wipeM env own) f (i + 1) (acc ++ [y]) h4 else .stuck) = .ok vs h2 := he0
                  by_cases hz : acc.length < 100000
                  · rw [if_pos hz] at F' he0
                    have r4 : RV K ρ4 H4 y z := r4
                    have racc4 := ((racc.mono s' ey).mono sy e3).mono s3 e4
                    refine ⟨xs, eD4, size_line (by rw [← racc.length]; exact hz), ρ4, h4, acc ++ [y], xs ++ [z], ?_, s4.upd_out eD4 nD4, upd_same, nD4, ?_, ⟨_, _, he0⟩, F'⟩
                    · have e14 := (e2.trans e3).trans e4
                      exact ⟨e14.pre, fun b o q n => (upd_ne (ne_of_none q hD)).trans (e14.keep b o q n), e14.new⟩
                    · exact (racc4.append (.cons r4 .nil)).gen (sqT_upd_lst eD4) fun _ _ z => z
                  · rw [if_neg hz] at he0; cases he0
theorem lc_imp {X : Cx} {c : Ctx} {W : WX} {tg : Expr} {scope : Scope} {own : List (Str × Nat)} {src : EM Src} {g : Tgt} {g0 : TG} {sl : List Nat} {tt : EM Bool} {te : EM Val} (hsl : ∀ i ∈ sl, i ∈ own.map (·.2))
    (hg : ∀ (s : Shared) (H : Hp) (C : Addr) (cl : List (Str × Addr)) (fp : List Addr), GOk (X.blk s H scope (compEnvC scope cl C X.env) fp) tg g0 sl g) {σ : St} {H : Hp} {Q : VK} (q : rd X.K c W (RNew X.K) (xComp src g (own.map (·.2)) tt te) σ H Q) :
    tLc (rd X.K c W (RItV X.K) src) g0 (rd X.K c W0 RBool tt) (rd X.K c W0 (RVal X.K) te) (own.map (·.2)) σ H Q := by
  obtain ⟨ρ, env, h, S, F⟩ := q
  refine ⟨ρ, env, h, S, ?_⟩
  have F : Fin X.K W σ (RNew X.K) ρ H Q ((src env h).bind fun s h1 => (loopC s g tt te (wipeM env (own.map (·.2))) (s.size h1 + 1) 0 [] h1).bindN fun vs h2 => .ok (.lst vs) h2) := F
  cases es : src env h with
  | exc e h1 => rw [es] at F; exact F
  | stuck => rw [es] at F; exact F
  | ok s h1 =>
    rw [es] at F
    rintro ρ1 J H1 e1 s1 ⟨pin, hs⟩ D hD
    have F : Fin X.K W σ (RNew X.K) ρ H Q ((loopC s g tt te (wipeM env (own.map (·.2))) (s.size h1 + 1) 0 [] h1).bindN fun vs h2 => .ok (.lst vs) h2) := F
    refine lc_turns (fun c ρ H h env σ v x env' Q S r e k => (hg X.s_0 H 0 [] []).sem c ρ H h env σ v x env' Q S r e fun σ' S' w => k σ' S' (w _ hsl)) (S.step e1 s1) e1 hs hD (s.size h1 + 1) (fun vs h2 q ρ2 H2 e2 s2 r2 => ?_) ?_
    · rw [q] at F
      exact F ρ2 _ H2 e2 s2 r2
    · cases q : loopC s g tt te (wipeM env (own.map (·.2))) (s.size h1 + 1) 0 [] h1 with
      | ok vs h2 => exact ⟨vs, h2, rfl⟩
      | exc _ _ => rw [q] at F; exact F.elim
      | stuck => rw [q] at F; exact F.elim
theorem n_comp {elt tg iter : Expr} {ifs : List Expr} {scope : Scope} {own : List (Str × Nat)} {pos : Pos} {src : EM Src} {g : Tgt} {g0 : TG} {sl : List Nat} {tt : EM Bool} {te : EM Val} (hc : X.calm = true) (hN : X.N.Nodup) (hi : ItV X c W tg iter src) (ok : BlkOk X.N X.env.scope scope own)
    (hsl : ∀ i ∈ sl, i ∈ own.map (·.2))
    (hg : ∀ (s : Shared) (H : Hp) (C : Addr) (cl : List (Str × Addr)) (fp : List Addr), GOk (X.blk s H scope (compEnvC scope cl C X.env) fp) tg g0 sl g) (ht : ∀ (s : Shared) (H : Hp) (C : Addr) (cl : List (Str × Addr)) (fp : List Addr), TTs (X.blk s H scope (compEnvC scope cl C X.env) fp) c ifs tt)
    (he : ∀ (s : Shared) (H : Hp) (C : Addr) (cl : List (Str × Addr)) (fp : List Addr), E (X.blk s H scope (compEnvC scope cl C X.env) fp) c W0 elt te) (hs : ∀ x, foldedSetIterable iter X.env x = pure x := by intro _; rfl) :
    EC X c W (.ListComp elt [⟨tg, iter, ifs, 0⟩] scope pos) (xComp src g (own.map (·.2)) tt te) :=
  PE.imp (pe_lc (g := g0) (tt := rd X.K c W0 RBool tt) (te := rd X.K c W0 (RVal X.K) te) hc hN hi ok (fun s H C cl fp => (hg s H C cl fp).pg) ht he hs) fun σ H Q q => lc_imp hsl hg q
end
end Mi

set_option Elab.async false
set_option linter.all false
set_option maxRecDepth 100000
set_option maxHeartbeats 2000000
set_option autoImplicit false
namespace Mi
open PySem PySem.Spec PyProof.Rows L2

def FinS (K : PySem.W.Frag) (c : Ctx) (W : WX) (D : Ends) (ρ : List Addr) (H : Hp) : SOut → Prop
  | .next env' h' => ∀ (ρ' : List Addr) (σ' : St) (H' : Hp), Es K ρ H ρ' H' → ST K c ρ' H' h' env' σ' → D.nx σ' H'
  | .ret v h' => ∀ (ρ' : List Addr) (x : V) (H' : Hp), Ex c.ρ0 c.H0 ρ' H' → RS K ρ' H' h' → RV K ρ' H' v x → D.rt x H'
  | .brk env' h' => ∀ (ρ' : List Addr) (σ' : St) (H' : Hp), Es K ρ H ρ' H' → ST K c ρ' H' h' env' σ' → D.bk σ' H'
  | .cont env' h' => ∀ (ρ' : List Addr) (σ' : St) (H' : Hp), Es K ρ H ρ' H' → ST K c ρ' H' h' env' σ' → D.ct σ' H'
  | .exc e env' h' => ∀ (ρ' : List Addr) (σ' : St) (cls : Value) (d : Option Addr) (H' : Hp), Es K ρ H ρ' H' → ST K c ρ' H' h' env' σ' → RX K ρ' H' e cls d → W cls d σ' H'
  | .stuck => False
def rdS (K : PySem.W.Frag) (c : Ctx) (W : WX) (m : SM) : TS := fun D σ H => ∃ (ρ : List Addr) (env : ME) (h : MH), ST K c ρ H h env σ ∧ FinS K c W D ρ H (m env h)
def S (X : Cx) (c : Ctx) (W : WX) (st : Stmt) (m : SM) : Prop := PS X st (rdS X.K c W m)
def SS (X : Cx) (c : Ctx) (W : WX) (st : List Stmt) (m : SM) : Prop := PSs X st (rdS X.K c W m)
section
variable {K : PySem.W.Frag} {c : Ctx} {W : WX} {D : Ends} {ρ ρ1 : List Addr} {H H1 : Hp} {h h1 : MH} {env : ME} {σ : St}
theorem FinS.at {o : SOut} (F : FinS K c W D ρ H o) (x : Es K ρ H ρ1 H1) : FinS K c W D ρ1 H1 o := by
  cases o with
  | next e h => exact fun ρ' σ' H' y s => F ρ' σ' H' (x.trans y) s
  | ret v h => exact F
  | brk e h => exact fun ρ' σ' H' y s => F ρ' σ' H' (x.trans y) s
  | cont e h => exact fun ρ' σ' H' y s => F ρ' σ' H' (x.trans y) s
  | exc e e' h => exact fun ρ' σ' cls d H' y s => F ρ' σ' cls d H' (x.trans y) s
  | stuck => exact F
def sBind {α : Type} (m : EM α) (f : α → SM) : SM := fun env h => match m env h with
  | .ok a h1 => f a env h1
  | .exc e h1 => .exc e env h1
  | .stuck => .stuck
theorem finS_bind {α β : Type} {R : Rel α β} {m : EM α} {f : α → SM} (T : ST K c ρ H h env σ) (F : FinS K c W D ρ H (sBind m f env h)) :
    Fin K W σ R ρ H (fun x H1 => ∃ (a : α) (h1 : MH) (ρ1 : List Addr), Ex ρ H ρ1 H1 ∧ ST K c ρ1 H1 h1 env σ ∧ R H ρ1 H1 a x ∧ FinS K c W D ρ1 H1 (f a env h1)) (m env h) := by
  have F : FinS K c W D ρ H (match m env h with
    | .ok a h1 => f a env h1
    | .exc e h1 => .exc e env h1
    | .stuck => .stuck) := F
  cases q : m env h with
  | ok a h1 =>
    rw [q] at F
    exact fun ρ1 x H1 e s r => ⟨a, h1, ρ1, e, T.step e s, r, F.at (e.es T.rs)⟩
  | exc e h1 =>
    rw [q] at F
    exact fun ρ1 cls d H1 e s r => F ρ1 σ cls d H1 (e.es T.rs) (T.step e s) r
  | stuck => rw [q] at F; exact F
end
section
variable {X : Cx} {c : Ctx} {W : WX} {st : Stmt} {sts : List Stmt} {m1 m2 : SM} {pos pos' p : Pos} {e : Expr}
def sSeq (m1 m2 : SM) : SM := fun env h => match m1 env h with
  | .next env1 h1 => m2 env1 h1
  | o => o
def sNil : SM := fun env h => .next env h
theorem ss_nil : SS X c W [] sNil := PSs.imp pss_nil fun D σ H ⟨ρ, env, h, T, F⟩ => F ρ σ H .refl T
theorem ss_cons (h1 : S X c W st m1) (h2 : SS X c W sts m2) : SS X c W (st :: sts) (sSeq m1 m2) := PSs.imp (pss_cons h1 h2) fun D σ H ⟨ρ, env, h, T, F⟩ => by
  refine ⟨ρ, env, h, T, ?_⟩
  have F : FinS X.K c W D ρ H (match m1 env h with
    | .next env1 h1 => m2 env1 h1
    | o => o) := F
  cases q : m1 env h with
  | next e1 h1 => rw [q] at F; exact fun ρ' σ' H' x T' => ⟨ρ', e1, h1, T', F.at x⟩
  | ret v h1 => rw [q] at F; exact F
  | brk e1 h1 => rw [q] at F; exact F
  | cont e1 h1 => rw [q] at F; exact F
  | exc e e1 h1 => rw [q] at F; exact F
  | stuck => rw [q] at F; exact F
theorem ss_one (h1 : S X c W st m1) : SS X c W [st] m1 := pss_one h1
theorem s_pass : S X c W (.Pass pos) sNil := PS.imp ps_pass fun D σ H ⟨ρ, env, h, T, F⟩ => F ρ σ H .refl T
def sBrk : SM := fun env h => .brk env h
def sCont : SM := fun env h => .cont env h
theorem s_break : S X c W (.Break pos) sBrk := PS.imp ps_break fun D σ H ⟨ρ, env, h, T, F⟩ => F ρ σ H .refl T
theorem s_continue : S X c W (.Continue pos) sCont := PS.imp ps_continue fun D σ H ⟨ρ, env, h, T, F⟩ => F ρ σ H .refl T
theorem s_doc {x j} : S X c W (.Expr (.Constant (.str x) j pos) pos') sNil := PS.imp ps_doc fun D σ H ⟨ρ, env, h, T, F⟩ => F ρ σ H .refl T
def sDrop {α : Type} (m : EM α) : SM := sBind m fun _ env h => .next env h
theorem s_drop {α : Type} {R : Rel α V} {m : EM α} (he : PE X e (rd X.K c W R m)) (hs : swapsWith e none pos.line X.env = pure false := by rfl) : S X c W (.Expr e pos) (sDrop m) := PS.imp (ps_expr he hs) fun D σ H ⟨ρ, env, h, T, F⟩ =>
  ⟨ρ, env, h, T, (finS_bind (R := R) T F).mono fun x H1 ⟨a, h1, ρ1, e1, T1, r1, F1⟩ => F1 ρ1 σ H1 .refl T1⟩
def sRet (m : EM Val) : SM := sBind m fun v _ h => .ret v h
theorem s_ret {m : EM Val} (he : E X c W e m) : S X c W (.Return (some e) pos) (sRet m) := PS.imp (ps_ret he) fun D σ H ⟨ρ, env, h, T, F⟩ =>
  ⟨ρ, env, h, T, (finS_bind (R := RVal X.K) T F).mono fun x H1 ⟨a, h1, ρ1, e1, T1, r1, F1⟩ => F1 ρ1 x H1 T1.ex T1.rs r1⟩
def sRetN : SM := fun _ h => .ret .non h
theorem s_retN : S X c W (.Return none pos) sRetN := PS.imp ps_retN fun D σ H ⟨ρ, env, h, T, F⟩ => F ρ .non H T.ex T.rs .non
def sRetOwn (i : Nat) : SM := fun env h => match env[i]? with
  | some (.own k) => .ret (.ref h.length) (h ++ [k])
  | _ => .stuck
theorem s_retOwn {i : Nat} {x : Str} (hN : X.N[i]? = some x := by rfl) (hv : Vis X.env.scope x := by first | exact Or.inl rfl | exact Or.inr (Or.inl rfl) | exact Or.inr (Or.inr rfl))
    (hd : (x == ("__debug__" : Str)) = false := by decide) (hcd : (x == ("__classdict__" : Str)) = false := by decide) : S X c W (.Return (some (.Name x p)) pos) (sRetOwn i) := PS.imp (ps_ret (pe_var hN hv hd hcd)) fun D σ H ⟨ρ, env, h, T, F⟩ => by
  unfold sRetOwn at F
  split at F
  · rename_i k e
    obtain ⟨o, e2, a, rfl, z, n, r⟩ := T.slot_at e
    obtain ⟨s2, r2⟩ := T.rs.put n r
    exact ⟨_, e2, F _ _ H (T.ex.put z) s2 r2⟩
  · exact F.elim
def sIf (t : EM Bool) (m1 m2 : SM) : SM := sBind t fun k env h => if k = true then m1 env h else m2 env h
theorem s_if {a b : List Stmt} {t : EM Bool} (ht : TB X c W e t) (ha : SS X c W a m1) (hb : SS X c W b m2) : S X c W (.If e a b pos) (sIf t m1 m2) := PS.imp (ps_if ht ha hb) fun D σ H ⟨ρ, env, h, T, F⟩ => by
  refine ⟨ρ, env, h, T, (finS_bind (R := RBool) T F).mono fun k H1 ⟨k', h1, ρ1, e1, T1, r1, F1⟩ => ?_⟩
  have r1 : k' = k := r1
  subst r1
  split at F1
  · rename_i hk; rw [if_pos hk]; exact ⟨ρ1, env, h1, T1, F1⟩
  · rename_i hk; rw [if_neg hk]; exact ⟨ρ1, env, h1, T1, F1⟩
def sSet (i : Nat) (m : EM Val) : SM := sBind m fun v env h => .next (env.set i (.val v)) h
theorem fin_asg {m : EM Val} {i : Nat} {D : Ends} {σ : St} {H : Hp} (q : rdS X.K c W (sSet i m) D σ H) : rd X.K c W (RVal X.K) m σ H fun x H1 => D.nx (σ.set i (some x)) H1 := by
  obtain ⟨ρ, env, h, T, F⟩ := q
  exact ⟨ρ, env, h, T, (finS_bind (R := RVal X.K) T F).mono fun x H1 ⟨a, h1, ρ1, e1, T1, r1, F1⟩ => F1 ρ1 _ H1 .refl (T1.put i ⟨x, rfl, r1⟩ fun _ z => nomatch z)⟩
theorem s_set {i : Nat} {x : Str} {m : EM Val} (hN : X.N.Nodup) (he : E X c W e m) (hi : X.N[i]? = some x := by rfl) (hx : Loc X.env.scope x := by first | exact Or.inl rfl | exact Or.inr rfl) (hs : swapsWith e (some (.Name x p)) pos.line X.env = pure false := by rfl)
    (hf : X.fn x = true ∨ X.env.scope.names.lookup x = some .local := by first | exact .inl rfl | exact .inr rfl | assumption) : S X c W (.Assign [.Name x p] e pos) (sSet i m) := PS.imp (ps_set hN hi hx he hs hf) fun D σ H q => fin_asg q
def sOwn (i : Nat) (m : EM Cell) : SM := sBind m fun k env h => .next (env.set i (.own k)) h
theorem ST.own_new {K : PySem.W.Frag} {ρ ρ1 : List Addr} {H H1 : Hp} {h h1 : MH} {env : ME} {σ : St} (T0 : ST K c ρ H h env σ) (T : ST K c ρ1 H1 h1 env σ) {a : Addr} {k : Cell} (z : H a = none) (n : a ∉ ρ1) (r : RC K ρ1 H1 k a) (i : Nat) :
    ST K c ρ1 H1 h1 (env.set i (.own k)) (σ.set i (some (.ref a))) := by
  have z0 : c.H0 a = none := T0.ex.fresh T0.rs z
  have old : ∀ (j : Nat) (k' : Cell), env[j]? = some (.own k') → σ[j]? ≠ some (some (.ref a)) := fun j k' e1 e2 => by
    obtain ⟨o, e3, b, rfl, _, _, q⟩ := T0.slot_at e1
    rw [e2] at e3
    cases e3
    obtain ⟨u, hu⟩ := q.there
    rw [z] at hu; cases hu
  refine ⟨T.rs, T.ex, ⟨by simpa using T.re.len, fun j s' o' e1 e2 => ?_, fun j l k1 k2 b hne e1 e2 e3 e4 => ?_⟩, fun p hp => ?_⟩
  · by_cases hj : j = i
    · subst hj
      have l1 : j < env.length := by have := (List.getElem?_eq_some_iff.mp e1).1; simpa using this
      have l2 : j < σ.length := by rw [← T.re.len]; exact l1
      rw [List.getElem?_set_self l1] at e1
      rw [List.getElem?_set_self l2] at e2
      cases e1; cases e2; exact ⟨a, rfl, z0, n, r⟩
    · rw [List.getElem?_set_ne (Ne.symm hj)] at e1 e2
      exact T.re.slot j s' o' e1 e2
  · by_cases hj : j = i
    · have hl : l ≠ i := fun y => hne (hj.trans y.symm)
      have l1 : i < σ.length := by have := (List.getElem?_eq_some_iff.mp e3).1; rw [hj] at this; simpa using this
      rw [hj, List.getElem?_set_self l1] at e3
      rw [List.getElem?_set_ne (Ne.symm hl)] at e2 e4
      cases e3
      exact old l k2 e2 e4
    · rw [List.getElem?_set_ne (Ne.symm hj)] at e1 e3
      by_cases hl : l = i
      · have l1 : i < σ.length := by have := (List.getElem?_eq_some_iff.mp e4).1; rw [hl] at this; simpa using this
        rw [hl, List.getElem?_set_self l1] at e4
        cases e4
        exact old j k1 e1 e3
      · rw [List.getElem?_set_ne (Ne.symm hl)] at e2 e4
        exact T.re.sep j l k1 k2 b hne e1 e2 e3 e4
  · obtain ⟨e, q, y⟩ := T.pn p hp
    refine ⟨e, q, fun j k' e1 e2 => ?_⟩
    by_cases hj : j = i
    · have l1 : i < σ.length := by have := (List.getElem?_eq_some_iff.mp e2).1; rw [hj] at this; simpa using this
      rw [hj, List.getElem?_set_self l1] at e2
      cases e2
      have := (T0.pn p hp).1
      rw [z] at this; cases this
    · rw [List.getElem?_set_ne (Ne.symm hj)] at e1 e2
      exact y j k' e1 e2
theorem fin_own {m : EM Cell} {i : Nat} {D : Ends} {σ : St} {H : Hp} (q : rdS X.K c W (sOwn i m) D σ H) : rd X.K c W (RNew X.K) m σ H fun x H1 => D.nx (σ.set i (some x)) H1 := by
  obtain ⟨ρ, env, h, T, F⟩ := q
  refine ⟨ρ, env, h, T, (finS_bind (R := RNew X.K) T F).mono fun x H1 ⟨k, h1, ρ1, e1, T1, ⟨a, ea, z, n, r⟩, F1⟩ => ?_⟩
  subst ea
  exact F1 ρ1 _ H1 .refl (ST.own_new T T1 z n r i)
theorem s_own {i : Nat} {x : Str} {m : EM Cell} (hN : X.N.Nodup) (he : EC X c W e m) (hi : X.N[i]? = some x := by rfl) (hx : Loc X.env.scope x := by first | exact Or.inl rfl | exact Or.inr rfl) (hs : swapsWith e (some (.Name x p)) pos.line X.env = pure false := by rfl)
    (hf : X.fn x = true ∨ X.env.scope.names.lookup x = some .local := by first | exact .inl rfl | exact .inr rfl | assumption) : S X c W (.Assign [.Name x p] e pos) (sOwn i m) := PS.imp (ps_set hN hi hx he hs hf) fun D σ H q => fin_own q
theorem s_comp {i : Nat} {x : Str} {elt tg iter : Expr} {ifs : List Expr} {scope : Scope} {own : List (Str × Nat)} {src : EM Src} {g : Tgt} {g0 : TG} {sl : List Nat} {tt : EM Bool} {te : EM Val} {p2 : Pos} (hc : X.calm = true) (hN : X.N.Nodup) (hi : ItV X c W tg iter src) (ok : BlkOk X.N X.env.scope scope own)
    (hsl : ∀ i ∈ sl, i ∈ own.map (·.2))
    (hg : ∀ (s : Shared) (H : Hp) (C : Addr) (cl : List (Str × Addr)) (fp : List Addr), GOk (X.blk s H scope (compEnvC scope cl C X.env) fp) tg g0 sl g) (ht : ∀ (s : Shared) (H : Hp) (C : Addr) (cl : List (Str × Addr)) (fp : List Addr), TTs (X.blk s H scope (compEnvC scope cl C X.env) fp) c ifs tt)
    (he : ∀ (s : Shared) (H : Hp) (C : Addr) (cl : List (Str × Addr)) (fp : List Addr), E (X.blk s H scope (compEnvC scope cl C X.env) fp) c W0 elt te)
    (hy : X.N[i]? = some x := by rfl) (hyl : X.env.scope.names.lookup x = some .local := by rfl) (hsw : swapsWith (.ListComp elt [⟨tg, iter, ifs, 0⟩] scope p2) (some (.Name x p)) pos.line X.env = pure true := by exact sw_true rfl rfl rfl (by decide +kernel))
    (hs : ∀ x, foldedSetIterable iter X.env x = pure x := by intro _; rfl) :
    S X c W (.Assign [.Name x p] (.ListComp elt [⟨tg, iter, ifs, 0⟩] scope p2) pos) (sOwn i (xComp src g (own.map (·.2)) tt te)) :=
  PS.imp (ps_setLc (g := g0) (tt := rd X.K c W0 RBool tt) (te := rd X.K c W0 (RVal X.K) te) hc hN hy hyl hsw hi ok (fun s H C cl fp => (hg s H C cl fp).pg) ht he hs) fun D σ H q => lc_imp hsl hg (fin_own q)
theorem s_compP {i : Nat} {x : Str} {elt tg iter : Expr} {ifs : List Expr} {scope : Scope} {own : List (Str × Nat)} {src : EM Src} {g : Tgt} {g0 : TG} {sl : List Nat} {tt : EM Bool} {te : EM Val} {p2 : Pos} (hc : X.calm = true) (hN : X.N.Nodup) (hi : ItV X c W tg iter src) (ok : BlkOk X.N X.env.scope scope own)
    (hsl : ∀ i ∈ sl, i ∈ own.map (·.2))
    (hg : ∀ (s : Shared) (H : Hp) (C : Addr) (cl : List (Str × Addr)) (fp : List Addr), GOk (X.blk s H scope (compEnvC scope cl C X.env) fp) tg g0 sl g) (ht : ∀ (s : Shared) (H : Hp) (C : Addr) (cl : List (Str × Addr)) (fp : List Addr), TTs (X.blk s H scope (compEnvC scope cl C X.env) fp) c ifs tt)
    (he : ∀ (s : Shared) (H : Hp) (C : Addr) (cl : List (Str × Addr)) (fp : List Addr), E (X.blk s H scope (compEnvC scope cl C X.env) fp) c W0 elt te)
    (hy : X.N[i]? = some x := by rfl) (hyl : X.env.scope.names.lookup x = some .local := by rfl) (hsw : swapsWith (.ListComp elt [⟨tg, iter, ifs, 0⟩] scope p2) (some (.Name x p)) pos.line X.env = pure true := by exact sw_true rfl rfl rfl (by decide +kernel))
    (hs : ∀ x, foldedSetIterable iter X.env x = pure x := by intro _; rfl) :
    S X c W (.Assign [.Name x p] (.ListComp elt [⟨tg, iter, ifs, 0⟩] scope p2) pos) (sSet i (xPut (xComp src g (own.map (·.2)) tt te))) :=
  PS.imp (ps_setLc (g := g0) (tt := rd X.K c W0 RBool tt) (te := rd X.K c W0 (RVal X.K) te) hc hN hy hyl hsw hi ok (fun s H C cl fp => (hg s H C cl fp).pg) ht he hs) fun D σ H q => lc_imp hsl hg (rd_put (fin_asg q))
def sTgt (g : Tgt) (m : EM Val) : SM := sBind m fun v env h => match g v env with
  | some env' => .next env' h
  | none => .stuck
theorem s_tgt {tg : Expr} {g : Tgt} {g0 : TG} {sl : List Nat} {m : EM Val} (he : E X c W e m) (hg : GOk X tg g0 sl g) (hs : swapsWithSole [tg] e pos.line X.env = pure false := by rfl) (hw : swappedStores [tg] e X.env = pure none := by rfl)
    (h1 : (assignEach [tg] X.env).map (·.2) = [assign tg X.env] := by rfl) : S X c W (.Assign [tg] e pos) (sTgt g m) := PS.imp (ps_asg he hg.pg hs hw h1) fun D σ H ⟨ρ, env, h, T, F⟩ => by
  refine ⟨ρ, env, h, T, (finS_bind (R := RVal X.K) T F).mono fun x H1 ⟨a, h1, ρ1, e1, T1, r1, F1⟩ => ?_⟩
  cases q : g a env with
  | none => rw [q] at F1; exact F1.elim
  | some env' =>
    rw [q] at F1
    exact hg.sem c ρ1 H1 h1 env σ a x env' _ T1 r1 q fun σ' T' _ => F1 ρ1 σ' H1 .refl T'
def sPar (i j : Nat) (m : EM (List Val)) : SM := sBind m fun vs env h => match vs with
  | [v, u] => .next ((env.set i (.val v)).set j (.val u)) h
  | _ => .stuck
theorem s_par {i j : Nat} {x y : Str} {a b : Expr} {m : EM (List Val)} {px py pt : Pos} {kt k2 pt2} (hc : X.calm = true) (hN : X.N.Nodup) (hij : i ≠ j) (ha : AV X c W [a, b] m)
    (hi : X.N[i]? = some x := by rfl) (hj : X.N[j]? = some y := by rfl) (hx : X.env.scope.names.lookup x = some .local := by rfl) (hy : X.env.scope.names.lookup y = some .local := by rfl)
    (hw : swappedStores [.Tuple [.Name x px, .Name y py] kt pt] (.Tuple [a, b] k2 pt2) X.env = pure (some [x, y]) := by rfl)
    (hs : swapsWithSole [.Tuple [.Name x px, .Name y py] kt pt] (.Tuple [a, b] k2 pt2) pos.line X.env = pure false := by rfl) :
    S X c W (.Assign [.Tuple [.Name x px, .Name y py] kt pt] (.Tuple [a, b] k2 pt2) pos) (sPar i j m) := PS.imp (ps_par hc hN hi hj hij hx hy ha hw hs) fun D σ H ⟨ρ, env, h, T, F⟩ => by
  refine ⟨ρ, env, h, T, (finS_bind (R := RVals X.K) T F).mono fun xs H1 ⟨vs, h1, ρ1, e1, T1, r1, F1⟩ => ?_⟩
  split at F1
  · obtain ⟨v', u', rfl, rv, ru⟩ := RVs.two r1
    exact ⟨_, _, rfl, F1 ρ1 _ H1 .refl ((T1.put i (s := .val _) ⟨_, rfl, rv⟩ fun _ z => nomatch z).put j (s := .val _) ⟨_, rfl, ru⟩ fun _ z => nomatch z)⟩
  · exact F1.elim

def SetG (X : Cx) (t : TSet) (f : Val → Val → Val → MH → Option MH) : Prop :=
  ∀ (ρ : List Addr) (H : Hp) (h : MH) (a b v : Val) (x y z : V) (h' : MH) (Q : Hp → Prop), RS X.K ρ H h → RV X.K ρ H a x → RV X.K ρ H b y → RV X.K ρ H v z → f a b v h = some h' → (∀ H', Ex ρ H ρ H' → RS X.K ρ H' h' → Q H') → t x y z H Q
def sStore (f : Val → Val → Val → MH → Option MH) (mv mo mi : EM Val) : SM := sBind mv fun v => sBind mo fun o => sBind mi fun i env h => match f o i v h with
  | some h' => .next env h'
  | none => .stuck
theorem s_store {o i : Expr} {t : TSet} {f : Val → Val → Val → MH → Option MH} {mv mo mi : EM Val} (hs : PSet X t) (hf : SetG X t f) (he : E X c W e mv) (ho : E X c W o mo) (hi : E X c W i mi)
    (h1 : swapsWithSole [.Subscript o i p] e pos.line X.env = pure false := by rfl) (h2 : swappedStores [.Subscript o i p] e X.env = pure none := by rfl)
    (h3 : (assignEach [.Subscript o i p] X.env).map (·.2) = [assign (.Subscript o i p) X.env] := by rfl)
    (ha : ∀ v, assign (.Subscript o i p) X.env v = (do
      let ov ← holding [v] (eval o X.env)
      let iv ← holding [v, ov] (eval i X.env)
      standAt p
      holding [v, ov, iv] (setItem ov iv v)
      release [v, ov, iv] []) := by intro _; rfl) : S X c W (.Assign [.Subscript o i p] e pos) (sStore f mv mo mi) := PS.imp (ps_asg he (pg_sub ho hi hs ha) h1 h2 h3) fun D σ H ⟨ρ, env, h, T, F⟩ => by
  refine ⟨ρ, env, h, T, (finS_bind (R := RVal X.K) T F).mono fun z H1 ⟨v, h1, ρ1, e1, T1, r1, F1⟩ => ?_⟩
  refine ⟨ρ1, env, h1, T1, (finS_bind (R := RVal X.K) T1 F1).mono fun x H2 ⟨a, h2, ρ2, e2, T2, r2, F2⟩ => ?_⟩
  refine ⟨ρ2, env, h2, T2, (finS_bind (R := RVal X.K) T2 F2).mono fun y H3 ⟨b, h3, ρ3, e3, T3, r3, F3⟩ => ?_⟩
  cases q : f a b v h3 with
  | none => rw [q] at F3; exact F3.elim
  | some h' =>
    rw [q] at F3
    refine hf ρ3 H3 h3 a b v x y z h' _ T3.rs (RV.mono T2.rs e3 r2) r3 (RV.mono T2.rs e3 (RV.mono T1.rs e2 r1)) q fun H' e4 s4 => F3 ρ3 σ H' (e4.es T3.rs) (T3.step e4 s4)
theorem ST.own_set {K : PySem.W.Frag} {ρ : List Addr} {H H' : Hp} {h h' : MH} {env : ME} {σ : St} {i : Nat} {a : Addr} {k k' : Cell} (T : ST K c ρ H h env σ) (e : env[i]? = some (.own k)) (es : σ[i]? = some (some (.ref a))) (keep : ∀ b o, b ≠ a → H b = some o → H' b = some o)
    (rs : RS K ρ H' h') (r : RC K ρ H' k' a) : ST K c ρ H' h' (env.set i (.own k')) σ ∧ Es K ρ H ρ H' := by
  obtain ⟨o, e2, a', e3, z, n, q⟩ := T.slot_at e
  rw [es] at e2
  cases e2
  cases e3
  have nt : ∀ xs, ¬ Rd H a (.tup xs) := fun xs => q.notTup
  have tup : ∀ (b : Addr) (xs : List V), H b = some (.tup xs) → H' b = some (.tup xs) := fun b xs y => keep _ _ (fun w => nt xs (w ▸ .inl y)) y
  have hl : i < env.length := (List.getElem?_eq_some_iff.mp e).1
  refine ⟨⟨rs, ⟨T.ex.pre, fun b o e1 e2 => ?_, T.ex.new⟩, ⟨by simpa using T.re.len, fun j s o e1 e2 => ?_, fun j l k1 k2 b hne e1 e2 e3 e4 => ?_⟩, fun p hp => ?_⟩, ⟨List.prefix_refl _, tup⟩⟩
  · exact keep b o (fun w => by rw [w, z] at e1; cases e1) (T.ex.keep b o e1 e2)
  · by_cases hj : j = i
    · subst hj
      rw [List.getElem?_set_self hl] at e1
      rw [es] at e2
      cases e1; cases e2
      exact ⟨a, rfl, z, n, r⟩
    · rw [List.getElem?_set_ne (Ne.symm hj)] at e1
      have y := T.re.slot j s o e1 e2
      cases s with
      | no => trivial
      | val v => obtain ⟨x, ex, rx⟩ := y; exact ⟨x, ex, rx.gen tup fun _ _ w => w⟩
      | own k2 =>
        obtain ⟨b, eb, zb, nb, rb⟩ := y
        subst eb
        have hb : b ≠ a := fun w => T.re.sep j i k2 k b hj e1 e e2 (by rw [w]; exact es)
        obtain ⟨u, hu⟩ := rb.there
        exact ⟨b, rfl, zb, nb, rb.gen tup (fun _ _ w => w) (by rw [hu]; exact keep _ _ hb hu)⟩
      | exn x =>
        obtain ⟨b, cls, d, eb, ec, r1, r2⟩ := y
        refine ⟨b, cls, d, eb, ec, r1, ?_⟩
        rcases r2 with r2 | ⟨dd, fs, f1, f2, f3⟩
        · exact .inl r2
        · refine .inr ⟨dd, fs, f1, keep _ _ (fun w => ?_) f2, f3.1, f3.2.gen tup fun _ _ w => w⟩
          rw [w] at f2
          exact q.notXd f2
  · have h1 : ∃ k3, env[j]? = some (.own k3) := by
      by_cases hj : j = i
      · rw [hj]; exact ⟨k, e⟩
      · rw [List.getElem?_set_ne (Ne.symm hj)] at e1; exact ⟨k1, e1⟩
    have h2 : ∃ k3, env[l]? = some (.own k3) := by
      by_cases hj : l = i
      · rw [hj]; exact ⟨k, e⟩
      · rw [List.getElem?_set_ne (Ne.symm hj)] at e2; exact ⟨k2, e2⟩
    obtain ⟨k3, h1⟩ := h1
    obtain ⟨k4, h2⟩ := h2
    exact T.re.sep j l k3 k4 b hne h1 h2 e3 e4
  · obtain ⟨y1, y2, y3⟩ := T.pn p hp
    have hpa : p.1 ≠ a := fun w => y3 i k e (by rw [w]; exact es)
    refine ⟨keep _ _ hpa y1, y2, fun j k3 e1 e2 => ?_⟩
    by_cases hj : j = i
    · rw [hj] at e2; exact y3 i k e e2
    · rw [List.getElem?_set_ne (Ne.symm hj)] at e1; exact y3 j k3 e1 e2
def OwnG {γ : Type} (X : Cx) (R : Rel γ V) (r : V → List V → Hp → VK → Prop) (f : Cell → List Opd → MH → Option (γ × Cell)) : Prop :=
  ∀ (ρ : List Addr) (H : Hp) (h : MH) (k : Cell) (a : Addr) (as : List Opd) (xs : List V) (v : γ) (k' : Cell) (Q : VK), RS X.K ρ H h → a ∉ ρ → RC X.K ρ H k a → ROs X.K ρ H as xs → f k as h = some (v, k') →
    (∀ z H', (∀ b o, b ≠ a → H b = some o → H' b = some o) → RS X.K ρ H' h → RC X.K ρ H' k' a → R H ρ H' v z → Q z H') → r (.ref a) xs H Q
def cellTy (T : String) : Cell → Bool
  | .lst _ => T == "list"
  | .frz _ => false
  | .dK _ => T == "dict"
  | .dT _ => T == "dict"
def sOwnM {γ : Type} (T : String) (i : Nat) (f : Cell → List Opd → MH → Option (γ × Cell)) (mas : EM (List Opd)) (g : γ → ME → ME) : SM := fun env h => match env[i]? with
  | some (.own k) => if cellTy T k = true then sBind mas (fun as env h => match f k as h with
    | some (v, k') => .next (g v (env.set i (.own k'))) h
    | none => .stuck) env h else .stuck
  | _ => .stuck
theorem cellTy_ok {K : PySem.W.Frag} {ρ : List Addr} {H : Hp} {k : Cell} {a : Addr} {T : String} (r : RC K ρ H k a) (e : cellTy T k = true) : tyV K T (.ref a) H := by
  cases k with
  | lst vs => obtain ⟨xs, q, r⟩ := r; exact .inl ⟨eq_of_beq e, xs, SqL.of q⟩
  | dK vs => obtain ⟨xs, q, r⟩ := r; exact .inr (.inr (.inl ⟨eq_of_beq e, .inl ⟨xs, q⟩⟩))
  | dT vs => obtain ⟨xs, q, r⟩ := r; exact .inr (.inr (.inl ⟨eq_of_beq e, .inr ⟨xs, q⟩⟩))
  | frz _ => cases e
theorem own_run {γ : Type} {R : Rel γ V} {T : String} {i : Nat} {r : V → List V → Hp → VK → Prop} {f : Cell → List Opd → MH → Option (γ × Cell)} {mas : EM (List Opd)} {g : γ → ME → ME} (hs : OwnG X R r f) {D : Ends} {σ : St} {H : Hp} {Q : VK}
    (hg : ∀ (ρ ρ0 : List Addr) (H H0 : Hp) (h : MH) (env : ME) (v : γ) (z : V), ST X.K c ρ H h env σ → R H0 ρ H v z → (∀ σ', ST X.K c ρ H h (g v env) σ' → D.nx σ' H) → Q z H)
    (q : rdS X.K c W (sOwnM T i f mas g) D σ H) : ∃ v, σ[i]? = some (some v) ∧ tyV X.K T v H ∧ rd X.K c W (RArgs X.K) mas σ H fun xs H2 => r v xs H2 Q := by
  obtain ⟨ρ, env, h, T0, F⟩ := q
  unfold sOwnM at F
  split at F
  · rename_i k e
    obtain ⟨o, e2, a, rfl, z, n, rc⟩ := T0.slot_at e
    split at F
    · rename_i hk
      refine ⟨_, e2, cellTy_ok rc hk, ρ, env, h, T0, (finS_bind (R := RArgs X.K) T0 F).mono fun xs H1 ⟨as, h1, ρ1, e1, T1, r1, F1⟩ => ?_⟩
      split at F1
      · rename_i v k' ef
        obtain ⟨o, e3, a', e4, z1, n1, rc1⟩ := T1.slot_at e
        rw [e2] at e3
        cases e3
        cases e4
        refine hs ρ1 H1 h1 k a as xs v k' Q T1.rs n1 rc1 r1 ef fun z H' keep s' rc' rz => ?_
        obtain ⟨T2, es⟩ := T1.own_set e e2 keep s' rc'
        exact hg ρ1 ρ H' H1 h1 _ v z T2 rz fun σ' T3 => F1 ρ1 σ' H' es T3
      · exact F1.elim
    · exact F.elim
  · exact F.elim
variable {γ : Type} {R : Rel γ V} {T id : String} {r : V → List V → Hp → VK → Prop} {f : Cell → List Opd → MH → Option (γ × Cell)} {x name : Str} {es : List Expr} {mas : EM (List Opd)} {i j : Nat} {apos : Pos}
theorem s_ownM (pa : PlainAttrs T) (slot : Slot T name id) (hty : typeOf (.builtin id) = pure (.type "method_descriptor")) (hm : MtR X id r) (hs : OwnG X R r f) (ha : AO X c W (e :: es) mas)
    (hN : X.N[i]? = some x := by rfl) (hv : Vis X.env.scope x := by first | exact Or.inl rfl | exact Or.inr (Or.inl rfl) | exact Or.inr (Or.inr rfl)) (hd : (x == ("__debug__" : Str)) = false := by decide) (hcd : (x == ("__classdict__" : Str)) = false := by decide)
    (hbase : attributeBase (.Name x p) name X.env (eval (.Name x p) X.env) = eval (.Name x p) X.env := by rfl)
    (hfew : ((backTo pos' (starEach (e :: es) X.env)).all (fun x => !x.1) && (backToKw pos' (keywordEach [] X.env)).all (fun x => x.1.isSome)
      && decide ((e :: es).length + ([] : List Keyword).length + (if ([] : List Keyword).isEmpty then 0 else 1) < 30)) = true := by rfl)
    (hline : (apos.endLine == pos'.line) = true := by rfl) (h1 : starEach (e :: es) X.env = (false, eval e X.env) :: starEach es X.env := by rfl) (h2 : (backTo pos' (starEach es X.env)).any (·.1) = false := by rfl)
    (hsw : swapsWith (.Call (.Attribute (.Name x p) name apos) (e :: es) [] pos') none pos.line X.env = pure false := by rfl) :
    S X c W (.Expr (.Call (.Attribute (.Name x p) name apos) (e :: es) [] pos') pos) (sOwnM T i f mas fun _ env => env) :=
  PS.imp (ps_expr (pe_bm pa slot hty hm (pe_var hN hv hd hcd) ha hbase hfew hline h1 h2) hsw) fun D σ H q => own_run hs (g := fun _ env => env) (fun ρ ρ0 H H0 h env v z T r k => k σ T) q
theorem s_ownM0 (pa : PlainAttrs T) (slot : Slot T name id) (hty : typeOf (.builtin id) = pure (.type "method_descriptor")) (hm : MtR X id r) (hs : OwnG X R r f)
    (hN : X.N[i]? = some x := by rfl) (hv : Vis X.env.scope x := by first | exact Or.inl rfl | exact Or.inr (Or.inl rfl) | exact Or.inr (Or.inr rfl)) (hd : (x == ("__debug__" : Str)) = false := by decide) (hcd : (x == ("__classdict__" : Str)) = false := by decide)
    (hbase : attributeBase (.Name x p) name X.env (eval (.Name x p) X.env) = eval (.Name x p) X.env := by rfl)
    (hline : (apos.endLine == pos'.line) = true := by rfl) (hsw : swapsWith (.Call (.Attribute (.Name x p) name apos) [] [] pos') none pos.line X.env = pure false := by rfl) :
    S X c W (.Expr (.Call (.Attribute (.Name x p) name apos) [] [] pos') pos) (sOwnM T i f aNil fun _ env => env) :=
  PS.imp (ps_expr (pe_bm0 pa slot hty hm (pe_var hN hv hd hcd) hbase hline) hsw) fun D σ H q => by
    obtain ⟨v, e1, e2, ρ, env, h, T0, F⟩ := own_run hs (g := fun _ env => env) (Q := fun z H' => D.nx σ H') (fun ρ ρ0 H H0 h env v z T r k => k σ T) q
    exact ⟨v, e1, e2, F ρ [] H .refl T0.rs .nil⟩
theorem s_ownV {y : Str} {py : Pos} {f : Cell → List Opd → MH → Option (Val × Cell)} (hNd : X.N.Nodup) (pa : PlainAttrs T) (slot : Slot T name id) (hty : typeOf (.builtin id) = pure (.type "method_descriptor")) (hm : MtR X id r) (hs : OwnG X (RVal X.K) r f) (ha : AO X c W (e :: es) mas)
    (hN : X.N[i]? = some x := by rfl) (hv : Vis X.env.scope x := by first | exact Or.inl rfl | exact Or.inr (Or.inl rfl) | exact Or.inr (Or.inr rfl)) (hd : (x == ("__debug__" : Str)) = false := by decide) (hcd : (x == ("__classdict__" : Str)) = false := by decide)
    (hbase : attributeBase (.Name x p) name X.env (eval (.Name x p) X.env) = eval (.Name x p) X.env := by rfl)
    (hfew : ((backTo pos' (starEach (e :: es) X.env)).all (fun x => !x.1) && (backToKw pos' (keywordEach [] X.env)).all (fun x => x.1.isSome)
      && decide ((e :: es).length + ([] : List Keyword).length + (if ([] : List Keyword).isEmpty then 0 else 1) < 30)) = true := by rfl)
    (hline : (apos.endLine == pos'.line) = true := by rfl) (h1 : starEach (e :: es) X.env = (false, eval e X.env) :: starEach es X.env := by rfl) (h2 : (backTo pos' (starEach es X.env)).any (·.1) = false := by rfl)
    (hy : X.N[j]? = some y := by rfl) (hyl : Loc X.env.scope y := by first | exact Or.inl rfl | exact Or.inr rfl) (hsw : swapsWith (.Call (.Attribute (.Name x p) name apos) (e :: es) [] pos') (some (.Name y py)) pos.line X.env = pure false := by rfl)
    (hf : X.fn y = true ∨ X.env.scope.names.lookup y = some .local := by first | exact .inl rfl | exact .inr rfl | assumption) :
    S X c W (.Assign [.Name y py] (.Call (.Attribute (.Name x p) name apos) (e :: es) [] pos') pos) (sOwnM T i f mas fun v env => env.set j (.val v)) :=
  PS.imp (ps_set hNd hy hyl (pe_bm pa slot hty hm (pe_var hN hv hd hcd) ha hbase hfew hline h1 h2) hsw hf) fun D σ H q => own_run hs (Q := fun z H' => D.nx (σ.set j (some z)) H') (g := fun v env => env.set j (.val v)) (fun ρ ρ0 H H0 h env v z T r k => k _ (T.put j ⟨z, rfl, r⟩ fun _ z => nomatch z)) q
theorem s_ownV0 {y : Str} {py : Pos} {f : Cell → List Opd → MH → Option (Val × Cell)} (hNd : X.N.Nodup) (pa : PlainAttrs T) (slot : Slot T name id) (hty : typeOf (.builtin id) = pure (.type "method_descriptor")) (hm : MtR X id r) (hs : OwnG X (RVal X.K) r f)
    (hN : X.N[i]? = some x := by rfl) (hv : Vis X.env.scope x := by first | exact Or.inl rfl | exact Or.inr (Or.inl rfl) | exact Or.inr (Or.inr rfl)) (hd : (x == ("__debug__" : Str)) = false := by decide) (hcd : (x == ("__classdict__" : Str)) = false := by decide)
    (hbase : attributeBase (.Name x p) name X.env (eval (.Name x p) X.env) = eval (.Name x p) X.env := by rfl)
    (hline : (apos.endLine == pos'.line) = true := by rfl)
    (hy : X.N[j]? = some y := by rfl) (hyl : Loc X.env.scope y := by first | exact Or.inl rfl | exact Or.inr rfl) (hsw : swapsWith (.Call (.Attribute (.Name x p) name apos) [] [] pos') (some (.Name y py)) pos.line X.env = pure false := by rfl)
    (hf : X.fn y = true ∨ X.env.scope.names.lookup y = some .local := by first | exact .inl rfl | exact .inr rfl | assumption) :
    S X c W (.Assign [.Name y py] (.Call (.Attribute (.Name x p) name apos) [] [] pos') pos) (sOwnM T i f aNil fun v env => env.set j (.val v)) :=
  PS.imp (ps_set hNd hy hyl (pe_bm0 pa slot hty hm (pe_var hN hv hd hcd) hbase hline) hsw hf) fun D σ H q => by
    obtain ⟨v, e1, e2, ρ, env, h, T0, F⟩ := own_run hs (Q := fun z H' => D.nx (σ.set j (some z)) H') (g := fun v env => env.set j (.val v)) (fun ρ ρ0 H H0 h env v z T r k => k _ (T.put j ⟨z, rfl, r⟩ fun _ z => nomatch z)) q
    exact ⟨v, e1, e2, F ρ [] H .refl T0.rs .nil⟩
end
end Mi

set_option Elab.async false
set_option linter.all false
set_option maxRecDepth 100000
set_option maxHeartbeats 2000000
set_option autoImplicit false
namespace Mi
open PySem PySem.Spec PyProof.Rows L2
section
variable {X : Cx} {c : Ctx} {W : WX} {m1 m2 : SM} {pos pos' p : Pos} {e : Expr}
def OwnSetG (X : Cx) (t : TSet) (f : Cell → Val → Val → Option Cell) : Prop :=
  ∀ (ρ : List Addr) (H : Hp) (h : MH) (k : Cell) (a : Addr) (b v : Val) (y z : V) (k' : Cell) (Q : Hp → Prop), RS X.K ρ H h → a ∉ ρ → RC X.K ρ H k a → RV X.K ρ H b y → RV X.K ρ H v z → f k b v = some k' →
    (∀ H', (∀ b o, b ≠ a → H b = some o → H' b = some o) → RS X.K ρ H' h → RC X.K ρ H' k' a → Q H') → t (.ref a) y z H Q
def ownPut (i : Nat) (f : Cell → Val → Val → Option Cell) (iv v : Val) : SM := fun env h => match env[i]? with
  | some (.own k) => (match f k iv v with
    | some k' => .next (env.set i (.own k')) h
    | none => .stuck)
  | _ => .stuck
def sOwnSt (i : Nat) (f : Cell → Val → Val → Option Cell) (mv mi : EM Val) : SM := sBind mv fun v env h => match env[i]? with
  | some (.own _) => sBind mi (fun iv => ownPut i f iv v) env h
  | _ => .stuck
theorem own_put {i : Nat} {t : TSet} {f : Cell → Val → Val → Option Cell} (hf : OwnSetG X t f) {D : Ends} {ρ : List Addr} {H : Hp} {h : MH} {env : ME} {σ : St} {b v : Val} {y z : V} {a : Addr} (T : ST X.K c ρ H h env σ) (es : σ[i]? = some (some (.ref a))) (r1 : RV X.K ρ H b y) (r2 : RV X.K ρ H v z)
    (F : FinS X.K c W D ρ H (ownPut i f b v env h)) : t (.ref a) y z H fun H' => D.nx σ H' := by
  unfold ownPut at F
  split at F
  · rename_i k e
    obtain ⟨o, e2, a', e3, _, n, rc⟩ := T.slot_at e
    rw [es] at e2
    cases e2
    cases e3
    split at F
    · rename_i k' ef
      refine hf ρ H h k a b v y z k' _ T.rs n rc r1 r2 ef fun H' keep s' rc' => ?_
      obtain ⟨T2, x⟩ := T.own_set e es keep s' rc'
      exact F ρ σ H' x T2
    · exact F.elim
  · exact F.elim
theorem s_ownSt {i : Nat} {x : Str} {ix : Expr} {t : TSet} {f : Cell → Val → Val → Option Cell} {mv mi : EM Val} {px : Pos} (hs : PSet X t) (hf : OwnSetG X t f) (he : E X c W e mv) (hi : E X c W ix mi)
    (hN : X.N[i]? = some x := by rfl) (hv : Vis X.env.scope x := by first | exact Or.inl rfl | exact Or.inr (Or.inl rfl) | exact Or.inr (Or.inr rfl)) (hd : (x == ("__debug__" : Str)) = false := by decide) (hcd : (x == ("__classdict__" : Str)) = false := by decide)
    (h1 : swapsWithSole [.Subscript (.Name x px) ix p] e pos.line X.env = pure false := by rfl) (h2 : swappedStores [.Subscript (.Name x px) ix p] e X.env = pure none := by rfl)
    (h3 : (assignEach [.Subscript (.Name x px) ix p] X.env).map (·.2) = [assign (.Subscript (.Name x px) ix p) X.env] := by rfl)
    (ha : ∀ v, assign (.Subscript (.Name x px) ix p) X.env v = (do
      let ov ← holding [v] (eval (.Name x px) X.env)
      let iv ← holding [v, ov] (eval ix X.env)
      standAt p
      holding [v, ov, iv] (setItem ov iv v)
      release [v, ov, iv] []) := by intro _; rfl) : S X c W (.Assign [.Subscript (.Name x px) ix p] e pos) (sOwnSt i f mv mi) := PS.imp (ps_asg he (pg_sub (pe_var hN hv hd hcd) hi hs ha) h1 h2 h3) fun D σ H ⟨ρ, env, h, T, F⟩ => by
  refine ⟨ρ, env, h, T, (finS_bind (R := RVal X.K) T F).mono fun z H1 ⟨v, h1, ρ1, e1, T1, r1, F1⟩ => ?_⟩
  split at F1
  · rename_i k ek
    obtain ⟨o, e2, a, rfl, _⟩ := T1.slot_at ek
    refine ⟨_, e2, ρ1, env, h1, T1, (finS_bind (R := RVal X.K) T1 F1).mono fun y H2 ⟨b, h2, ρ2, e3, T2, r2, F2⟩ => ?_⟩
    exact own_put hf T2 e2 r2 (RV.mono T1.rs e3 r1) F2
  · exact F1.elim
def sAug (i : Nat) (f : Opd → Opd → MH → Res Val) (m : EM Val) : SM := fun env h => match env[i]? with
  | some (.val x) => sBind m (fun y env h1 => match f (.val x) (.val y) h1 with
    | some (z, h2) => .next (env.set i (.val z)) h2
    | none => .stuck) env h
  | _ => .stuck
theorem s_aug {i : Nat} {x : Str} {op : Operator} {r : R2} {f : Opd → Opd → MH → Res Val} {m : EM Val} (hN : X.N.Nodup) (ho : OpR X (inplaceOp op) r) (hf : OpG X (RVal X.K) r f) (he : E X c W e m) (hi : X.N[i]? = some x := by rfl) (hx : Loc X.env.scope x := by first | exact Or.inl rfl | exact Or.inr rfl)
    (hl : X.fn x = true ∨ X.env.scope.names.lookup x = some .local := by first | exact .inl rfl | exact .inr rfl | assumption) : S X c W (.AugAssign (.Name x p) op e pos) (sAug i f m) := PS.imp (ps_aug (ti := r) hN hi hx he ho hl) fun D σ H ⟨ρ, env, h, T, F⟩ => by
  unfold sAug at F
  split at F
  · rename_i v ev
    obtain ⟨o, e2, xv, rfl, rx⟩ := T.slot_at ev
    refine ⟨xv, e2, ρ, env, h, T, (finS_bind (R := RVal X.K) T F).mono fun y H1 ⟨b, h1, ρ1, e1, T1, r1, F1⟩ => ?_⟩
    split at F1
    · rename_i z h2 ef
      refine hf ρ1 H1 h1 (.val v) (.val b) xv y z h2 _ T1.rs (RV.mono T.rs e1 rx) r1 ef fun zv H' e3 s3 r3 => ?_
      exact F1 ρ1 _ H' (e3.es T1.rs) ((T1.step e3 s3).put i ⟨zv, rfl, r3⟩ fun _ z => nomatch z)
    · exact F1.elim
  · exact F.elim
def GetG (X : Cx) (r : V → V → Hp → VK → Prop) (f : Val → Val → MH → Option Val) : Prop :=
  ∀ (ρ : List Addr) (H : Hp) (h : MH) (a b v : Val) (x y : V) (Q : VK), RS X.K ρ H h → RV X.K ρ H a x → RV X.K ρ H b y → f a b h = some v → (∀ z, RV X.K ρ H v z → Q z H) → r x y H Q
def sAugS (get : Val → Val → MH → Option Val) (op : Opd → Opd → MH → Res Val) (set : Val → Val → Val → MH → Option MH) (mo mi me : EM Val) : SM := sBind mo fun o => sBind mi fun i env h => match get o i h with
  | some x => sBind me (fun y env h1 => match op (.val x) (.val y) h1 with
    | some (z, h2) => (match set o i z h2 with
      | some h3 => .next env h3
      | none => .stuck)
    | none => .stuck) env h
  | none => .stuck
theorem s_augS {o i : Expr} {op : Operator} {rg : V → V → Hp → VK → Prop} {r : R2} {t : TSet} {get : Val → Val → MH → Option Val} {f : Opd → Opd → MH → Res Val} {set : Val → Val → Val → MH → Option MH} {mo mi me : EM Val} (hg : PGet X rg) (hgf : GetG X rg get) (ho : OpR X (inplaceOp op) r) (hof : OpG X (RVal X.K) r f)
    (hs : PSet X t) (hsf : SetG X t set) (h1 : E X c W o mo) (h2 : E X c W i mi) (h3 : E X c W e me)
    (ha : ∀ ov iv new, augStore i ov iv new = (do holding [new, ov, iv] (setItem ov iv new); release [new, ov, iv] []; pure .next) := by intros; rfl) : S X c W (.AugAssign (.Subscript o i p) op e pos) (sAugS get f set mo mi me) :=
  PS.imp (ps_augS (tip := r) h1 h2 hg h3 ho hs ha) fun D σ H ⟨ρ, env, h, T, F⟩ => by
  refine ⟨ρ, env, h, T, (finS_bind (R := RVal X.K) T F).mono fun x H1 ⟨a, h1, ρ1, e1, T1, r1, F1⟩ => ?_⟩
  refine ⟨ρ1, env, h1, T1, (finS_bind (R := RVal X.K) T1 F1).mono fun y H2 ⟨b, h2, ρ2, e2, T2, r2, F2⟩ => ?_⟩
  have r1 : RV X.K ρ2 H2 a x := RV.mono T1.rs e2 r1
  split at F2
  · rename_i v ev
    refine hgf ρ2 H2 h2 a b v x y _ T2.rs r1 r2 ev fun z rz => ?_
    refine ⟨ρ2, env, h2, T2, (finS_bind (R := RVal X.K) T2 F2).mono fun w H3 ⟨d, h3, ρ3, e3, T3, r3, F3⟩ => ?_⟩
    split at F3
    · rename_i u h4 eu
      refine hof ρ3 H3 h3 (.val v) (.val d) z w u h4 _ T3.rs (RV.mono T2.rs e3 rz) r3 eu fun zv H4 e4 s4 r4 => ?_
      split at F3
      · rename_i h5 e5
        refine hsf ρ3 H4 h4 a b u x y zv h5 _ s4 (RV.mono T3.rs e4 (RV.mono T2.rs e3 r1)) (RV.mono T3.rs e4 (RV.mono T2.rs e3 r2)) r4 e5 fun H5 e6 s6 => ?_
        exact F3 ρ3 σ H5 ((e4.trans e6).es T3.rs) ((T3.step e4 s4).step e6 s6)
      · exact F3.elim
    · exact F3.elim
  · exact F2.elim
def sOwnAug (j : Nat) (get : Cell → Val → Option Val) (op : Opd → Opd → MH → Res Val) (set : Cell → Val → Val → Option Cell) (mi me : EM Val) : SM := fun env h => match env[j]? with
  | some (.own _) => sBind mi (fun i env h => match env[j]? with
    | some (.own k) => (match get k i with
      | some x => sBind me (fun y env h1 => match op (.val x) (.val y) h1 with
        | some (z, h2) => ownPut j set i z env h2
        | none => .stuck) env h
      | none => .stuck)
    | _ => .stuck) env h
  | _ => .stuck
def OwnGetG (X : Cx) (r : V → V → Hp → VK → Prop) (f : Cell → Val → Option Val) : Prop :=
  ∀ (ρ : List Addr) (H : Hp) (h : MH) (k : Cell) (a : Addr) (b v : Val) (y : V) (Q : VK), RS X.K ρ H h → RC X.K ρ H k a → RV X.K ρ H b y → f k b = some v → (∀ z, RV X.K ρ H v z → Q z H) → r (.ref a) y H Q
theorem s_ownAug {j : Nat} {x : Str} {i : Expr} {op : Operator} {rg : V → V → Hp → VK → Prop} {r : R2} {t : TSet} {get : Cell → Val → Option Val} {f : Opd → Opd → MH → Res Val} {set : Cell → Val → Val → Option Cell} {mi me : EM Val} {px : Pos} (hg : PGet X rg) (hgf : OwnGetG X rg get) (ho : OpR X (inplaceOp op) r) (hof : OpG X (RVal X.K) r f)
    (hs : PSet X t) (hsf : OwnSetG X t set) (h2 : E X c W i mi) (h3 : E X c W e me)
    (hN : X.N[j]? = some x := by rfl) (hv : Vis X.env.scope x := by first | exact Or.inl rfl | exact Or.inr (Or.inl rfl) | exact Or.inr (Or.inr rfl)) (hd : (x == ("__debug__" : Str)) = false := by decide) (hcd : (x == ("__classdict__" : Str)) = false := by decide)
    (ha : ∀ ov iv new, augStore i ov iv new = (do holding [new, ov, iv] (setItem ov iv new); release [new, ov, iv] []; pure .next) := by intros; rfl) : S X c W (.AugAssign (.Subscript (.Name x px) i p) op e pos) (sOwnAug j get f set mi me) :=
  PS.imp (ps_augS (tip := r) (pe_var hN hv hd hcd) h2 hg h3 ho hs ha) fun D σ H ⟨ρ, env, h, T, F⟩ => by
  unfold sOwnAug at F
  split at F
  · rename_i k ek
    obtain ⟨o, e2, a, rfl, _⟩ := T.slot_at ek
    refine ⟨_, e2, ρ, env, h, T, (finS_bind (R := RVal X.K) T F).mono fun y H2 ⟨b, h2, ρ2, e2', T2, r2, F2⟩ => ?_⟩
    split at F2
    · rename_i k2 ek2
      obtain ⟨o, e3, a', e4, _, n, rc⟩ := T2.slot_at ek2
      rw [e2] at e3
      cases e3
      cases e4
      split at F2
      · rename_i v ev
        refine hgf ρ2 H2 h2 k2 a b v y _ T2.rs rc r2 ev fun z rz => ?_
        refine ⟨ρ2, env, h2, T2, (finS_bind (R := RVal X.K) T2 F2).mono fun w H3 ⟨d, h3, ρ3, e3, T3, r3, F3⟩ => ?_⟩
        split at F3
        · rename_i u h4 eu
          refine hof ρ3 H3 h3 (.val v) (.val d) z w u h4 _ T3.rs (RV.mono T2.rs e3 rz) r3 eu fun zv H4 e4 s4 r4 => ?_
          exact own_put hsf (T3.step e4 s4) e2 (RV.mono T3.rs e4 (RV.mono T2.rs e3 r2)) r4 (F3.at (e4.es T3.rs))
        · exact F3.elim
      · exact F2.elim
    · exact F2.elim
  · exact F.elim
def loopG (s : Src) (g : Tgt) (mb : SM) : Nat → Nat → SM
  | 0, _ => fun _ _ => .stuck
  | f + 1, i => fun env h => match s.at i h with
    | none => .stuck
    | some none => .next env h
    | some (some v) => match g v env with
      | none => .stuck
      | some env1 => match mb env1 h with
        | .next env2 h2 => loopG s g mb f (i + 1) env2 h2
        | .cont env2 h2 => loopG s g mb f (i + 1) env2 h2
        | .brk env2 h2 => .next env2 h2
        | o => o
def sFor (src : EM Src) (g : Tgt) (mb : SM) : SM := sBind src fun s env h => loopG s g mb (s.size h + 1) 0 env h
abbrev Ctx.add (c : Ctx) (pin : List (Addr × HO)) : Ctx := { c with pin := pin ++ c.pin }
theorem ST.unpin {K : PySem.W.Frag} {ρ : List Addr} {H : Hp} {h : MH} {env : ME} {σ : St} {pin : List (Addr × HO)} (T : ST K (c.add pin) ρ H h env σ) : ST K c ρ H h env σ :=
  ⟨T.rs, T.ex, ⟨T.re.len, fun i s o e1 e2 => by
    have q := T.re.slot i s o e1 e2
    cases s <;> exact q, T.re.sep⟩, fun p hp => T.pn p (List.mem_append_right _ hp)⟩
theorem ST.pinned {K : PySem.W.Frag} {ρ ρ1 : List Addr} {H H1 : Hp} {h h1 : MH} {env : ME} {σ : St} {pin : List (Addr × HO)} (T0 : ST K c ρ H h env σ) (T : ST K c ρ1 H1 h1 env σ) (hp : ∀ p ∈ pin, H1 p.1 = some p.2 ∧ p.1 ∉ ρ1) (hz : ∀ p ∈ pin, H p.1 = none) : ST K (c.add pin) ρ1 H1 h1 env σ :=
  ⟨T.rs, T.ex, ⟨T.re.len, fun i s o e1 e2 => by
    have q := T.re.slot i s o e1 e2
    cases s <;> exact q, T.re.sep⟩, fun p hm => by
    rcases List.mem_append.mp hm with hm | hm
    · refine ⟨(hp p hm).1, (hp p hm).2, fun i k e1 e2 => ?_⟩
      obtain ⟨o, e3, a, rfl, _, _, q⟩ := T0.slot_at e1
      rw [e2] at e3
      cases e3
      obtain ⟨u, hu⟩ := q.there
      rw [hz p hm] at hu; cases hu
    · exact T.pn p hm⟩
theorem for_turns {s : Src} {J : It} {pin : List (Addr × HO)} {g : Tgt} {g0 : TG} {mb : SM} {K : PySem.W.Frag} {D : Ends} {ρ1 : List Addr} {H1 : Hp} {h1 : MH} {env : ME} {σ : St}
    (sem : ∀ (c : Ctx) (ρ : List Addr) (H : Hp) (h : MH) (env : ME) (σ : St) (v : Val) (x : V) (env' : ME) (Q : St → Hp → Prop), ST K c ρ H h env σ → RV K ρ H v x → g v env = some env' → (∀ σ', ST K c ρ H h env' σ' → Q σ' H) → g0 x σ H Q)
    (T : ST K (c.add pin) ρ1 H1 h1 env σ) (hs : RSrc K pin ρ1 H1 s J) (fuel : Nat) (F : FinS K c W D ρ1 H1 (loopG s g mb fuel 0 env h1)) :
    ∃ Wd : Nat → Nat → St → Hp → Prop, (∃ m, Wd 0 m σ H1) ∧ ∀ i m σ H, Wd i m σ H →
      (J.stop i H ∧ D.nx σ H) ∨ (J.go i H ∧ ∃ N : St → Hp → Prop, (∀ σ' H', N σ' H' → ∃ m', m' < m ∧ Wd (i + 1) m' σ' H') ∧ ∀ x H', J.yld i H x H' → g0 x σ H' fun σ2 H2 => (∃ pin, rdS K (c.add pin) W mb { D with nx := N, ct := N, bk := D.nx } σ2 H2)) := by
  refine ⟨fun i m σ H => ∃ (ρ : List Addr) (h : MH) (env : ME), ST K (c.add pin) ρ H h env σ ∧ Es K ρ1 H1 ρ H ∧ FinS K c W D ρ H (loopG s g mb m i env h), ⟨fuel, ρ1, h1, env, T, .refl, F⟩, ?_⟩
  rintro i m σ H ⟨ρ, h, env, T, es, F⟩
  have pins : ∀ p ∈ pin, H p.1 = some p.2 := fun p hp => (T.pn p (List.mem_append_left _ hp)).1
  cases m with
  | zero => exact F.elim
  | succ f =>
    unfold loopG at F
    cases ea : s.at i h with
    | none => rw [ea] at F; exact F.elim
    | some ov =>
      rw [ea] at F
      cases ov with
      | none => exact .inl ⟨hs.stop ρ H h i es pins T.rs ea, F ρ σ H .refl T.unpin⟩
      | some v =>
        obtain ⟨jg, jy⟩ := hs.go ρ H h i v es pins T.rs ea
        refine .inr ⟨jg, fun σ' H' => ∃ (ρ : List Addr) (h : MH) (env : ME), ST K (c.add pin) ρ H' h env σ' ∧ Es K ρ1 H1 ρ H' ∧ FinS K c W D ρ H' (loopG s g mb f (i + 1) env h), fun σ' H' n => ⟨f, Nat.lt_succ_self f, n⟩, fun x H2 y => ?_⟩
        obtain ⟨ey, sy, ry⟩ := jy x H2 y
        have F : FinS K c W D ρ H (match g v env with
          | none => .stuck
          | some env1 => match mb env1 h with
            | .next env2 h2 => loopG s g mb f (i + 1) env2 h2
            | .cont env2 h2 => loopG s g mb f (i + 1) env2 h2
            | .brk env2 h2 => .next env2 h2
            | o => o) := F
        cases eg : g v env with
        | none => rw [eg] at F; exact F.elim
        | some env1 =>
          rw [eg] at F
          have F : FinS K c W D ρ H (match mb env1 h with
            | .next env2 h2 => loopG s g mb f (i + 1) env2 h2
            | .cont env2 h2 => loopG s g mb f (i + 1) env2 h2
            | .brk env2 h2 => .next env2 h2
            | o => o) := F
          have T2 := T.step ey sy
          have es2 := es.trans (ey.es T.rs)
          refine sem (c.add pin) ρ H2 h env σ v x env1 _ T2 ry eg fun σ2 T3 => ⟨pin, ρ, env1, h, T3, ?_⟩
          cases q : mb env1 h with
          | next env2 h2 => rw [q] at F; exact fun ρ' σ' H' x T' => ⟨ρ', h2, env2, T', es2.trans x, F.at ((ey.es T.rs).trans x)⟩
          | cont env2 h2 => rw [q] at F; exact fun ρ' σ' H' x T' => ⟨ρ', h2, env2, T', es2.trans x, F.at ((ey.es T.rs).trans x)⟩
          | brk env2 h2 => rw [q] at F; exact fun ρ' σ' H' x T' => F ρ' σ' H' ((ey.es T.rs).trans x) T'.unpin
          | ret v h2 => rw [q] at F; exact F
          | exc e env2 h2 => rw [q] at F; exact fun ρ' σ' cls d H' x T' r => F ρ' σ' cls d H' ((ey.es T.rs).trans x) T'.unpin r
          | stuck => rw [q] at F; exact F
theorem s_for {tg iter : Expr} {body : List Stmt} {src : EM Src} {g : Tgt} {g0 : TG} {sl : List Nat} {mb : SM} (hp : PassesOwn (model X.prog X.w) X.A X.env X.xe) (hc : X.calm = true) (hi : It_ X c W tg iter src) (hg : GOk X tg g0 sl g) (hb : ∀ c, SS X c W body mb)
    (hs : ∀ x, foldedSetIterable iter X.env x = pure x := by intro _; rfl) : S X c W (.For tg iter body [] pos) (sFor src g mb) := by
  refine PS.imp (ps_for (tb := fun D σ H => ∃ pin, rdS X.K (c.add pin) W mb D σ H) hp hc hi hg.pg ⟨fun pins s σ H D I ⟨pin, h⟩ => (hb (c.add pin)).run pins s σ H D I h⟩ hs) fun D σ H ⟨ρ, env, h, T, F⟩ => ?_
  refine ⟨ρ, env, h, T, (finS_bind (R := RIt X.K) T F).mono fun J H1 ⟨s, h1, ρ1, e1, T1, ⟨pin, r1, z⟩, F1⟩ => ?_⟩
  exact for_turns (fun c ρ H h env σ v x env' Q S r e k => hg.sem c ρ H h env σ v x env' Q S r e fun σ' S' _ => k σ' S') (ST.pinned T T1 r1.pin0 z) r1 _ F1
def sForOwn (i : Nat) (g : Tgt) (mb : SM) : SM := fun env h => match env[i]? with
  | some (.own (.lst vs)) => loopG (.items vs) g mb (vs.length + 1) 0 (env.set i .no) h
  | _ => .stuck
theorem s_forOwn {tg : Expr} {i : Nat} {x : Str} {body : List Stmt} {g : Tgt} {g0 : TG} {sl : List Nat} {mb : SM} (hp : PassesOwn (model X.prog X.w) X.A X.env X.xe) (hc : X.calm = true) (hg : GOk X tg g0 sl g) (hb : ∀ c, SS X c W body mb)
    (hN : X.N[i]? = some x := by rfl) (hv : Vis X.env.scope x := by first | exact Or.inl rfl | exact Or.inr (Or.inl rfl) | exact Or.inr (Or.inr rfl)) (hd : (x == ("__debug__" : Str)) = false := by decide) (hcd : (x == ("__classdict__" : Str)) = false := by decide)
    (hs : ∀ y, foldedSetIterable (.Name x p) X.env y = pure y := by intro _; rfl) : S X c W (.For tg (.Name x p) body [] pos) (sForOwn i g mb) := by
  refine PS.imp (ps_for (tb := fun D σ H => ∃ pin, rdS X.K (c.add pin) W mb D σ H) hp hc (pi_any (pe_var hN hv hd hcd)) hg.pg ⟨fun pins s σ H D I ⟨pin, h⟩ => (hb (c.add pin)).run pins s σ H D I h⟩ hs) fun D σ H ⟨ρ, env, h, T, F⟩ => ?_
  unfold sForOwn at F
  split at F
  · rename_i vs e
    obtain ⟨o, e2, a, rfl, z, n, xs, q, r⟩ := T.slot_at e
    refine ⟨_, e2, .inl ⟨a, xs, rfl, SqL.of q, ?_⟩⟩
    have T2 : ST X.K c ρ H h (env.set i .no) σ := by
      have := T.put i (s := .no) (o := some (.ref a)) trivial fun _ z => nomatch z
      rwa [show σ.set i (some (V.ref a)) = σ from by
        apply List.ext_getElem?
        intro j
        by_cases hj : i = j
        · subst hj
          rw [List.getElem?_set_self (List.getElem?_eq_some_iff.mp e2).1, e2]
        · rw [List.getElem?_set_ne hj]] at this
    refine for_turns (pin := [(a, .lst xs)]) (fun c ρ H h env σ v x env' Q S r e k => hg.sem c ρ H h env σ v x env' Q S r e fun σ' S' _ => k σ' S') ⟨T2.rs, T2.ex, ⟨T2.re.len, fun j s o e1 e2 => by
        have q := T2.re.slot j s o e1 e2
        cases s <;> exact q, T2.re.sep⟩, fun p hm => ?_⟩ (src_lst q n r) _ F
    rcases List.mem_append.mp hm with hm | hm
    · rw [List.mem_singleton.mp hm]
      refine ⟨q, n, fun j k e3 e4 => ?_⟩
      by_cases hj : j = i
      · have hl : i < env.length := (List.getElem?_eq_some_iff.mp e).1
        rw [hj, List.getElem?_set_self hl] at e3
        cases e3
      · rw [List.getElem?_set_ne (Ne.symm hj)] at e3
        exact T.re.sep j i k _ a hj e3 e e4 e2
    · exact T2.pn p hm
  · exact F.elim
def loopW (t : EM Bool) (mb : SM) : Nat → SM
  | 0 => fun _ _ => .stuck
  | f + 1 => sBind t fun k env h => if k = true then match mb env h with
      | .next env2 h2 => loopW t mb f env2 h2
      | .cont env2 h2 => loopW t mb f env2 h2
      | .brk env2 h2 => .next env2 h2
      | o => o
    else .next env h
theorem s_while {t : EM Bool} {mb : SM} {body : List Stmt} (fuel : Nat) (hp : PassesOwn (model X.prog X.w) X.A X.env X.xe) (ht : TB X c W e t) (hb : SS X c W body mb) : S X c W (.While e body [] pos) (loopW t mb fuel) := by
  refine PS.imp (ps_while hp ht hb) fun D σ H ⟨ρ, env, h, T, F⟩ => ?_
  refine ⟨fun m σ H => ∃ (ρ : List Addr) (h : MH) (env : ME), ST X.K c ρ H h env σ ∧ FinS X.K c W D ρ H (loopW t mb m env h), ⟨fuel, ρ, h, env, T, F⟩, ?_⟩
  rintro m σ H ⟨ρ, h, env, T, F⟩
  cases m with
  | zero => exact F.elim
  | succ f =>
    refine ⟨ρ, env, h, T, (finS_bind (R := RBool) T F).mono fun k H1 ⟨k', h1, ρ1, e1, T1, r1, F1⟩ => ?_⟩
    have r1 : k' = k := r1
    subst r1
    split at F1
    · rename_i hk
      rw [if_pos hk]
      refine ⟨fun σ' H' => ∃ (ρ : List Addr) (h : MH) (env : ME), ST X.K c ρ H' h env σ' ∧ FinS X.K c W D ρ H' (loopW t mb f env h), fun σ' H' n => ⟨f, Nat.lt_succ_self f, n⟩, ρ1, env, h1, T1, ?_⟩
      cases q : mb env h1 with
      | next env2 h2 => rw [q] at F1; exact fun ρ' σ' H' x T' => ⟨ρ', h2, env2, T', F1.at x⟩
      | cont env2 h2 => rw [q] at F1; exact fun ρ' σ' H' x T' => ⟨ρ', h2, env2, T', F1.at x⟩
      | brk env2 h2 => rw [q] at F1; exact fun ρ' σ' H' x T' => F1 ρ' σ' H' x T'
      | ret v h2 => rw [q] at F1; exact F1
      | exc e env2 h2 => rw [q] at F1; exact F1
      | stuck => rw [q] at F1; exact F1
    · rename_i hk
      rw [if_neg hk]
      exact F1 ρ1 σ H1 .refl T1
def mFun (n k : Nat) (m : SM) : FM := fun args h => if args.length = k then (match m (args.map Sl.val ++ List.replicate (n - k) Sl.no) h with
    | .next _ h' => .ok .non h'
    | .ret v h' => .ok v h'
    | .exc e _ h' => .exc e h'
    | _ => .stuck) else .stuck
theorem start_re {K : PySem.W.Frag} {ρ : List Addr} {H : Hp} {args : List Val} {vs : List V} {N : List Str} {k : Nat} {xc : Option (Addr × Value × Option Addr)} (r : RVs K ρ H args vs) (hk : args.length = k) (hn : k ≤ N.length) : RE K ⟨xc, ρ, H, []⟩ ρ H (args.map Sl.val ++ List.replicate (N.length - k) Sl.no) (L2.start N vs) := by
  have hv : vs.length = k := by rw [← r.length]; exact hk
  have noOwn : ∀ (i : Nat) (kk : Cell), (args.map Sl.val ++ List.replicate (N.length - k) Sl.no)[i]? ≠ some (.own kk) := fun i kk e => by
    by_cases hi : i < (args.map Sl.val).length
    · rw [List.getElem?_append_left hi, List.getElem?_map] at e
      cases q : args[i]? with
      | none => rw [q] at e; cases e
      | some a => rw [q] at e; cases e
    · rw [List.getElem?_append_right (Nat.le_of_not_lt hi)] at e
      have := List.mem_of_getElem? e
      rw [List.mem_replicate] at this
      cases this.2
  refine ⟨by unfold L2.start; simp [hv, hk], fun i s o e1 e2 => ?_, fun i j k1 k2 a _ e1 => absurd e1 (noOwn i k1)⟩
  unfold L2.start at e2
  by_cases hi : i < k
  · rw [List.getElem?_append_left (by simp [hk, hi]), List.getElem?_map] at e1
    rw [List.getElem?_append_left (by simp [hv, hi]), List.getElem?_map] at e2
    cases q : vs[i]? with
    | none => rw [q] at e2; cases e2
    | some x =>
      rw [q] at e2
      obtain ⟨v, ev, rv⟩ := r.get q
      rw [ev] at e1
      cases e1; cases e2
      exact ⟨x, rfl, rv⟩
  · rw [List.getElem?_append_right (by simp [hk]; omega)] at e1
    have := List.mem_of_getElem? e1
    rw [List.mem_replicate] at this
    cases this.2
    trivial
end
theorem def_fn {P : Program} {w : World} {K : PySem.W.Frag} {mg : Str → Option Value} {base : Heap} {x qual : Str} {params : Arguments} {body : List Stmt} {scope : Scope} {f : Addr} {fd : FuncData} {N ps : List Str} {k : Nat} {m : SM}
    (F : FunD K x qual params body scope [] [] f fd) (S : FnScope N ps scope)
    (hbody : ∀ (cdv : Value) (A : Around) (outer : List Env) (s : Shared) (H : Hp) (E : XK) (c : Ctx), Room k (A.deeper (envOfC qual scope s.heap.objs.size f cdv)) →
      Takes (cxOf (L2.CX P w) P w K mg base N qual scope f cdv A outer s H E) (fun cls d _ H => E cls d H) → PassesOwn (model P w) (A.deeper (envOfC qual scope s.heap.objs.size f cdv)) (envOfC qual scope s.heap.objs.size f cdv) (cxOf (L2.CX P w) P w K mg base N qual scope f cdv A outer s H E).xe →
      SS (cxOf (L2.CX P w) P w K mg base N qual scope f cdv A outer s H E) c (fun cls d _ H => E cls d H) body m) : FnOk P w K mg base (L2.CX P w) (k + 1) f fd ps (spF K (mFun N.length ps.length m)) := by
  refine F.ok S (fun vs H Q E h => ?_) (fun cdv A outer s H vs Q E hr h => ?_)
  · obtain ⟨ρ, args, h, rs, ra, q⟩ := h
    by_cases hl : args.length = ps.length
    · rw [← ra.length]; exact hl
    · have e : mFun N.length ps.length m args h = .stuck := if_neg hl
      rw [e] at q
      exact q.elim
  · obtain ⟨ρ, args, h, rs, ra, q⟩ := h
    have hle : ps.length ≤ N.length := by
      have := congrArg List.length S.pre
      rw [List.length_take] at this
      omega
    have B := hbody cdv A outer s H E ⟨none, ρ, H, []⟩ hr (takes_of rfl rfl rfl rfl) (passes_of rfl)
    refine ⟨_, B, ?_⟩
    by_cases hl : args.length = ps.length
    · have e0 : mFun N.length ps.length m args h = (match m (args.map Sl.val ++ List.replicate (N.length - ps.length) Sl.no) h with
        | .next _ h' => .ok .non h'
        | .ret v h' => .ok v h'
        | .exc e _ h' => .exc e h'
        | _ => .stuck) := if_pos hl
      rw [e0] at q
      refine ⟨ρ, _, h, ⟨rs, .refl, start_re ra hl hle, fun _ hp => nomatch hp⟩, ?_⟩
      cases e : m (args.map Sl.val ++ List.replicate (N.length - ps.length) Sl.no) h with
      | next env h' => rw [e] at q; exact fun ρ' σ' H' x T' => q ρ' .non H' T'.ex T'.rs .non
      | ret v h' => rw [e] at q; exact fun ρ' x H' ex s r => q ρ' x H' ex s r
      | exc ex env h' => rw [e] at q; exact fun ρ' σ' cls d H' x T' r => q ρ' cls d H' T'.ex T'.rs r
      | brk _ _ => rw [e] at q; exact q.elim
      | cont _ _ => rw [e] at q; exact q.elim
      | stuck => rw [e] at q; exact q.elim
    · have e : mFun N.length ps.length m args h = .stuck := if_neg hl
      rw [e] at q
      exact q.elim
theorem def_ok {P : Program} {w : World} {K : PySem.W.Frag} {mg : Str → Option Value} {base : Heap} {x qual : Str} {params : Arguments} {body : List Stmt} {scope : Scope} {f : Addr} {fd : FuncData} {N ps : List Str} {k : Nat} {m : SM}
    (F : FunD K x qual params body scope [] [] f fd) (S : FnScope N ps scope) (hm : mg x = some (.ref f)) (hb : Binds K fd ps [])
    (hbody : ∀ (cdv : Value) (A : Around) (outer : List Env) (s : Shared) (H : Hp) (E : XK) (c : Ctx), Room k (A.deeper (envOfC qual scope s.heap.objs.size f cdv)) →
      Takes (cxOf (L2.CX P w) P w K mg base N qual scope f cdv A outer s H E) (fun cls d _ H => E cls d H) → PassesOwn (model P w) (A.deeper (envOfC qual scope s.heap.objs.size f cdv)) (envOfC qual scope s.heap.objs.size f cdv) (cxOf (L2.CX P w) P w K mg base N qual scope f cdv A outer s H E).xe →
      SS (cxOf (L2.CX P w) P w K mg base N qual scope f cdv A outer s H E) c (fun cls d _ H => E cls d H) body m) : Def P w K mg base x (k + 1) (mFun N.length ps.length m) :=
  ⟨f, fd, ps, def_fn F S hbody, hm, F.kp, hb⟩
end Mi

set_option Elab.async false
set_option linter.all false
set_option maxRecDepth 100000
set_option maxHeartbeats 2000000
set_option autoImplicit false
namespace Mi
open PySem PySem.Spec PyProof.Rows L2

def RFr (K : PySem.W.Frag) : Rel Opd V := fun Hs ρ H o x => match o with
  | .val v => RV K ρ H v x
  | .cell k => RNew K Hs ρ H k x
theorem mon_fr {K : PySem.W.Frag} : RMon (RFr K) := fun _ _ _ _ _ _ o _ x f r => by
  cases o with
  | val v => exact r
  | cell k => exact mon_new (K := K) _ _ _ _ _ _ k _ x f r
def EF (X : Cx) (c : Ctx) (W : WX) (e : Expr) (m : EM Opd) : Prop := PE X e (rd X.K c W (RFr X.K) m)
theorem RFr.opd {K : PySem.W.Frag} {Hs : Hp} {ρ : List Addr} {H : Hp} {o : Opd} {x : V} (r : RFr K Hs ρ H o x) : ROpd K Hs ρ H o x := by
  cases o with
  | val v => exact r
  | cell k => obtain ⟨a, e, _, n, q⟩ := r; exact ⟨a, e, n, q⟩
section
variable {X : Cx} {c : Ctx} {W : WX} {e : Expr}
theorem o_f {m : EM Opd} (p : EF X c W e m) : EO X c W e m := PE.imp p fun σ H Q ⟨ρ, env, h, S, F⟩ => ⟨ρ, env, h, S, by
  cases q : m env h with
  | ok a h1 => rw [q] at F; exact fun ρ' x H' ex s r => F ρ' x H' ex s r.opd
  | exc e' h1 => rw [q] at F; exact F
  | stuck => rw [q] at F; exact F⟩
def xPutF (m : EM Opd) : EM Val := fun env h => (m env h).bind fun o h1 => match o with
  | .val v => .ok v h1
  | .cell k => .ok (.ref h1.length) (h1 ++ [k])
theorem e_f {m : EM Opd} (p : EF X c W e m) : E X c W e (xPutF m) := PE.imp p fun σ H Q ⟨ρ, env, h, S, F⟩ => ⟨ρ, env, h, S, by
  have F : Fin X.K W σ (RVal X.K) ρ H Q ((m env h).bind fun o h1 => match o with
    | .val v => .ok v h1
    | .cell k => .ok (.ref h1.length) (h1 ++ [k])) := F
  cases q : m env h with
  | ok o h1 =>
    rw [q] at F
    cases o with
    | val v => exact fun ρ' x H' ex s r => F ρ' x H' ex s r
    | cell k =>
      rintro ρ1 x H1 ex s1 ⟨a, rfl, z, n, r⟩
      obtain ⟨s2, r2⟩ := s1.put n r
      exact F _ _ _ (ex.put z) s2 r2
  | exc e' h1 => rw [q] at F; exact F
  | stuck => rw [q] at F; exact F⟩
def Opd.cellOf : Opd → Option Cell
  | .cell k => some k
  | _ => none
def xCellOf (m : EM Opd) : EM Cell := fun env h => (m env h).bind fun o h1 => match o.cellOf with | some b => .ok b h1 | none => .stuck
theorem n_f {m : EM Opd} (p : EF X c W e m) : EC X c W e (xCellOf m) := PE.imp p fun σ H Q ⟨ρ, env, h, S, F⟩ => ⟨ρ, env, h, S, by
  have F : Fin X.K W σ (RNew X.K) ρ H Q ((m env h).bind fun o h1 => match o.cellOf with | some b => .ok b h1 | none => .stuck) := F
  cases q : m env h with
  | ok o h1 =>
    rw [q] at F
    cases o with
    | val v => exact F.elim
    | cell k => exact fun ρ' x H' ex s r => F ρ' x H' ex s r
  | exc e' h1 => rw [q] at F; exact F
  | stuck => rw [q] at F; exact F⟩
theorem f_v {m : EM Val} (p : E X c W e m) : EF X c W e (xV m) := PE.imp p fun σ H Q q => rd_map (R' := RFr X.K) (g := Opd.val) (fun _ _ _ _ _ r => r) q
theorem f_n {m : EM Cell} (p : EC X c W e m) : EF X c W e (xN m) := PE.imp p fun σ H Q q => rd_map (R' := RFr X.K) (g := Opd.cell) (fun _ _ _ _ _ r => r) q
variable {tg iter : Expr}
theorem it_f {m : EM Opd} (h : EF X c W iter m) : It_ X c W tg iter (xSrc m) := PI.imp (pi_any h) fun σ H R ⟨ρ, env, h, S, F⟩ => by
  refine ⟨ρ, env, h, S, ?_⟩
  have F : Fin X.K W σ (RIt X.K) ρ H R ((m env h).bind fun o h1 => match srcOf o h1 with
    | some s => .ok s h1
    | none => .stuck) := F
  cases e : m env h with
  | exc e' h1 => rw [e] at F; exact F
  | stuck => rw [e] at F; exact F
  | ok o h1 =>
    rw [e] at F
    intro ρ1 x H1 e1 s1 r1
    have F : Fin X.K W σ (RIt X.K) ρ H R (match srcOf o h1 with
      | some s => .ok s h1
      | none => .stuck) := F
    cases q : srcOf o h1 with
    | none => rw [q] at F; exact F.elim
    | some s =>
      rw [q] at F
      obtain ⟨J, pin, hs, hp, hp2, k⟩ := srcOf_ok s1 r1.opd q
      have F2 : ∀ (ρ' : List Addr) (J : It) (H' : Hp), Ex ρ H ρ' H' → RS X.K ρ' H' h1 → RIt X.K H ρ' H' s J → R J H' := F
      clear F e
      cases o with
      | val v =>
        have hp := hp v rfl
        subst hp
        exact k R (F2 ρ1 J H1 e1 s1 ⟨[], hs, fun _ h => nomatch h⟩)
      | cell v =>
        obtain ⟨a, rfl, z, n, r⟩ := r1
        exact k R (F2 ρ1 J H1 e1 s1 ⟨pin, hs, fun p hp' => by cases hp2 p hp'; exact z⟩)
theorem iv_f {m : EM Opd} (h : EF X c W iter m) : ItV X c W tg iter (xSrc m) := iv_o (o_f h)
end
theorem Good.val {K : PySem.W.Frag} {ρ : List Addr} {H : Hp} {Q : VK} {v : Val} {h : MH} (G : Good K (RFr K) ρ H Q (.val v) h) : Good K (RVal K) ρ H Q v h := fun z H' e s r => G z H' e s r
theorem Good.cell {K : PySem.W.Frag} {ρ : List Addr} {H : Hp} {Q : VK} {k : Cell} {h : MH} (G : Good K (RFr K) ρ H Q (.cell k) h) : Good K (RNew K) ρ H Q k h := fun z H' e s r => G z H' e s r
theorem Good.now {K : PySem.W.Frag} {ρ : List Addr} {H : Hp} {h : MH} {Q : VK} {v : Val} {x : V} (G : Good K (RVal K) ρ H Q v h) (S : RS K ρ H h) (r : RV K ρ H v x) : Q x H := G x H .refl S r

def lstOf (o : Opd) (h : MH) : Option (List Val) := match o with
  | .cell (.lst vs) => some vs
  | .val (.ref n) => (match h[n]? with
    | some (.lst vs) => some vs
    | _ => none)
  | _ => none
theorem lstOf_ok {K : PySem.W.Frag} {Hs : Hp} {ρ : List Addr} {H : Hp} {h : MH} {o : Opd} {x : V} {vs : List Val} (S : RS K ρ H h) (r : ROpd K Hs ρ H o x) (e : lstOf o h = some vs) : ∃ a xs, x = .ref a ∧ H a = some (.lst xs) ∧ RVs K ρ H vs xs := by
  cases o with
  | val v =>
    have r : RV K ρ H v x := r
    cases r with
    | @ref n a en =>
      unfold lstOf at e
      simp only at e
      split at e
      · rename_i us eh
        cases e
        obtain ⟨xs, q, r⟩ := S.cell n _ a eh en
        exact ⟨a, xs, rfl, q, r⟩
      · cases e
    | _ => cases e
  | cell k =>
    obtain ⟨a, rfl, n, q⟩ := r
    cases k with
    | lst us => cases e; obtain ⟨xs, q, r⟩ := q; exact ⟨a, xs, rfl, q, r⟩
    | _ => cases e
def lisOf (o : Opd) (h : MH) : Option (List Val) := match o with
  | .cell (.lst vs) => some vs
  | .val (.kls is) => some (is.map .int)
  | .val (.ref n) => (match h[n]? with
    | some (.lst vs) => some vs
    | some (.frz vs) => some vs
    | _ => none)
  | _ => none
theorem lisOf_ok {K : PySem.W.Frag} {Hs : Hp} {ρ : List Addr} {H : Hp} {h : MH} {o : Opd} {x : V} {vs : List Val} (S : RS K ρ H h) (r : ROpd K Hs ρ H o x) (e : lisOf o h = some vs) : ∃ a xs, x = .ref a ∧ SqL K H a xs ∧ RVs K ρ H vs xs := by
  cases o with
  | val v =>
    have r : RV K ρ H v x := r
    cases r with
    | @ref n a en =>
      unfold lisOf at e
      simp only at e
      split at e
      · rename_i us eh
        cases e
        obtain ⟨xs, q, r⟩ := S.cell n _ a eh en
        exact ⟨a, xs, rfl, SqL.of q, r⟩
      · rename_i us eh
        cases e
        obtain ⟨ob, xs, q, r⟩ := S.cell n _ a eh en
        exact ⟨a, xs, rfl, .inl (.inr ⟨ob, q⟩), r⟩
      · cases e
    | kls q => cases e; exact ⟨_, _, rfl, .inr q, RVs.of_ints _⟩
    | _ => cases e
  | cell k =>
    obtain ⟨a, rfl, n, q⟩ := r
    cases k with
    | lst us => cases e; obtain ⟨xs, q, r⟩ := q; exact ⟨a, xs, rfl, SqL.of q, r⟩
    | _ => cases e
def itmOf (o : Opd) (h : MH) : Option (List Val) := match o with
  | .val (.tup vs) => some vs
  | o => lisOf o h
theorem itmOf_ok {K : PySem.W.Frag} {Hs : Hp} {ρ : List Addr} {H : Hp} {h : MH} {o : Opd} {x : V} {vs : List Val} (S : RS K ρ H h) (r : ROpd K Hs ρ H o x) (e : itmOf o h = some vs) : ∃ a xs, x = .ref a ∧ (SqL K H a xs ∨ SqT K H a xs) ∧ RVs K ρ H vs xs := by
  unfold itmOf at e
  split at e
  · cases e
    have r : RV K ρ H (.tup vs) x := r
    cases r with
    | tup q r2 => exact ⟨_, _, rfl, .inr (SqT.of q), r2⟩
  · obtain ⟨a, xs, e1, q, r⟩ := lisOf_ok S r e
    exact ⟨a, xs, e1, .inl q, r⟩
theorem line5 {n : Nat} (h : n ≤ 100000) : n ≤ sizeLine := by rw [sizeLine_eq]; omega
theorem rv_int {K : PySem.W.Frag} {Hs : Hp} {ρ : List Addr} {H : Hp} {i : Int} {x : V} (r : ROpd K Hs ρ H (.val (.int i)) x) : x = .int i := by
  have r : RV K ρ H (.int i) x := r
  cases r; rfl
theorem rv_str {K : PySem.W.Frag} {Hs : Hp} {ρ : List Addr} {H : Hp} {i : Str} {x : V} (r : ROpd K Hs ρ H (.val (.str i)) x) : x = .str i := by
  have r : RV K ρ H (.str i) x := r
  cases r; rfl
theorem rv_tup {K : PySem.W.Frag} {Hs : Hp} {ρ : List Addr} {H : Hp} {vs : List Val} {x : V} (r : ROpd K Hs ρ H (.val (.tup vs)) x) : ∃ a xs, x = .ref a ∧ H a = some (.tup xs) ∧ RVs K ρ H vs xs := by
  have r : RV K ρ H (.tup vs) x := r
  cases r with
  | tup q r2 => exact ⟨_, _, rfl, q, r2⟩
theorem good_tupF {K : PySem.W.Frag} {ρ : List Addr} {H : Hp} {h : MH} {Q : VK} {vs : List Val} {xs : List V} (S : RS K ρ H h) (r : RVs K ρ H vs xs) (G : Good K (RFr K) ρ H Q (.val (.tup vs)) h) {p : Addr} (e : H p = none) : Q (.ref p) (upd H p (.tup xs)) := good_tup S r G.val e
theorem good_lstF {K : PySem.W.Frag} {ρ : List Addr} {H : Hp} {h : MH} {Q : VK} {vs : List Val} {xs : List V} (S : RS K ρ H h) (r : RVs K ρ H vs xs) (G : Good K (RFr K) ρ H Q (.cell (.lst vs)) h) {p : Addr} (e : H p = none) : Q (.ref p) (upd H p (.lst xs)) := good_lst S r G.cell e

def fAdd (a b : Opd) (h : MH) : Res Opd := match a, b with
  | .val (.int i), .val (.int j) => some (.val (.int (i + j)), h)
  | .val (.str i), .val (.str j) => if i.length + j.length ≤ 100000 then some (.val (.str (i ++ j)), h) else none
  | .val (.tup xs), .val (.tup ys) => if xs.length + ys.length ≤ 100000 then some (.val (.tup (xs ++ ys)), h) else none
  | a, b => match lstOf a h, lstOf b h with
    | some xs, some ys => if xs.length + ys.length ≤ 100000 then some (.cell (.lst (xs ++ ys)), h) else none
    | _, _ => none
section
variable {X : Cx}
abbrev rAddF (K : PySem.W.Frag) : R2 := fun x y H Q => (∃ i j, x = .int i ∧ y = .int j ∧ Q (.int (i + j)) H) ∨ ((∃ i j, x = .str i ∧ y = .str j ∧ i.length + j.length ≤ sizeLine ∧ Q (.str (i ++ j)) H) ∨ (rCatA K x y H Q ∨ rCat x y H Q))
theorem o_add : OpR X (binaryOp .Add) (rAddF X.K) := op_add.or (op_add_str.or (op_catA.or op_cat))
theorem g_add : OpG X (RFr X.K) (rAddF X.K) fAdd := fun ρ H h a b x y v h' Q S ra rb e G => by
  unfold fAdd at e
  split at e
  · cases e
    rw [rv_int ra, rv_int rb]
    exact .inl ⟨_, _, rfl, rfl, G _ _ .refl S (.int _)⟩
  · split at e
    · cases e
      rename_i hz
      rw [rv_str ra, rv_str rb]
      exact .inr (.inl ⟨_, _, rfl, rfl, line5 hz, G _ _ .refl S (.str _)⟩)
    · cases e
  · rename_i us ws
    split at e
    · cases e
      rename_i hz
      obtain ⟨p, xs, rfl, q1, r1⟩ := rv_tup ra
      obtain ⟨p2, ys, rfl, q2, r2⟩ := rv_tup rb
      refine .inr (.inr (.inl ⟨p, p2, xs, ys, rfl, rfl, SqT.of q1, SqT.of q2, line5 (by rw [← r1.length, ← r2.length]; exact hz), fun z => ?_, fun _ z => ?_, fun _ _ p3 h3 => ?_⟩))
      · subst z
        cases r1
        exact G _ _ .refl S rb
      · subst z
        cases r2
        exact G _ _ .refl S (by rw [List.append_nil]; exact ra)
      · exact good_tupF S (r1.append r2) G h3
    · cases e
  · split at e
    · rename_i us ws e1 e2
      split at e
      · cases e
        rename_i hz
        obtain ⟨p, xs, rfl, q1, r1⟩ := lstOf_ok S ra e1
        obtain ⟨p2, ys, rfl, q2, r2⟩ := lstOf_ok S rb e2
        exact .inr (.inr (.inr ⟨p, p2, xs, ys, rfl, rfl, q1, q2, line5 (by rw [← r1.length, ← r2.length]; exact hz), fun p3 h3 => good_lstF S (r1.append r2) G h3⟩))
      · cases e
    · cases e

theorem dC {p : Prop} {i : Decidable p} (h : decide p = true) : p := of_decide_eq_true h
def fI (C : Int → Int → Bool) (g : Int → Int → Val) (a b : Opd) (h : MH) : Res Val := match a, b with
  | .val (.int i), .val (.int j) => if C i j = true then some (g i j, h) else none
  | _, _ => none
theorem fI_ok {R : R2} {C : Int → Int → Bool} {g : Int → Int → Val} {g' : Int → Int → V} (hg : ∀ i j ρ H, RV X.K ρ H (g i j) (g' i j)) (hr : ∀ i j H Q, C i j = true → Q (g' i j) H → R (.int i) (.int j) H Q) : OpG X (RVal X.K) R (fI C g) := fun ρ H h a b x y v h' Q S ra rb e G => by
  unfold fI at e
  split at e
  · split at e
    · rename_i hc
      cases e
      rw [rv_int ra, rv_int rb]
      exact hr _ _ H Q hc (G.now S (hg _ _ ρ H))
    · cases e
  · cases e
def fSub := fI (fun _ _ => true) fun i j => .int (i - j)
theorem g_sub : OpG X (RVal X.K) (rI0 fun i j => .int (i - j)) fSub := fI_ok (fun _ _ _ _ => .int _) fun i j H Q _ q => ⟨i, j, rfl, rfl, q⟩
def cDiv (i j : Int) : Bool := decide (0 < j ∧ j < 1073741824)
def fDiv := fI cDiv fun i j => .int (i / j)
theorem g_div : OpG X (RVal X.K) (rI CDiv fun i j => .int (i / j)) fDiv := fI_ok (fun _ _ _ _ => .int _) fun i j H Q c q => ⟨i, j, rfl, rfl, dC c, q⟩
def fMod := fI (fun _ j => decide (0 < j)) fun i j => .int (i % j)
theorem g_mod : OpG X (RVal X.K) (rI (fun _ j => 0 < j) fun i j => .int (i % j)) fMod := fI_ok (fun _ _ _ _ => .int _) fun i j H Q c q => ⟨i, j, rfl, rfl, dC c, q⟩
def cPow (i j : Int) : Bool := decide (0 ≤ j ∧ j ≤ 1000000 ∧ i.natAbs < 2 ^ 64)
def fPow := fI cPow fun i j => .int (i ^ j.toNat)
theorem g_pow : OpG X (RVal X.K) (rI CPow fun i j => .int (i ^ j.toNat)) fPow := fI_ok (fun _ _ _ _ => .int _) fun i j H Q c q => ⟨i, j, rfl, rfl, dC c, q⟩
def fShl := fI cPow fun i j => .int (i * 2 ^ j.toNat)
theorem g_shl : OpG X (RVal X.K) (rI CPow fun i j => .int (i * 2 ^ j.toNat)) fShl := fI_ok (fun _ _ _ _ => .int _) fun i j H Q c q => ⟨i, j, rfl, rfl, dC c, q⟩
def fShr := fI (fun _ j => decide (0 ≤ j)) fun i j => .int (i / 2 ^ j.toNat)
theorem g_shr : OpG X (RVal X.K) (rI (fun _ j => 0 ≤ j) fun i j => .int (i / 2 ^ j.toNat)) fShr := fI_ok (fun _ _ _ _ => .int _) fun i j H Q c q => ⟨i, j, rfl, rfl, dC c, q⟩
def fAnd := fI (fun _ _ => true) fun i j => .int (Builtin.bitAnd i j)
theorem g_and : OpG X (RVal X.K) (rI0 fun i j => .int (Builtin.bitAnd i j)) fAnd := fI_ok (fun _ _ _ _ => .int _) fun i j H Q _ q => ⟨i, j, rfl, rfl, q⟩
def fOr := fI (fun _ _ => true) fun i j => .int (Builtin.bitOr i j)
theorem g_or : OpG X (RVal X.K) (rI0 fun i j => .int (Builtin.bitOr i j)) fOr := fI_ok (fun _ _ _ _ => .int _) fun i j H Q _ q => ⟨i, j, rfl, rfl, q⟩
def fXor := fI (fun _ _ => true) fun i j => .int (Builtin.bitXor i j)
theorem g_xor : OpG X (RVal X.K) (rI0 fun i j => .int (Builtin.bitXor i j)) fXor := fI_ok (fun _ _ _ _ => .int _) fun i j H Q _ q => ⟨i, j, rfl, rfl, q⟩
def cMul (i j : Int) : Bool := decide ((-(2 ^ 64) < i ∧ i < 2 ^ 64) ∨ (-(2 ^ 64) < j ∧ j < 2 ^ 64))
def strRep (x : Str) (n : Nat) : Str := if (((n : Int) == 1) || x.length == 0) = true then x else ⟨(List.replicate n x.cps).foldl (fun a b => a ++ b) #[]⟩
theorem rep_size (a : Array Nat) (n : Nat) : ∀ acc : Array Nat, ((List.replicate n a).foldl (fun a b => a ++ b) acc).size = acc.size + n * a.size := by
  induction n with
  | zero => intro acc; simp
  | succ n ih =>
    intro acc
    rw [List.replicate_succ, List.foldl_cons, ih, Array.size_append, Nat.succ_mul]
    omega
theorem op_mul_str : OpR X (binaryOp .Mult) (fun x y H Q => ∃ s k, x = .str s ∧ y = .int k ∧ (1 ≤ k ∧ k ≤ 1000 ∧ s.length ≤ 1000) ∧ Q (.str (strRep s k.toNat)) H) := by
  intro pins s σ H x y v u Q I rx ry h
  obtain ⟨i, k, rfl, rfl, ⟨h1, h2, h3⟩, q⟩ := h
  obtain ⟨t, rfl⟩ := rx
  obtain ⟨t', rfl⟩ := ry
  have hn : i.length * k.toNat ≤ 1000000 := Nat.le_trans (Nat.mul_le_mul h3 (show k.toNat ≤ 1000 by omega)) (by decide)
  have hk : ((k.toNat : Nat) : Int) = k := by omega
  refine PySem.P.mul_str (by rw [decide_eq_false (by omega), decide_eq_false (by omega)]; rfl) (fun _ _ => ?_) (fun _ _ => ?_) ?_
  · have : (1000 : Int) ≤ (2 ^ 63 - 1) / k := Int.le_ediv_of_mul_le (by omega) (by omega)
    omega
  · unfold Builtin.Str.tooLong
    rw [sizeLine_eq]
    exact decide_eq_false (by omega)
  · rw [if_neg (by omega)]
    split
    · rename_i hc
      refine ⟨.str i, H, I, ⟨_, rfl⟩, ?_⟩
      have : strRep i k.toNat = i := by unfold strRep; rw [hk, if_pos hc]
      rw [← this]; exact q
    · rename_i hc
      have e : strRep i k.toNat = ⟨(List.replicate k.toNat i.cps).foldl (fun a b => a ++ b) #[]⟩ := by unfold strRep; rw [hk, if_neg hc]
      rw [e] at q
      refine ⟨?_, ⟨.str _, H, I.tok _, ⟨_, rfl⟩, q⟩⟩
      show ((List.replicate k.toNat i.cps).foldl (fun a b => a ++ b) #[]).size ≤ sizeLine
      rw [rep_size, sizeLine_eq]
      have : k.toNat * i.cps.size ≤ 1000000 := by rw [Nat.mul_comm]; exact hn
      simp; omega
def fMul (a b : Opd) (h : MH) : Res Opd := match a, b with
  | .val (.int i), .val (.int j) => if cMul i j = true then some (.val (.int (i * j)), h) else none
  | .val (.str s), .val (.int k) => if 1 ≤ k ∧ k ≤ 1000 ∧ s.length ≤ 1000 then some (.val (.str (strRep s k.toNat)), h) else none
  | .val (.tup xs), .val (.int k) => if xs ≠ [] ∧ 2 ≤ k ∧ k ≤ 1000 ∧ xs.length ≤ 1000 then some (.val (.tup (List.replicate k.toNat xs).flatten), h) else none
  | a, .val (.int k) => match lstOf a h with
    | some xs => if -(2 ^ 63) ≤ k ∧ k < 2 ^ 63 ∧ xs.length * k.toNat ≤ 100000 then some (.cell (.lst (List.replicate k.toNat xs).flatten), h) else none
    | _ => none
  | _, _ => none
abbrev rMulF (K : PySem.W.Frag) : R2 := fun x y H Q => rI CMul (fun i j => .int (i * j)) x y H Q ∨ ((∃ s k, x = .str s ∧ y = .int k ∧ (1 ≤ k ∧ k ≤ 1000 ∧ s.length ≤ 1000) ∧ Q (.str (strRep s k.toNat)) H) ∨ (rRepT K x y H Q ∨ rRep x y H Q))
theorem o_mul : OpR X (binaryOp .Mult) (rMulF X.K) := op_mul.or (op_mul_str.or (op_repT.or op_rep))
theorem RVs.ne {K : PySem.W.Frag} {ρ : List Addr} {H : Hp} {vs : List Val} {xs : List V} (r : RVs K ρ H vs xs) (h : vs ≠ []) : xs ≠ [] := fun z => by subst z; cases r; exact h rfl
theorem g_mul : OpG X (RFr X.K) (rMulF X.K) fMul := fun ρ H h a b x y v h' Q S ra rb e G => by
  unfold fMul at e
  split at e
  · split at e
    · rename_i hc
      cases e
      rw [rv_int ra, rv_int rb]
      exact .inl ⟨_, _, rfl, rfl, dC hc, G _ _ .refl S (.int _)⟩
    · cases e
  · rename_i us k
    split at e
    · rename_i hc
      cases e
      rw [rv_str ra, rv_int rb]
      exact .inr (.inl ⟨_, _, rfl, rfl, hc, G _ _ .refl S (.str _)⟩)
    · cases e
  · rename_i us k
    split at e
    · rename_i hc
      cases e
      obtain ⟨p, xs, rfl, q1, r1⟩ := rv_tup ra
      rw [rv_int rb]
      exact .inr (.inr (.inl ⟨p, k, xs, rfl, rfl, SqT.of q1, r1.ne hc.1, hc.2.1, hc.2.2.1, by rw [← r1.length]; exact hc.2.2.2, fun p3 h3 => good_tupF S (r1.rep _) G h3⟩))
    · cases e
  · rename_i k _ _ _
    split at e
    · rename_i us e1
      split at e
      · rename_i hc
        cases e
        obtain ⟨p, xs, rfl, q1, r1⟩ := lstOf_ok S ra e1
        rw [rv_int rb]
        exact .inr (.inr (.inr ⟨p, k, xs, rfl, rfl, q1, hc.1, hc.2.1, line5 (by rw [← r1.length]; exact hc.2.2), fun p3 h3 => good_lstF S (r1.rep _) G h3⟩))
      · cases e
    · cases e
  · cases e

def fLt (a b : Opd) (h : MH) : Res Val := match a, b with
  | .val (.int i), .val (.int j) => some (.bl (decide (i < j)), h)
  | .val (.str i), .val (.str j) => some (.bl (decide (i.cps.toList < j.cps.toList)), h)
  | _, _ => none
abbrev rLtF : R2 := fun x y H Q => (rI0 fun i j => .bl (decide (i < j))) x y H Q ∨ (∃ i j, x = .str i ∧ y = .str j ∧ Q (.bl (decide (i.cps.toList < j.cps.toList))) H)
theorem o_lt : OpR X (compareOp .Lt) rLtF := op_lt.or op_lt_str
theorem g_lt : OpG X (RVal X.K) rLtF fLt := fun ρ H h a b x y v h' Q S ra rb e G => by
  unfold fLt at e
  split at e
  · cases e
    rw [rv_int ra, rv_int rb]
    exact .inl ⟨_, _, rfl, rfl, G.now S (.bl _)⟩
  · cases e
    rw [rv_str ra, rv_str rb]
    exact .inr ⟨_, _, rfl, rfl, G.now S (.bl _)⟩
  · cases e
def fLe := fI (fun _ _ => true) fun i j => .bl (decide (i ≤ j))
theorem g_le : OpG X (RVal X.K) (rI0 fun i j => .bl (decide (i ≤ j))) fLe := fI_ok (fun _ _ _ _ => .bl _) fun i j H Q _ q => ⟨i, j, rfl, rfl, q⟩
def fGt := fI (fun _ _ => true) fun i j => .bl (decide (j < i))
theorem g_gt : OpG X (RVal X.K) (rI0 fun i j => .bl (decide (j < i))) fGt := fI_ok (fun _ _ _ _ => .bl _) fun i j H Q _ q => ⟨i, j, rfl, rfl, q⟩
def fGe := fI (fun _ _ => true) fun i j => .bl (decide (j ≤ i))
theorem g_ge : OpG X (RVal X.K) (rI0 fun i j => .bl (decide (j ≤ i))) fGe := fI_ok (fun _ _ _ _ => .bl _) fun i j H Q _ q => ⟨i, j, rfl, rfl, q⟩
def isNonO : Opd → Bool
  | .val .non => true
  | _ => false
def fIs (a b : Opd) (h : MH) : Res Val := match b with
  | .val .non => some (.bl (isNonO a), h)
  | _ => none
theorem non_dec {K : PySem.W.Frag} {Hs : Hp} {ρ : List Addr} {H : Hp} {o : Opd} {x : V} (r : ROpd K Hs ρ H o x) : decide (x = .non) = isNonO o := by
  cases o with
  | val v => have r : RV K ρ H v x := r; cases r <;> simp [isNonO]
  | cell k => obtain ⟨a, rfl, _⟩ := r; simp [isNonO]
theorem g_is : OpG X (RVal X.K) (fun x y H Q => y = .non ∧ Q (.bl (decide (x = .non))) H) fIs := fun ρ H h a b x y v h' Q S ra rb e G => by
  unfold fIs at e
  split at e
  · cases e
    have rb : RV X.K ρ H .non y := rb
    cases rb
    refine ⟨rfl, ?_⟩
    rw [non_dec ra]
    exact G.now S (.bl _)
  · cases e
def fNot (a b : Opd) (h : MH) : Res Val := match b with
  | .val .non => some (.bl (!(isNonO a)), h)
  | _ => none
theorem g_not : OpG X (RVal X.K) (fun x y H Q => y = .non ∧ Q (.bl (!decide (x = .non))) H) fNot := fun ρ H h a b x y v h' Q S ra rb e G => by
  unfold fNot at e
  split at e
  · cases e
    have rb : RV X.K ρ H .non y := rb
    cases rb
    refine ⟨rfl, ?_⟩
    rw [non_dec ra]
    exact G.now S (.bl _)
  · cases e
def fNeg (a : Opd) (h : MH) : Res Val := match a with
  | .val (.int i) => some (.int (-i), h)
  | _ => none
theorem g_neg : UnG X (RVal X.K) (rU fun i => .int (-i)) fNeg := fun ρ H h a x v h' Q S ra e G => by
  unfold fNeg at e
  split at e
  · cases e
    rw [rv_int ra]
    exact ⟨_, rfl, G.now S (.int _)⟩
  · cases e
def fInv (a : Opd) (h : MH) : Res Val := match a with
  | .val (.int i) => some (.int (Builtin.bitNot i), h)
  | _ => none
theorem g_inv : UnG X (RVal X.K) (rU fun i => .int (Builtin.bitNot i)) fInv := fun ρ H h a x v h' Q S ra e G => by
  unfold fInv at e
  split at e
  · cases e
    rw [rv_int ra]
    exact ⟨_, rfl, G.now S (.int _)⟩
  · cases e

def pd (h : MH) : Nat → Val → Option PyData
  | 0, _ => none
  | n + 1, v => match v with
    | .non => some .none
    | .bl b => some (.bool b)
    | .int i => some (.int i)
    | .str s => some (.str s)
    | .tup vs => (vs.mapM (pd h n)).map .tuple
    | .kls _ => none
    | .ref m => match h[m]? with
      | some (.lst vs) => (vs.mapM (pd h n)).map .list
      | some (.frz vs) => (vs.mapM (pd h n)).map .list
      | _ => none
def pdO (h : MH) (o : Opd) : Option PyData := match o with
  | .val v => pd h 50 v
  | .cell (.lst vs) => (vs.mapM (pd h 49)).map .list
  | _ => none
def DOk (K : PySem.W.Frag) (H : Hp) (n : Nat) (x : V) (d : PyData) : Prop := Dp K H x d ∧ d.plain = true ∧ d.depth ≤ n
theorem pdAll_ok {K : PySem.W.Frag} {ρ : List Addr} {H : Hp} {h : MH} {n : Nat} (ih : ∀ (v : Val) (x : V) (d : PyData), RV K ρ H v x → pd h n v = some d → DOk K H n x d) : ∀ (vs : List Val) (xs : List V) (ds : List PyData), RVs K ρ H vs xs → vs.mapM (pd h n) = some ds → DpAll K H xs ds ∧ PyData.plainAll ds = true ∧ PyData.depthAll ds ≤ n
  | [], _, ds, r, e => by
    cases r
    rw [List.mapM_nil] at e
    cases e
    exact ⟨.nil, rfl, Nat.zero_le _⟩
  | v :: vs, _, ds, r, e => by
    cases r with
    | cons r t =>
      rw [List.mapM_cons] at e
      cases e1 : pd h n v with
      | none => rw [e1] at e; cases e
      | some d =>
        rw [e1] at e
        cases e2 : vs.mapM (pd h n) with
        | none => rw [e2] at e; cases e
        | some es =>
          rw [e2] at e
          cases e
          obtain ⟨a1, a2, a3⟩ := ih v _ d r e1
          obtain ⟨b1, b2, b3⟩ := pdAll_ok ih vs _ es t e2
          refine ⟨.cons a1 b1, by rw [PyData.plainAll, a2, b2]; rfl, ?_⟩
          rw [PyData.depthAll]
          omega
theorem pd_ok {K : PySem.W.Frag} {ρ : List Addr} {H : Hp} {h : MH} (S : RS K ρ H h) : ∀ (n : Nat) (v : Val) (x : V) (d : PyData), RV K ρ H v x → pd h n v = some d → DOk K H n x d
  | 0, _, _, _, _, e => by cases e
  | n + 1, v, x, d, r, e => by
    have ih := pd_ok S n
    cases r with
    | non => cases e; exact ⟨.non, rfl, Nat.zero_le _⟩
    | bl b => cases e; exact ⟨.bl b, rfl, Nat.zero_le _⟩
    | int i => cases e; exact ⟨.int i, rfl, Nat.zero_le _⟩
    | str s => cases e; exact ⟨.str s, rfl, Nat.zero_le _⟩
    | kls _ => cases e
    | @tup vs a xs q r2 =>
      have e : (vs.mapM (pd h n)).map PyData.tuple = some d := e
      cases e2 : vs.mapM (pd h n) with
      | none => rw [e2] at e; cases e
      | some ds =>
        rw [e2] at e
        cases e
        obtain ⟨b1, b2, b3⟩ := pdAll_ok ih vs xs ds r2 e2
        exact ⟨.tup (SqT.of q) b1, b2, Nat.succ_le_succ b3⟩
    | @ref m a en =>
      unfold pd at e
      simp only at e
      split at e
      · rename_i vs eh
        obtain ⟨xs, q, r2⟩ := S.cell m _ a eh en
        cases e2 : vs.mapM (pd h n) with
        | none => rw [e2] at e; cases e
        | some ds =>
          rw [e2] at e
          cases e
          obtain ⟨b1, b2, b3⟩ := pdAll_ok ih vs xs ds r2 e2
          exact ⟨.lst (SqL.of q) b1, b2, Nat.succ_le_succ b3⟩
      · rename_i vs eh
        obtain ⟨ob, xs, q, r2⟩ := S.cell m _ a eh en
        cases e2 : vs.mapM (pd h n) with
        | none => rw [e2] at e; cases e
        | some ds =>
          rw [e2] at e
          cases e
          obtain ⟨b1, b2, b3⟩ := pdAll_ok ih vs xs ds r2 e2
          exact ⟨.lst (.inl (.inr ⟨ob, q⟩)) b1, b2, Nat.succ_le_succ b3⟩
      · cases e
theorem pdO_ok {K : PySem.W.Frag} {Hs : Hp} {ρ : List Addr} {H : Hp} {h : MH} {o : Opd} {x : V} {d : PyData} (S : RS K ρ H h) (r : ROpd K Hs ρ H o x) (e : pdO h o = some d) : DOk K H 50 x d := by
  cases o with
  | val v => exact pd_ok S 50 v x d r e
  | cell k =>
    obtain ⟨a, rfl, n, q⟩ := r
    cases k with
    | lst vs =>
      have e : (vs.mapM (pd h 49)).map PyData.list = some d := e
      obtain ⟨xs, q, r2⟩ := q
      cases e2 : vs.mapM (pd h 49) with
      | none => rw [e2] at e; cases e
      | some ds =>
        rw [e2] at e
        cases e
        obtain ⟨b1, b2, b3⟩ := pdAll_ok (pd_ok S 49) vs xs ds r2 e2
        exact ⟨.lst (SqL.of q) b1, b2, Nat.succ_le_succ b3⟩
    | _ => cases e
abbrev rEqM (K : PySem.W.Frag) : R2 := fun x y H Q => ∃ d e, DOk K H 50 x d ∧ DOk K H 50 y e ∧ Q (.bl (PyData.eqv d e)) H
abbrev rNeM (K : PySem.W.Frag) : R2 := fun x y H Q => ∃ d e, DOk K H 50 x d ∧ DOk K H 50 y e ∧ Q (.bl (!PyData.eqv d e)) H
theorem o_eq (hu : X.A.units + 64 < cLine) : OpR X (compareOp .Eq) (rEqM X.K) := by
  intro pins s σ H x y v u Q I rx ry h
  obtain ⟨d, e, hd, he, q⟩ := h
  obtain ⟨as, r1⟩ := Dp.reads I d x v hd.1 rx
  obtain ⟨bs, r2⟩ := Dp.reads I e y u he.1 ry
  have := hd.2.2
  exact SeqAt.eq_plain r1 r2 hd.2.1 he.2.1 (by omega) ⟨.bl _, H, I, rfl, q⟩
theorem o_ne (hu : X.A.units + 64 < cLine) : OpR X (compareOp .NotEq) (rNeM X.K) := by
  intro pins s σ H x y v u Q I rx ry h
  obtain ⟨d, e, hd, he, q⟩ := h
  obtain ⟨as, r1⟩ := Dp.reads I d x v hd.1 rx
  obtain ⟨bs, r2⟩ := Dp.reads I e y u he.1 ry
  have := hd.2.2
  exact SeqAt.ne_plain r1 r2 hd.2.1 he.2.1 (by omega) ⟨.bl _, H, I, rfl, q⟩
def fEq (a b : Opd) (h : MH) : Res Val := match pdO h a, pdO h b with
  | some d, some e => some (.bl (PyData.eqv d e), h)
  | _, _ => none
def fNe (a b : Opd) (h : MH) : Res Val := match pdO h a, pdO h b with
  | some d, some e => some (.bl (!PyData.eqv d e), h)
  | _, _ => none
theorem g_eq : OpG X (RVal X.K) (rEqM X.K) fEq := fun ρ H h a b x y v h' Q S ra rb e G => by
  unfold fEq at e
  split at e
  · rename_i d d' e1 e2
    cases e
    exact ⟨d, d', pdO_ok S ra e1, pdO_ok S rb e2, G.now S (.bl _)⟩
  · cases e
theorem g_ne : OpG X (RVal X.K) (rNeM X.K) fNe := fun ρ H h a b x y v h' Q S ra rb e G => by
  unfold fNe at e
  split at e
  · rename_i d d' e1 e2
    cases e
    exact ⟨d, d', pdO_ok S ra e1, pdO_ok S rb e2, G.now S (.bl _)⟩
  · cases e
end
end Mi

set_option Elab.async false
set_option linter.all false
set_option maxRecDepth 100000
set_option maxHeartbeats 2000000
set_option autoImplicit false
namespace Mi
open PySem PySem.Spec PyProof.Rows L2

def keyOf : Val → Option Key
  | .int i => some (.inl i)
  | .str s => some (.inr s)
  | _ => none
def keysOf : Val → Option (List Key)
  | .tup vs => vs.mapM keyOf
  | _ => none
def valK {κ : Type} [DecidableEq κ] (kvs : List (κ × Val)) (k : κ) : Option Val := (kvs.find? fun kv => decide (kv.1 = k)).map (·.2)
def putM {κ : Type} [DecidableEq κ] (kvs : List (κ × Val)) (k : κ) (v : Val) : List (κ × Val) :=
  if (kvs.any fun kv => decide (kv.1 = k)) = true then kvs.map (fun kv => if kv.1 = k then (kv.1, v) else kv) else kvs ++ [(k, v)]
section
variable {K : PySem.W.Frag} {ρ : List Addr} {H Hs : Hp} {h : MH}
theorem keyOf_ok {v : Val} {x : V} {k : Key} (r : RV K ρ H v x) (e : keyOf v = some k) : x = kV k := by
  cases r <;> first | (cases e; rfl) | cases e
theorem keysL_ok : ∀ {vs : List Val} {xs : List V} {ks : List Key}, RVs K ρ H vs xs → vs.mapM keyOf = some ks → xs = ks.map kV
  | [], _, ks, .nil, e => by rw [List.mapM_nil] at e; cases e; rfl
  | v :: vs, _, ks, .cons r t, e => by
    rw [List.mapM_cons] at e
    cases e1 : keyOf v with
    | none => rw [e1] at e; cases e
    | some k =>
      rw [e1] at e
      cases e2 : vs.mapM keyOf with
      | none => rw [e2] at e; cases e
      | some js =>
        rw [e2] at e
        cases e
        rw [keyOf_ok r e1, keysL_ok t e2]
        rfl
theorem keysOf_ok {v : Val} {x : V} {ks : List Key} (r : RV K ρ H v x) (e : keysOf v = some ks) : ∃ b, x = .ref b ∧ H b = some (.tup (ks.map kV)) := by
  cases r with
  | tup q r =>
    have e : _ = some ks := e
    exact ⟨_, rfl, by rw [q, keysL_ok r e]⟩
  | _ => cases e
theorem RKs.val {κ : Type} [DecidableEq κ] {kvs : List (κ × Val)} {ws : List (κ × V)} (r : RKs K ρ H kvs ws) (k : κ) :
    (valK kvs k = none ∧ valV ws k = none) ∨ ∃ v x, valK kvs k = some v ∧ valV ws k = some x ∧ RV K ρ H v x := by
  obtain ⟨r1, r2⟩ := r
  induction kvs generalizing ws with
  | nil => cases ws with
    | nil => exact .inl ⟨rfl, rfl⟩
    | cons _ _ => simp at r1
  | cons p ps ih => cases ws with
    | nil => simp at r1
    | cons q qs =>
      simp only [List.map_cons, List.cons.injEq] at r1
      rw [List.map_cons, List.map_cons] at r2
      cases r2 with
      | cons ra rb =>
        by_cases hk : p.1 = k
        · have hq : q.1 = k := by rw [← r1.1]; exact hk
          refine .inr ⟨p.2, q.2, ?_, ?_, ra⟩
          · simp [valK, List.find?_cons, hk]
          · simp [valV, List.find?_cons, hq]
        · have hq : ¬ q.1 = k := by rw [← r1.1]; exact hk
          have := ih r1.2 rb
          have e1 : valK (p :: ps) k = valK ps k := by simp [valK, List.find?_cons, hk]
          have e2 : valV (q :: qs) k = valV qs k := by simp [valV, List.find?_cons, hq]
          rw [e1, e2]; exact this
theorem RKs.any {κ : Type} [DecidableEq κ] {kvs : List (κ × Val)} {ws : List (κ × V)} (r : kvs.map (·.1) = ws.map (·.1)) (k : κ) : (kvs.any fun kv => decide (kv.1 = k)) = ws.any fun kv => decide (kv.1 = k) := by
  have e1 : (kvs.any fun kv => decide (kv.1 = k)) = (kvs.map (·.1)).any fun x => decide (x = k) := by rw [List.any_map]; rfl
  have e2 : (ws.any fun kv => decide (kv.1 = k)) = (ws.map (·.1)).any fun x => decide (x = k) := by rw [List.any_map]; rfl
  rw [e1, e2, r]
theorem RKs.repl {κ : Type} [DecidableEq κ] (k : κ) {v : Val} {x : V} (rv : RV K ρ H v x) : ∀ {kvs : List (κ × Val)} {ws : List (κ × V)}, kvs.map (·.1) = ws.map (·.1) → RVs K ρ H (kvs.map (·.2)) (ws.map (·.2)) →
    RKs K ρ H (kvs.map (fun kv => if kv.1 = k then (kv.1, v) else kv)) (ws.map (fun kv => if kv.1 = k then (kv.1, x) else kv))
  | [], [], _, _ => ⟨rfl, .nil⟩
  | [], _ :: _, r1, _ => by simp at r1
  | _ :: _, [], r1, _ => by simp at r1
  | p :: ps, q :: qs, r1, r2 => by
    simp only [List.map_cons, List.cons.injEq] at r1
    rw [List.map_cons, List.map_cons] at r2
    cases r2 with
    | cons ra rb =>
      obtain ⟨i1, i2⟩ := RKs.repl k rv r1.2 rb
      by_cases hk : p.1 = k
      · have hq : q.1 = k := by rw [← r1.1]; exact hk
        refine ⟨?_, ?_⟩
        · rw [List.map_cons, List.map_cons, List.map_cons, List.map_cons, if_pos hk, if_pos hq, i1, r1.1]
        · rw [List.map_cons, List.map_cons, List.map_cons, List.map_cons, if_pos hk, if_pos hq]
          exact .cons rv i2
      · have hq : ¬ q.1 = k := by rw [← r1.1]; exact hk
        refine ⟨?_, ?_⟩
        · rw [List.map_cons, List.map_cons, List.map_cons, List.map_cons, if_neg hk, if_neg hq, i1, r1.1]
        · rw [List.map_cons, List.map_cons, List.map_cons, List.map_cons, if_neg hk, if_neg hq]
          exact .cons ra i2
theorem RKs.put {κ : Type} [DecidableEq κ] {kvs : List (κ × Val)} {ws : List (κ × V)} (r : RKs K ρ H kvs ws) (k : κ) {v : Val} {x : V} (rv : RV K ρ H v x) : RKs K ρ H (putM kvs k v) (putK ws k x) := by
  unfold putM putK
  rw [RKs.any r.1 k]
  obtain ⟨r1, r2⟩ := r
  split
  · exact RKs.repl k rv r1 r2
  · refine ⟨by rw [List.map_append, List.map_append, r1]; rfl, ?_⟩
    rw [List.map_append, List.map_append]
    exact r2.append (.cons rv .nil)
theorem RKs.length {κ : Type} {kvs : List (κ × Val)} {ws : List (κ × V)} (r : RKs K ρ H kvs ws) : kvs.length = ws.length := by
  have := congrArg List.length r.1
  simpa using this

def cellGet (c : Cell) (k : Val) : Option (Option Val) := match c with
  | .dK kvs => (keyOf k).map fun j => valK kvs j
  | .dT kvs => (keysOf k).map fun j => valK kvs j
  | _ => none
def dctOf (o : Opd) (h : MH) : Option Cell := match o with
  | .cell c => some c
  | .val (.ref n) => h[n]?
  | _ => none
theorem dctOf_ok {o : Opd} {x : V} {c : Cell} (S : RS K ρ H h) (r : ROpd K Hs ρ H o x) (e : dctOf o h = some c) : ∃ a, x = .ref a ∧ RC K ρ H c a := by
  cases o with
  | val v =>
    have r : RV K ρ H v x := r
    cases r with
    | @ref n a en =>
      have e : h[n]? = some c := e
      exact ⟨a, rfl, S.cell n c a e en⟩
    | _ => cases e
  | cell k =>
    cases e
    obtain ⟨a, rfl, n, q⟩ := r
    exact ⟨a, rfl, q⟩
theorem cellGet_ok {c : Cell} {k : Val} {a : Addr} {y : V} {o : Option Val} (rc : RC K ρ H c a) (rk : RV K ρ H k y) (e : cellGet c k = some o) : (o = none ∧ DGet H a y none) ∨ ∃ v x, o = some v ∧ DGet H a y (some x) ∧ RV K ρ H v x := by
  cases c with
  | lst _ => cases e
  | frz _ => cases e
  | dK kvs =>
    have e : (keyOf k).map (fun j => valK kvs j) = some o := e
    cases ek : keyOf k with
    | none => rw [ek] at e; cases e
    | some j =>
      rw [ek] at e
      have e : valK kvs j = o := Option.some.inj e
      obtain ⟨ws, q, r⟩ := rc
      rw [keyOf_ok rk ek]
      rcases r.val j with ⟨e1, e2⟩ | ⟨v, x, e1, e2, e3⟩
      · exact .inl ⟨by rw [← e, e1], by rw [← e2]; exact DGet.k q⟩
      · exact .inr ⟨v, x, by rw [← e, e1], by rw [← e2]; exact DGet.k q, e3⟩
  | dT kvs =>
    have e : (keysOf k).map (fun j => valK kvs j) = some o := e
    cases ek : keysOf k with
    | none => rw [ek] at e; cases e
    | some j =>
      rw [ek] at e
      have e : valK kvs j = o := Option.some.inj e
      obtain ⟨ws, q, r⟩ := rc
      obtain ⟨b, rfl, eb⟩ := keysOf_ok rk ek
      rcases r.val j with ⟨e1, e2⟩ | ⟨v, x, e1, e2, e3⟩
      · exact .inl ⟨by rw [← e, e1], by rw [← e2]; exact DGet.t q eb⟩
      · exact .inr ⟨v, x, by rw [← e, e1], by rw [← e2]; exact DGet.t q eb, e3⟩
end

def fIx (a b : Opd) (h : MH) : Res Val := match a, b with
  | .val (.tup vs), .val (.int i) => (atI vs i).map fun v => (v, h)
  | .val (.str s), .val (.int i) => if s.length ≤ 100000 then (atI s.cps.toList i).map fun c => (.str ⟨#[c]⟩, h) else none
  | a, .val b => match lisOf a h with
    | some vs => (match b with
      | .int i => (atI vs i).map fun v => (v, h)
      | _ => none)
    | none => match dctOf a h with
      | some c => (match cellGet c b with
        | some (some v) => some (v, h)
        | _ => none)
      | none => none
  | _, _ => none
section
variable {X : Cx}
abbrev rIxA (K : PySem.W.Frag) : R2 := fun x y H Q => rIx K x y H Q ∨ ∃ a v, x = .ref a ∧ DGet H a y (some v) ∧ Q v H
theorem ix_dict (hu : X.A.units + 64 < cLine) : IxR X (fun x y H Q => ∃ a v, x = .ref a ∧ DGet H a y (some v) ∧ Q v H) := by
  intro value slice pins s σ H x y v u Q I rx ry h hs
  obtain ⟨a, z, rfl, g, q⟩ := h
  cases rx
  have hT := dict_typeIs I g
  exact tail_any hT PySem.F.slot_dict_getitem.lookup (d_getItem (by omega) I g ry fun w' s3 I3 rw' => ⟨z, H, I3, rw', q⟩) hs
theorem i_ix (hu : X.A.units + 64 < cLine) : IxR X (rIxA X.K) := ix_seq.or (ix_dict hu)
theorem RVs.atI {K : PySem.W.Frag} {ρ : List Addr} {H : Hp} {vs : List Val} {xs : List V} {i : Int} {v : Val} (r : RVs K ρ H vs xs) (e : L2.atI vs i = some v) : ∃ x, L2.atI xs i = some x ∧ RV K ρ H v x := by
  unfold L2.atI at e ⊢
  rw [← r.length]
  cases q : ixN vs.length i with
  | none => rw [q] at e; cases e
  | some j =>
    rw [q] at e
    exact r.getV e
theorem g_ixA : OpG X (RVal X.K) (rIxA X.K) fIx := fun ρ H h a b x y v h' Q S ra rb e G => by
  unfold fIx at e
  split at e
  · rename_i vs i
    obtain ⟨u, e1, e2⟩ := Option.map_eq_some_iff.mp e
    cases e2
    obtain ⟨p, xs, rfl, q, r⟩ := rv_tup ra
    obtain ⟨z, e3, r3⟩ := r.atI e1
    exact .inl (.inr (.inl ⟨p, xs, i, z, rfl, rv_int rb, SqT.of q, e3, G.now S r3⟩))
  · rename_i s i
    split at e
    · rename_i hz
      obtain ⟨u, e1, e2⟩ := Option.map_eq_some_iff.mp e
      cases e2
      exact .inl (.inr (.inr ⟨s, i, u, rv_str ra, rv_int rb, line5 hz, e1, G.now S (.str _)⟩))
    · cases e
  · rename_i b' _ _
    have rb : RV X.K ρ H b' y := rb
    split at e
    · rename_i vs e1
      obtain ⟨p, xs, rfl, q, r⟩ := lisOf_ok S ra e1
      split at e
      · obtain ⟨u, e1, e2⟩ := Option.map_eq_some_iff.mp e
        cases e2
        cases rb
        obtain ⟨z, e3, r3⟩ := r.atI e1
        exact .inl (.inl ⟨p, xs, _, z, rfl, rfl, q, e3, G.now S r3⟩)
      · cases e
    · split at e
      · rename_i c e1
        split at e
        · rename_i w e2
          cases e
          obtain ⟨p, rfl, rc⟩ := dctOf_ok S ra e1
          rcases cellGet_ok rc rb e2 with ⟨z, _⟩ | ⟨v2, x2, e3, g, r⟩
          · cases z
          · cases e3
            exact .inr ⟨p, x2, rfl, g, G.now S r⟩
        · cases e
      · cases e
  · cases e

def fInB (a b : Opd) (h : MH) : Option Bool := match a, b with
  | .val (.str i), .val (.str j) => some (!(Builtin.Str.occurrences j i 0 j.length 1).isEmpty)
  | a, b => match pdO h b with
    | some (.list ds) => (pdO h a).map fun d => ds.any fun z => PyData.eqv z d
    | some (.tuple ds) => (pdO h a).map fun d => ds.any fun z => PyData.eqv z d
    | _ => match dctOf b h, a with
      | some c, .val k => (cellGet c k).map Option.isSome
      | _, _ => none
abbrev rInB' (K : PySem.W.Frag) (g : Bool → Bool) : R2 := fun x y H Q => (∃ i j, x = .str i ∧ y = .str j ∧ Q (.bl (g (!(Builtin.Str.occurrences j i 0 j.length 1).isEmpty))) H) ∨
  ((∃ d ds, DOk K H 50 x d ∧ (DOk K H 50 y (.list ds) ∨ DOk K H 50 y (.tuple ds)) ∧ Q (.bl (g (ds.any fun z => PyData.eqv z d))) H) ∨
   ∃ a o, y = .ref a ∧ DGet H a x o ∧ Q (.bl (g o.isSome)) H)
theorem op_inM (hu : X.A.units + 64 < cLine) : OpR X (compareOp .In) (fun x y H Q => ∃ d ds, DOk X.K H 50 x d ∧ (DOk X.K H 50 y (.list ds) ∨ DOk X.K H 50 y (.tuple ds)) ∧ Q (.bl (ds.any fun z => PyData.eqv z d)) H) := by
  intro pins s σ H x y v u Q I rx ry h
  obtain ⟨d, ds, hd, he, q⟩ := h
  obtain ⟨as, r1⟩ := Dp.reads I d x v hd.1 rx
  have := hd.2.2
  rcases he with he | he
  · obtain ⟨bs, r2⟩ := Dp.reads I _ y u he.1 ry
    exact SeqAt.in_list_data r2 r1 he.2.1 hd.2.1 (by omega) ⟨.bl _, H, I, rfl, q⟩
  · obtain ⟨bs, r2⟩ := Dp.reads I _ y u he.1 ry
    exact SeqAt.in_tuple_data r2 r1 he.2.1 hd.2.1 (by omega) ⟨.bl _, H, I, rfl, q⟩
theorem op_notInM (hu : X.A.units + 64 < cLine) : OpR X (compareOp .NotIn) (fun x y H Q => ∃ d ds, DOk X.K H 50 x d ∧ (DOk X.K H 50 y (.list ds) ∨ DOk X.K H 50 y (.tuple ds)) ∧ Q (.bl (!ds.any fun z => PyData.eqv z d)) H) := by
  intro pins s σ H x y v u Q I rx ry h
  obtain ⟨d, ds, hd, he, q⟩ := h
  obtain ⟨as, r1⟩ := Dp.reads I d x v hd.1 rx
  have := hd.2.2
  rcases he with he | he
  · obtain ⟨bs, r2⟩ := Dp.reads I _ y u he.1 ry
    exact SeqAt.notIn_list_data r2 r1 he.2.1 hd.2.1 (by omega) ⟨.bl _, H, I, rfl, q⟩
  · obtain ⟨bs, r2⟩ := Dp.reads I _ y u he.1 ry
    exact SeqAt.notIn_tuple_data r2 r1 he.2.1 hd.2.1 (by omega) ⟨.bl _, H, I, rfl, q⟩
theorem op_inDct (hu : X.A.units + 64 < cLine) : OpR X (compareOp .In) (fun x y H Q => ∃ a o, y = .ref a ∧ DGet H a x o ∧ Q (.bl o.isSome) H) := by
  intro pins s σ H x y v u Q I rx ry h
  obtain ⟨a, o, rfl, g, q⟩ := h
  cases ry
  exact d_in (by omega) I g rx fun s3 I3 => ⟨.bl o.isSome, H, I3, rfl, q⟩
theorem op_notInDct (hu : X.A.units + 64 < cLine) : OpR X (compareOp .NotIn) (fun x y H Q => ∃ a o, y = .ref a ∧ DGet H a x o ∧ Q (.bl (!o.isSome)) H) := by
  intro pins s σ H x y v u Q I rx ry h
  obtain ⟨a, o, rfl, g, q⟩ := h
  cases ry
  exact d_notIn (by omega) I g rx fun s3 I3 => ⟨.bl (!o.isSome), H, I3, rfl, q⟩
theorem o_in (hu : X.A.units + 64 < cLine) : OpR X (compareOp .In) (rInB' X.K id) := op_in_str.or ((op_inM hu).or (op_inDct hu))
theorem o_notIn (hu : X.A.units + 64 < cLine) : OpR X (compareOp .NotIn) (rInB' X.K not) := op_notIn_str.or ((op_notInM hu).or (op_notInDct hu))
theorem inB_ok {ρ : List Addr} {H Hs : Hp} {h : MH} {a b : Opd} {x y : V} {k : Bool} {g : Bool → Bool} {Q : VK} (S : RS X.K ρ H h) (ra : ROpd X.K Hs ρ H a x) (rb : ROpd X.K Hs ρ H b y) (e : fInB a b h = some k) (q : Q (.bl (g k)) H) : rInB' X.K g x y H Q := by
  unfold fInB at e
  split at e
  · cases e
    exact .inl ⟨_, _, rv_str ra, rv_str rb, q⟩
  · split at e
    · rename_i ds e1
      obtain ⟨d, e2, e3⟩ := Option.map_eq_some_iff.mp e
      subst e3
      exact .inr (.inl ⟨d, ds, pdO_ok S ra e2, .inl (pdO_ok S rb e1), q⟩)
    · rename_i ds e1
      obtain ⟨d, e2, e3⟩ := Option.map_eq_some_iff.mp e
      subst e3
      exact .inr (.inl ⟨d, ds, pdO_ok S ra e2, .inr (pdO_ok S rb e1), q⟩)
    · split at e
      · rename_i c k' e1 _
        obtain ⟨o, e2, e3⟩ := Option.map_eq_some_iff.mp e
        subst e3
        obtain ⟨p, rfl, rc⟩ := dctOf_ok S rb e1
        rcases cellGet_ok rc ra e2 with ⟨z, g⟩ | ⟨v2, x2, e3, g, r⟩
        · subst z
          exact .inr (.inr ⟨p, none, rfl, g, q⟩)
        · subst e3
          exact .inr (.inr ⟨p, some x2, rfl, g, q⟩)
      · cases e
def fIn (a b : Opd) (h : MH) : Res Val := (fInB a b h).map fun k => (.bl k, h)
def fNotIn (a b : Opd) (h : MH) : Res Val := (fInB a b h).map fun k => (.bl (!k), h)
theorem g_in : OpG X (RVal X.K) (rInB' X.K id) fIn := fun ρ H h a b x y v h' Q S ra rb e G => by
  obtain ⟨k, e1, e2⟩ := Option.map_eq_some_iff.mp e
  cases e2
  exact inB_ok S ra rb e1 (G.now S (.bl _))
theorem g_notIn : OpG X (RVal X.K) (rInB' X.K not) fNotIn := fun ρ H h a b x y v h' Q S ra rb e G => by
  obtain ⟨k, e1, e2⟩ := Option.map_eq_some_iff.mp e
  cases e2
  exact inB_ok S ra rb e1 (G.now S (.bl _))

def cutM (xs : List Val) (lo hi : Option Int) : List Val := (xs.drop (HT.sIx xs.length 0 lo)).take (HT.sIx xs.length xs.length hi - HT.sIx xs.length 0 lo)
theorem RVs.cut {K : PySem.W.Frag} {ρ : List Addr} {H : Hp} {vs : List Val} {xs : List V} (r : RVs K ρ H vs xs) (lo hi : Option Int) : RVs K ρ H (cutM vs lo hi) (cutV xs lo hi) := by
  unfold cutM cutV
  rw [r.length]
  exact (r.drop _).take _
def fSl (a : Opd) (lo hi : Option Int) (h : MH) : Res Opd := match a with
  | .val (.tup vs) => some (.val (.tup (cutM vs lo hi)), h)
  | .val (.str s) => if s.length ≤ 100000 then some (.val (.str (cutS s lo hi)), h) else none
  | a => match lisOf a h with
    | some vs => some (.cell (.lst (cutM vs lo hi)), h)
    | none => none
abbrev rSlM (K : PySem.W.Frag) : V → Option Int → Option Int → Hp → VK → Prop := fun x lo hi H Q => rSlA K x lo hi H Q ∨ (rSlS x lo hi H Q ∨ rSlL K x lo hi H Q)
theorem i_sl : SlR X (rSlM X.K) := sl_tupA.or (sl_str.or sl_list)
theorem cut_all {xs : List Val} {lo hi : Option Int} (h : HT.sIx xs.length 0 lo = 0 ∧ HT.sIx xs.length xs.length hi = xs.length) : cutM xs lo hi = xs := by
  unfold cutM
  rw [h.1, h.2, List.drop_zero, Nat.sub_zero, List.take_length]
theorem g_slA : SlG X (RFr X.K) (rSlM X.K) fSl := fun ρ H h a x lo hi v h' Q S ra e G => by
  unfold fSl at e
  split at e
  · cases e
    obtain ⟨p, xs, rfl, q, r⟩ := rv_tup ra
    refine .inl ⟨p, xs, rfl, SqT.of q, fun hw => ?_, fun hw p2 h2 => good_tupF S (r.cut lo hi) G h2⟩
    rw [← r.length] at hw
    exact G _ _ .refl S (by rw [cut_all hw]; exact ra)
  · split at e
    · rename_i hz
      cases e
      exact .inr (.inl ⟨_, rv_str ra, line5 hz, G _ _ .refl S (.str _)⟩)
    · cases e
  · split at e
    · rename_i vs e1
      cases e
      obtain ⟨p, xs, rfl, q, r⟩ := lisOf_ok S ra e1
      exact .inr (.inr ⟨p, xs, rfl, q, fun p2 h2 => good_lstF S (r.cut lo hi) G h2⟩)
    · cases e

theorem ros_one {K : PySem.W.Frag} {ρ : List Addr} {H : Hp} {o : Opd} {xs : List V} (r : ROs K ρ H [o] xs) : ∃ x, xs = [x] ∧ ROpd K H ρ H o x := by
  cases r with
  | cons r t => cases t; exact ⟨_, rfl, r⟩
theorem ros_two {K : PySem.W.Frag} {ρ : List Addr} {H : Hp} {o p : Opd} {xs : List V} (r : ROs K ρ H [o, p] xs) : ∃ x y, xs = [x, y] ∧ ROpd K H ρ H o x ∧ ROpd K H ρ H p y := by
  cases r with
  | cons r t => cases t with
    | cons r2 t => cases t; exact ⟨_, _, rfl, r, r2⟩
theorem ros_nil {K : PySem.W.Frag} {ρ : List Addr} {H : Hp} {xs : List V} (r : ROs K ρ H [] xs) : xs = [] := by cases r; rfl
def lenO (o : Opd) (h : MH) : Option Nat := match o with
  | .val (.str s) => if s.length ≤ 100000 then some s.length else none
  | o => match itmOf o h with
    | some vs => some vs.length
    | none => match dctOf o h with
      | some (.dK kvs) => some kvs.length
      | some (.dT kvs) => some kvs.length
      | _ => none
def fLen (as : List Opd) (h : MH) : Res Val := match as with
  | [o] => (lenO o h).map fun n => (.int n, h)
  | _ => none
abbrev rLenM (K : PySem.W.Frag) : List V → Hp → VK → Prop := fun xs H Q => (∃ x n, xs = [x] ∧ LenV K x H n ∧ Q (.int n) H) ∨ ((∃ a kvs, xs = [V.ref a] ∧ Rd H a (.dK kvs) ∧ Q (.int kvs.length) H) ∨ rLenT xs H Q)
theorem call_lenD : CallR X (.builtin "len") (fun xs H Q => ∃ a kvs, xs = [V.ref a] ∧ Rd H a (.dK kvs) ∧ Q (.int kvs.length) H) := by
  intro pins s σ H xs us Q I r h
  obtain ⟨a, kvs, rfl, hd, q⟩ := h
  obtain ⟨u, rfl, rx⟩ := r.one
  cases rx
  exact d_len I hd fun t s' I' => ⟨.int kvs.length, H, I', ⟨t, rfl⟩, q⟩
theorem c_len : CallR X (.builtin "len") (rLenM X.K) := call_len.or (call_lenD.or call_len_dT)
theorem g_len : CallG X (RVal X.K) (rLenM X.K) fLen := fun ρ H h as xs v h' Q S ra e G => by
  unfold fLen at e
  split at e
  · obtain ⟨n, e1, e2⟩ := Option.map_eq_some_iff.mp e
    cases e2
    obtain ⟨x, rfl, r⟩ := ros_one ra
    unfold lenO at e1
    split at e1
    · split at e1
      · rename_i hz
        cases e1
        rw [rv_str r]
        exact .inl ⟨_, _, rfl, ⟨line5 hz, rfl⟩, G.now S (.int _)⟩
      · cases e1
    · split at e1
      · rename_i vs e2
        cases e1
        obtain ⟨p, ys, rfl, q, r⟩ := itmOf_ok S r e2
        refine .inl ⟨_, vs.length, rfl, ?_, G.now S (.int _)⟩
        rcases q with q | q
        · exact .inl ⟨ys, q, r.length⟩
        · exact .inr ⟨ys, q, r.length⟩
      · split at e1
        · rename_i kvs e2
          cases e1
          obtain ⟨p, rfl, ws, q, r⟩ := dctOf_ok S r e2
          exact .inr (.inl ⟨p, ws, rfl, .inl q, by rw [← r.length]; exact G.now S (.int _)⟩)
        · rename_i kvs e2
          cases e1
          obtain ⟨p, rfl, ws, q, r⟩ := dctOf_ok S r e2
          exact .inr (.inr ⟨p, ws, rfl, q, by rw [← r.length]; exact G.now S (.int _)⟩)
        · cases e1
  · cases e
def keyVal : Key → Val
  | .inl i => .int i
  | .inr s => .str s
theorem keyVal_ok {K : PySem.W.Frag} {ρ : List Addr} {H : Hp} (k : Key) : RV K ρ H (keyVal k) (kV k) := by cases k with
  | inl i => exact .int i
  | inr s => exact .str s
theorem keyVals_ok {K : PySem.W.Frag} {ρ : List Addr} {H : Hp} : ∀ ks : List Key, RVs K ρ H (ks.map keyVal) (ks.map kV)
  | [] => .nil
  | k :: ks => .cons (keyVal_ok k) (keyVals_ok ks)
def lisO (o : Opd) (h : MH) : Option (List Val) := match itmOf o h with
  | some vs => some vs
  | none => match dctOf o h with
    | some (.dK kvs) => some (kvs.map fun kv => keyVal kv.1)
    | some (.dT kvs) => some (kvs.map fun kv => .tup (kv.1.map keyVal))
    | _ => none
def fList (as : List Opd) (h : MH) : Res Cell := match as with
  | [o] => (lisO o h).map fun vs => (.lst vs, h)
  | _ => none
abbrev rListM (K : PySem.W.Frag) : List V → Hp → VK → Prop := fun xs H Q => (∃ p ys, xs = [.ref p] ∧ (SqL K H p ys ∨ SqT K H p ys) ∧ ∀ l, H l = none → Q (.ref l) (upd H l (.lst ys))) ∨
  (rListD xs H Q ∨ ∃ d kvs, xs = [V.ref d] ∧ Rd H d (.dT kvs) ∧ ∀ p bs, H p = none → IsKeys H kvs bs → Q (.ref p) (upd H p (.lst (bs.map V.ref))))
theorem c_list (hc : X.calm = true) : CallR X (.type "list") (rListM X.K) := call_list_of.or ((call_list_dK hc).or (call_list_dT hc))
theorem isKeys_rvs {K : PySem.W.Frag} {ρ : List Addr} {H : Hp} : ∀ {kvs : List (List Key × Val)} {ws : List (List Key × V)} {bs : List Addr}, kvs.map (·.1) = ws.map (·.1) → IsKeys H ws bs → RVs K ρ H (kvs.map fun kv => .tup (kv.1.map keyVal)) (bs.map V.ref)
  | [], ws, bs, e, k => by
    cases ws with
    | nil => cases k; exact .nil
    | cons _ _ => simp at e
  | kv :: kvs, ws, bs, e, k => by
    cases ws with
    | nil => simp at e
    | cons w ws =>
      simp only [List.map_cons, List.cons.injEq] at e
      cases k with
      | cons hk hks =>
        refine .cons (.tup hk ?_) (isKeys_rvs e.2 hks)
        rw [← e.1]
        exact keyVals_ok _
theorem g_list : CallG X (RNew X.K) (rListM X.K) fList := fun ρ H h as xs v h' Q S ra e G => by
  unfold fList at e
  split at e
  · obtain ⟨vs, e1, e2⟩ := Option.map_eq_some_iff.mp e
    cases e2
    obtain ⟨x, rfl, r⟩ := ros_one ra
    unfold lisO at e1
    split at e1
    · rename_i us e2
      cases e1
      obtain ⟨p, ys, rfl, q, r⟩ := itmOf_ok S r e2
      exact .inl ⟨p, ys, rfl, q, fun l hl => good_lst S r G hl⟩
    · split at e1
      · rename_i kvs e2
        cases e1
        obtain ⟨p, rfl, ws, q, r⟩ := dctOf_ok S r e2
        refine .inr (.inl ⟨p, ws, rfl, q, fun l hl => good_lst S ?_ G hl⟩)
        have e3 : (kvs.map fun kv => keyVal kv.1) = (kvs.map (·.1)).map keyVal := by rw [List.map_map]; rfl
        have e4 : (ws.map fun kv => kV kv.1) = (ws.map (·.1)).map kV := by rw [List.map_map]; rfl
        rw [e3, e4, r.1]
        exact keyVals_ok _
      · rename_i kvs e2
        cases e1
        obtain ⟨p, rfl, ws, q, r⟩ := dctOf_ok S r e2
        exact .inr (.inr ⟨p, ws, rfl, .inl q, fun l bs hl k => good_lst S (isKeys_rvs r.1 k) G hl⟩)
      · cases e1
  · cases e
def fTuple (as : List Opd) (h : MH) : Res Val := match as with
  | [o] => (itmOf o h).map fun vs => (.tup vs, h)
  | _ => none
abbrev rTupleM (K : PySem.W.Frag) : List V → Hp → VK → Prop := fun xs H Q => ∃ p ys, xs = [.ref p] ∧ ((SqL K H p ys ∧ ∀ l, H l = none → Q (.ref l) (upd H l (.tup ys))) ∨ (SqT K H p ys ∧ Q (.ref p) H))
theorem itm_cases {K : PySem.W.Frag} {Hs : Hp} {ρ : List Addr} {H : Hp} {h : MH} {o : Opd} {x : V} {vs : List Val} (S : RS K ρ H h) (r : ROpd K Hs ρ H o x) (e : itmOf o h = some vs) :
    (∃ a xs, x = .ref a ∧ SqL K H a xs ∧ RVs K ρ H vs xs) ∨ ∃ a xs, x = .ref a ∧ H a = some (.tup xs) ∧ RVs K ρ H vs xs := by
  unfold itmOf at e
  split at e
  · cases e
    obtain ⟨a, xs, e, q, r⟩ := rv_tup r
    exact .inr ⟨a, xs, e, q, r⟩
  · exact .inl (lisOf_ok S r e)
theorem g_tuple : CallG X (RVal X.K) (rTupleM X.K) fTuple := fun ρ H h as xs v h' Q S ra e G => by
  unfold fTuple at e
  split at e
  · obtain ⟨vs, e1, e2⟩ := Option.map_eq_some_iff.mp e
    cases e2
    obtain ⟨x, rfl, r⟩ := ros_one ra
    rcases itm_cases S r e1 with ⟨p, ys, rfl, q, r⟩ | ⟨p, ys, rfl, q, r⟩
    · exact ⟨p, ys, rfl, .inl ⟨q, fun l hl => good_tup S r G hl⟩⟩
    · exact ⟨p, ys, rfl, .inr ⟨SqT.of q, G.now S (.tup q r)⟩⟩
  · cases e
def fInt (as : List Opd) (h : MH) : Res Val := match as with
  | [.val (.int i)] => some (.int i, h)
  | [.val (.bl k)] => some (.int (if k then 1 else 0), h)
  | _ => none
theorem g_int : CallG X (RVal X.K) (fun xs H Q => (∃ i, xs = [.int i] ∧ Q (.int i) H) ∨ ∃ k, xs = [.bl k] ∧ Q (.int (if k then 1 else 0)) H) fInt := fun ρ H h as xs v h' Q S ra e G => by
  unfold fInt at e
  split at e
  · cases e
    obtain ⟨x, rfl, r⟩ := ros_one ra
    rw [rv_int r]
    exact .inl ⟨_, rfl, G.now S (.int _)⟩
  · cases e
    obtain ⟨x, rfl, r⟩ := ros_one ra
    have r : RV X.K ρ H (.bl _) x := r
    cases r
    exact .inr ⟨_, rfl, G.now S (.int _)⟩
  · cases e
end
end Mi

set_option Elab.async false
set_option linter.all false
set_option maxRecDepth 100000
set_option maxHeartbeats 4000000
set_option autoImplicit false
namespace PyProof.Rows
open PySem PySem.Spec
section
variable {prog : Program} {w : World} {A : Around} {E : Value → Shared → Prop} {s : Shared}
theorem collect_tup {l : Addr} {vs : List Value} {Q : List Value → Shared → Prop} (hl : s.heap.IsTuple l vs.toArray)
    (h : Q vs { s with heap := (s.heap.push (seqObj "list" #[] 0)).update s.heap.objs.size (Obj.mapSeq (· ++ vs.toArray)) }) (hsz : vs.length ≤ sizeLine) :
    wpAny (model prog w) A (collect (.ref l)) Q E s := by
  obtain ⟨o, ho, hc, n, hd⟩ := id hl
  unfold collect
  refine wpAny_bind (wpAny_runValue (codeAny_builtin entry_proto_collect' ?_))
  show wpAny _ _ (do again (.builtin "list.__iadd__" ⟨[← newList [], .ref l], []⟩)) _ _ s
  refine wpAny_bind (wpAny_newList (wpAny_pure ⟨Code.quiet_builtin _ (by decide +kernel), codeAny_builtin entry_list_iadd' ?_⟩))
  show wpAny _ _ (Builtin.List.listExtendWith (.ref s.heap.objs.size) (.ref l) (.ref s.heap.objs.size)) _ _ { s with heap := s.heap.push (seqObj "list" #[] 0) }
  unfold Builtin.List.listExtendWith
  have ho' : (s.heap.push (seqObj "list" #[] 0)).get? l = some o := Heap.get?_push_of_some _ ho
  refine wpAny_bind (wpAny_typeOf (T := "tuple") ⟨o, ho', hc⟩ ?_)
  have ht : (Value.type "tuple" == Value.type "tuple") = true := by rfl
  rw [if_pos (by rw [ht]; simp)]
  refine wpAny_bind (listItems_at ho' hd ?_)
  refine wpAny_bind (listItems_at (xs := #[]) (n := 0) (Heap.get?_push_size _ rfl) rfl ?_)
  rw [if_neg (by simp)]
  refine wpAny_bind (listUpdate_at (xs := #[]) (n := 0) (Heap.get?_push_size _ rfl) rfl ?_ (Nat.zero_le _) (by show (#[] ++ vs.toArray).size ≤ sizeLine + 1; simp only [Array.size_append, List.size_toArray, List.length_nil]; omega))
  refine wpAny_pure ?_
  show wpAny (model prog w) A (do
      let o ← load s.heap.objs.size
      match o.data with
      | .seq xs _ => pure xs.toList
      | _ => unsupported "internal:collect") Q E { s with heap := (s.heap.push (seqObj "list" #[] 0)).update s.heap.objs.size (Obj.mapSeq (· ++ vs.toArray)) }
  refine wpAny_bind (wpAny_load (get?_update_seq (Heap.get?_push_size _ rfl) _) ?_)
  show wpAny _ _ (pure ((#[] : Array Value) ++ vs.toArray).toList) Q E _
  rw [show ((#[] : Array Value) ++ vs.toArray).toList = vs by simp]
  exact wpAny_pure h
end
end PyProof.Rows
namespace SrtO
open PySem PyProof.Rows Srt
section
variable {prog : Program} {w : World} {A : Around} {E : Value → Shared → Prop} {s : Shared}
theorem sorted_ordT {l : Addr} {vs : List Value} {ltv : Value → Value → Bool} {Q : Value → Shared → Prop} (O : Swo ltv) (hl : s.heap.IsTuple l vs.toArray) (hz : vs.length ≤ sizeLine)
    (hS : 2 ≤ vs.length → ∀ (h₁ : Heap) (a : Addr), h₁.get? a = some (seqObj "list" vs.toArray 0) → (∀ b o, s.heap.get? b = some o → b ≠ a ∧ h₁.get? b = some o) → SortableO prog w A.in1.in1 { s with heap := h₁ } a vs ltv)
    (h : ∀ out : List Value, Srtd ltv out → Stb ltv out vs → Q (.ref (s.heap.objs.size + 1)) { s with heap := sortedAll s.heap vs out.toArray }) :
    wpAny (model prog w) A (call (.builtin "sorted") [.ref l]) Q E s := by
  refine Calls.call_function_entry kind_sorted plain_sorted entry_sorted (args_sorted1 _) ?_
  unfold Builtin.«sorted»
  refine wpAny_bind (m := checkCount "sorted" 1 1 _) (wpAny_pure ?_)
  refine wpAny_bind (collect_tup hl ?_ hz)
  refine wpAny_bind (wpAny_newList ?_ hz)
  have hsz : ((s.heap.push (seqObj "list" #[] 0)).update s.heap.objs.size (Obj.mapSeq (· ++ vs.toArray))).objs.size = s.heap.objs.size + 1 := by
    rw [Heap.size_update, size_push']
  have hoL : (((s.heap.push (seqObj "list" #[] 0)).update s.heap.objs.size (Obj.mapSeq (· ++ vs.toArray))).push (seqObj "list" vs.toArray 0)).get? (s.heap.objs.size + 1) = some (seqObj "list" vs.toArray 0) := by
    rw [← hsz]; exact Heap.get?_push_size _ rfl
  have keep : ∀ b o, s.heap.get? b = some o → b ≠ s.heap.objs.size + 1 ∧ (((s.heap.push (seqObj "list" #[] 0)).update s.heap.objs.size (Obj.mapSeq (· ++ vs.toArray))).push (seqObj "list" vs.toArray 0)).get? b = some o := fun b o q => by
    have hlt : b < s.heap.objs.size := Heap.lt_size q
    refine ⟨Nat.ne_of_lt (Nat.lt_succ_of_lt hlt), Heap.get?_push_of_some _ ?_⟩
    rw [Heap.get?_update_ne _ _ _ _ (Nat.ne_of_lt hlt)]
    exact Heap.get?_push_of_some _ q
  show wpAny _ _ _ _ _ { s with heap := ((s.heap.push (seqObj "list" #[] 0)).update s.heap.objs.size (Obj.mapSeq (· ++ vs.toArray))).push (seqObj "list" vs.toArray 0) }
  rw [hsz]
  refine wpAny_bind (wpAny_holding (wpAny_call_entry slot_list_sort ⟨_, hoL, rfl⟩ entry_list_sort (list_sort_ord O hoL hz (fun h2 => hS h2 _ _ hoL keep) fun out hs hb => ⟨_, rfl, ?_⟩) (args_list_sort _)))
  exact wpAny_pure ⟨_, rfl, h out hs hb⟩
end
end SrtO
namespace Mi
open PySem PySem.Spec PyProof.Rows L2
def rSortedIT (K : PySem.W.Frag) : List V → Hp → VK → Prop := fun vs H Q => ∃ (a : Addr) (ns : List Int), vs = [V.ref a] ∧ SqT K H a (ns.map V.int) ∧
  ∀ (ns' : List Int) (p : Addr), ns'.Perm ns → ns'.Pairwise (· ≤ ·) → H p = none → Q (.ref p) (upd H p (.lst (ns'.map V.int)))
theorem cr_sortedIT {X : Cx} : CallR X (.builtin "sorted") (rSortedIT X.K) := by
  intro pins s σ H vs us Q I r h
  obtain ⟨a, ns, rfl, hs, q⟩ := h
  obtain ⟨its, rv, hl, hz⟩ := I.tuple hs
  rw [Vals.ref1 r]
  have hi := rv.ints
  refine SrtO.sorted_ordT SrtO.swo_int (show s.heap.IsTuple a its.toArray from hl) (by rw [← rv.length]; exact hz) (fun h2 h₁ a' _ _ => SrtO.ints_sortable hi h2) fun out h1 h2 => ?_
  obtain ⟨k1, k2, k3⟩ := SrtO.ints_out hi h1 h2
  obtain ⟨ep, he'⟩ := PyProof.Rows.sortedAll_at s.heap its out.toArray
  have hlen : ((out.map SrtO.iv).map V.int).length ≤ sizeLine := by
    rw [List.length_map, k2.length_eq]
    rw [List.length_map] at hz
    exact hz
  exact ⟨.ref _, upd H (s.heap.objs.size + 1) (.lst ((out.map SrtO.iv).map V.int)), I.laid (t' := s.toks) (fun _ _ => PyProof.Rows.sortedAll_old) (Nat.le_succ _) ⟨hlen, out, ep, vals_of_ints k1, he'⟩, rfl, q _ _ k2 k3 (I.hok.fresh (Nat.le_succ _))⟩
end Mi

set_option Elab.async false
set_option linter.all false
set_option maxRecDepth 100000
set_option maxHeartbeats 2000000
set_option autoImplicit false
namespace Mi
open PySem PySem.Spec PyProof.Rows L2

theorem extend_tup (l : Addr) (items : Array Value) (n : Nat) (b : Addr) (items2 : Array Value) (n2 : Nat) (dd : Option Addr) (sl : Array (Option Value)) (hs0 : ¬(!items.isEmpty && Builtin.List.listTooLong (items.size + items2.size)) = true) (hs1 : items.size ≤ sizeLine) (hs2 : items.size + items2.size ≤ sizeLine + 1) :
    Meets (Builtin.«list.extend» ⟨[.ref l, .ref b], []⟩) (fun _ R s => s.heap.get? l = some { cls := .type "list", dict := none, data := .seq items n, slots := #[] } ∧ s.heap.get? b = some { cls := .type "tuple", dict := dd, data := .seq items2 n2, slots := sl } ∧ R (.ok (.ret Value.none)) { s with heap := s.heap.update l (Obj.mapSeq fun x => x ++ items2), toks := s.toks }) :=
  .of_wp fun prog w A R s h => by
    obtain ⟨hp, g, d, tk, os⟩ := s; obtain ⟨hl, hb, h⟩ := h; have f1 := AutoSeq1.idx_int; have f2 := AutoSeq1.sub_tuple_tuple; have f3 := AutoSeq1.sub_list_list; have f4 := AutoSeq1.sub_tuple_list; have f5 := AutoSeq1.sub_list_tuple;
    have hz' : (items ++ items2).size ≤ sizeLine + 1 := by rw [Array.size_append]; exact hs2
    wp_walk using (wpAny_updateSeq hl rfl (hz := hs1) (_hz' := hz')), AutoSeq1.wpAny_loadPart' hl, AutoSeq1.wpAny_loadPart' hb; exact ⟨_, rfl, h⟩
def intOf : Val → Option Int
  | .int i => some i
  | _ => none
def strOf : Val → Option Str
  | .str i => some i
  | _ => none
def prOf : Val → Option (Int × Int)
  | .tup [.int i, .int j] => some (i, j)
  | _ => none
def prV (p : Int × Int) : Val := .tup [.int p.1, .int p.2]
theorem mapM_ints : ∀ {vs : List Val} {is : List Int}, vs.mapM intOf = some is → vs = is.map Val.int
  | [], is, e => by rw [List.mapM_nil] at e; cases e; rfl
  | v :: vs, is, e => by
    rw [List.mapM_cons] at e
    cases e1 : intOf v with
    | none => rw [e1] at e; cases e
    | some k =>
      rw [e1] at e
      cases e2 : vs.mapM intOf with
      | none => rw [e2] at e; cases e
      | some js =>
        rw [e2] at e
        cases e
        rw [mapM_ints e2, List.map_cons]
        cases v <;> cases e1
        rfl
theorem mapM_strs : ∀ {vs : List Val} {is : List Str}, vs.mapM strOf = some is → vs = is.map Val.str
  | [], is, e => by rw [List.mapM_nil] at e; cases e; rfl
  | v :: vs, is, e => by
    rw [List.mapM_cons] at e
    cases e1 : strOf v with
    | none => rw [e1] at e; cases e
    | some k =>
      rw [e1] at e
      cases e2 : vs.mapM strOf with
      | none => rw [e2] at e; cases e
      | some js =>
        rw [e2] at e
        cases e
        rw [mapM_strs e2, List.map_cons]
        cases v <;> cases e1
        rfl
theorem prOf_eq {v : Val} {p : Int × Int} (e : prOf v = some p) : v = prV p := by
  unfold prOf at e
  split at e
  · cases e; rfl
  · cases e
theorem mapM_prs : ∀ {vs : List Val} {ps : List (Int × Int)}, vs.mapM prOf = some ps → vs = ps.map prV
  | [], is, e => by rw [List.mapM_nil] at e; cases e; rfl
  | v :: vs, is, e => by
    rw [List.mapM_cons] at e
    cases e1 : prOf v with
    | none => rw [e1] at e; cases e
    | some k =>
      rw [e1] at e
      cases e2 : vs.mapM prOf with
      | none => rw [e2] at e; cases e
      | some js =>
        rw [e2] at e
        cases e
        rw [mapM_prs e2, List.map_cons, prOf_eq e1]
def sortI (ns : List Int) : List Int := ns.mergeSort (fun a b => decide (a ≤ b))
theorem sortI_perm (ns : List Int) : (sortI ns).Perm ns := List.mergeSort_perm _ _
theorem sortI_le (ns : List Int) : (sortI ns).Pairwise (· ≤ ·) := by
  have := List.pairwise_mergeSort (le := fun a b : Int => decide (a ≤ b)) (fun a b c h1 h2 => by simp only [decide_eq_true_eq] at *; omega) (fun a b => by simp only [Bool.or_eq_true, decide_eq_true_eq]; omega) ns
  exact this.imp fun h => of_decide_eq_true h
theorem sortI_uniq {ns ms : List Int} (p : ms.Perm ns) (s : ms.Pairwise (· ≤ ·)) : ms = sortI ns :=
  List.Perm.eq_of_pairwise (le := (· ≤ ·)) (fun a b _ _ h1 h2 => Int.le_antisymm h1 h2) s (sortI_le ns) (p.trans (sortI_perm ns).symm)
def leP (p q : Int × Int) : Prop := p.1 < q.1 ∨ (p.1 = q.1 ∧ p.2 ≤ q.2)
instance : DecidableRel leP := fun p q => by unfold leP; infer_instance
def sortP (ns : List (Int × Int)) : List (Int × Int) := ns.mergeSort (fun a b => decide (leP a b))
theorem sortP_perm (ns : List (Int × Int)) : (sortP ns).Perm ns := List.mergeSort_perm _ _
theorem sortP_le (ns : List (Int × Int)) : (sortP ns).Pairwise leP := by
  have := List.pairwise_mergeSort (le := fun a b : Int × Int => decide (leP a b)) (fun a b c h1 h2 => by have h1 := of_decide_eq_true h1; have h2 := of_decide_eq_true h2; refine decide_eq_true ?_; unfold leP at *; omega) (fun a b => by rw [Bool.or_eq_true, decide_eq_true_eq, decide_eq_true_eq]; unfold leP; omega) ns
  exact this.imp fun h => of_decide_eq_true h
theorem sortP_uniq {ns ms : List (Int × Int)} (p : ms.Perm ns) (s : ms.Pairwise leP) : ms = sortP ns :=
  List.Perm.eq_of_pairwise (le := leP) (fun a b _ _ h1 h2 => by unfold leP at *; exact Prod.ext (by omega) (by omega)) s (sortP_le ns) (p.trans (sortP_perm ns).symm)
def leS (a b : Str) : Bool := !Spec.ltCps b.cps.toList a.cps.toList
theorem ltCps_irrefl : ∀ a : List Nat, Spec.ltCps a a = false := by
  intro a
  induction a with
  | nil => rfl
  | cons x xs ih => simp [Spec.ltCps, ih]
theorem ltCps_cons (x y : Nat) (xs ys : List Nat) : Spec.ltCps (x :: xs) (y :: ys) = (decide (x < y) || (decide (x = y) && Spec.ltCps xs ys)) := rfl
theorem ltCps_tri : ∀ a b : List Nat, Spec.ltCps a b = false → Spec.ltCps b a = false → a = b
  | [], [], _, _ => rfl
  | [], _ :: _, h, _ => by simp [Spec.ltCps] at h
  | _ :: _, [], _, h => by simp [Spec.ltCps] at h
  | x :: xs, y :: ys, h1, h2 => by
    rw [ltCps_cons] at h1 h2
    simp only [Bool.or_eq_false_iff, decide_eq_false_iff_not, Bool.and_eq_false_iff] at h1 h2
    have e : x = y := by omega
    subst e
    rw [ltCps_tri xs ys (by rcases h1.2 with z | z; exact absurd rfl z; exact z) (by rcases h2.2 with z | z; exact absurd rfl z; exact z)]
theorem ltCps_asym : ∀ a b : List Nat, Spec.ltCps a b = true → Spec.ltCps b a = false
  | [], [], h => by simp [Spec.ltCps] at h
  | [], _ :: _, h => by simp [Spec.ltCps]
  | _ :: _, [], h => by simp [Spec.ltCps] at h
  | x :: xs, y :: ys, h1 => by
    rw [ltCps_cons] at h1
    rw [ltCps_cons]
    simp only [Bool.or_eq_true, decide_eq_true_eq, Bool.and_eq_true] at h1
    simp only [Bool.or_eq_false_iff, decide_eq_false_iff_not, Bool.and_eq_false_iff]
    rcases h1 with h | ⟨h, h2⟩
    · exact ⟨by omega, .inl (by omega)⟩
    · exact ⟨by omega, .inr (ltCps_asym xs ys h2)⟩
theorem ltCps_trans : ∀ a b c : List Nat, Spec.ltCps b a = false → Spec.ltCps c b = false → Spec.ltCps c a = false
  | [], _, [], _, _ => by simp [Spec.ltCps]
  | [], _, _ :: _, _, _ => by simp [Spec.ltCps]
  | _ :: _, [], _, h, _ => by simp [Spec.ltCps] at h
  | _ :: _, _ :: _, [], _, h => by simp [Spec.ltCps] at h
  | x :: xs, y :: ys, z :: zs, h1, h2 => by
    rw [ltCps_cons] at *
    simp only [Bool.or_eq_false_iff, decide_eq_false_iff_not, Bool.and_eq_false_iff] at *
    refine ⟨by omega, ?_⟩
    by_cases e : z = x
    · refine .inr (ltCps_trans xs ys zs ?_ ?_)
      · rcases h1.2 with q | q
        · omega
        · exact q
      · rcases h2.2 with q | q
        · omega
        · exact q
    · exact .inl e
theorem leS_trans (a b c : Str) (h1 : leS a b = true) (h2 : leS b c = true) : leS a c = true := by
  unfold leS at *
  simp only [Bool.not_eq_true'] at *
  exact ltCps_trans _ _ _ h1 h2
theorem leS_total (a b : Str) : (leS a b || leS b a) = true := by
  unfold leS
  cases e : Spec.ltCps b.cps.toList a.cps.toList with
  | false => rfl
  | true => rw [ltCps_asym _ _ e]; rfl
theorem leS_anti (a b : Str) (h1 : leS a b = true) (h2 : leS b a = true) : a = b := by
  unfold leS at *
  simp only [Bool.not_eq_true'] at *
  have := ltCps_tri _ _ h2 h1
  cases a; cases b
  simp only [Str.mk.injEq]
  exact Array.toList_inj.mp this
def sortS (ns : List Str) : List Str := ns.mergeSort leS
theorem sortS_perm (ns : List Str) : (sortS ns).Perm ns := List.mergeSort_perm _ _
theorem sortS_le (ns : List Str) : (sortS ns).Pairwise fun a b => leS a b = true := List.pairwise_mergeSort leS_trans leS_total ns
theorem risingS_pw : ∀ (p : Str) (ns : List Str), PyProof.Rows.risingS p ns = true → (p :: ns).Pairwise fun a b => leS a b = true
  | p, [], _ => List.pairwise_singleton _ _
  | p, x :: r, h => by
    unfold PyProof.Rows.risingS at h
    rw [Bool.and_eq_true] at h
    have ih := risingS_pw x r h.2
    refine List.pairwise_cons.mpr ⟨fun y hy => ?_, ih⟩
    have hpx : leS p x = true := h.1
    rcases List.mem_cons.mp hy with e | hy
    · rw [e]; exact hpx
    · exact leS_trans _ _ _ hpx ((List.pairwise_cons.mp ih).1 y hy)
theorem sortS_uniq {ns ms : List Str} (p : ms.Perm ns) (s : PyProof.Rows.sortedS ms = true) : ms = sortS ns := by
  refine List.Perm.eq_of_pairwise (le := fun a b => leS a b = true) (fun a b _ _ h1 h2 => leS_anti a b h1 h2) ?_ (sortS_le ns) (p.trans (sortS_perm ns).symm)
  cases ms with
  | nil => exact .nil
  | cons x r => exact risingS_pw x r s
section
variable {X : Cx}
def sortV (vs : List Val) : Option (List Val) := match vs.mapM intOf with
  | some is => some ((sortI is).map Val.int)
  | none => match vs.mapM prOf with
    | some ps => some ((sortP ps).map prV)
    | none => match vs.mapM strOf with
      | some ss => if ss.length < 64 then some ((sortS ss).map Val.str) else none
      | none => none
def fSorted (as : List Opd) (h : MH) : Res Cell := match as with
  | [o] => match lisOf o h with
    | some vs => (sortV vs).map fun us => (.lst us, h)
    | none => match o with
      | .val (.tup vs) => (vs.mapM intOf).map fun is => (.lst ((sortI is).map Val.int), h)
      | _ => none
  | _ => none
abbrev rSortedM (K : PySem.W.Frag) : List V → Hp → VK → Prop := fun xs H Q => rSortedI K xs H Q ∨ (rSortedPO K xs H Q ∨ (rSortedS K xs H Q ∨ rSortedIT K xs H Q))
theorem c_sorted : CallR X (.builtin "sorted") (rSortedM X.K) := cr_sortedI.or (cr_sortedPO.or (cr_sortedS.or cr_sortedIT))
noncomputable def prAt (H : Hp) (x : V) : Int × Int := match x with
  | .ref t => match H t with
    | some (.tup [.int i, .int j]) => (i, j)
    | _ => (0, 0)
  | _ => (0, 0)
theorem prs_back {K : PySem.W.Frag} {ρ : List Addr} {H : Hp} : ∀ {ps : List (Int × Int)} {xs : List V}, RVs K ρ H (ps.map prV) xs → xs.map (prAt H) = ps ∧ ∀ x ∈ xs, ∃ t, x = V.ref t ∧ H t = some (.tup [.int (prAt H x).1, .int (prAt H x).2])
  | [], _, .nil => ⟨rfl, fun _ h => nomatch h⟩
  | p :: ps, _, .cons r t => by
    obtain ⟨i1, i2⟩ := prs_back t
    unfold prV at r
    cases r with
    | @tup _ a xs q r2 =>
      obtain ⟨x, y, rfl, r3, r4⟩ := r2.two
      cases r3; cases r4
      have e : prAt H (.ref a) = p := by simp only [prAt, q]
      refine ⟨by rw [List.map_cons, e, i1], fun z hz => ?_⟩
      rcases List.mem_cons.mp hz with hz | hz
      · subst hz; exact ⟨a, rfl, by rw [e]; exact q⟩
      · exact i2 z hz
theorem prs_forth {K : PySem.W.Frag} {ρ : List Addr} {H : Hp} : ∀ {ys : List V}, (∀ x ∈ ys, ∃ t, x = V.ref t ∧ H t = some (.tup [.int (prAt H x).1, .int (prAt H x).2])) → RVs K ρ H ((ys.map (prAt H)).map prV) ys
  | [], _ => .nil
  | y :: ys, h => by
    obtain ⟨t, e, q⟩ := h y (List.mem_cons_self ..)
    refine .cons ?_ (prs_forth fun x hx => h x (List.mem_cons_of_mem _ hx))
    subst e
    exact .tup q (.cons (.int _) (.cons (.int _) .nil))
theorem prs_sorted {K : PySem.W.Frag} {ρ : List Addr} {H : Hp} {ps : List (Int × Int)} {xs ys : List V} (r : RVs K ρ H (ps.map prV) xs) (s : SrtO.Srtd (ltP (prAt H)) ys) (b : SrtO.Stb (ltP (prAt H)) ys xs) : RVs K ρ H ((sortP ps).map prV) ys := by
  obtain ⟨e1, e2⟩ := prs_back r
  have hp := b.perm
  have e3 : ys.map (prAt H) = sortP ps := by
    refine sortP_uniq (by rw [← e1]; exact hp.map _) ?_
    refine List.pairwise_map.mpr (s.imp fun {x y} h => ?_)
    have := SrtO.lexB_no.mp h
    unfold leP
    omega
  rw [← e3]
  exact prs_forth fun x hx => e2 x (hp.mem_iff.mp hx)
theorem g_sorted : CallG X (RNew X.K) (rSortedM X.K) fSorted := fun ρ H h as xs v h' Q S ra e G => by
  unfold fSorted at e
  split at e
  · split at e
    · rename_i vs e1
      obtain ⟨us, e2, e3⟩ := Option.map_eq_some_iff.mp e
      cases e3
      obtain ⟨x, rfl, r⟩ := ros_one ra
      obtain ⟨p, ys, rfl, q, r⟩ := lisOf_ok S r e1
      unfold sortV at e2
      split at e2
      · rename_i is e3
        cases e2
        rw [mapM_ints e3] at r
        rw [r.ints] at q
        refine .inl ⟨p, is, rfl, q, fun ns' l h1 h2 hl => ?_⟩
        rw [sortI_uniq h1 h2]
        exact good_lst S (RVs.of_ints _) G hl
      · split at e2
        · rename_i ps e3
          cases e2
          rw [mapM_prs e3] at r
          exact .inr (.inl ⟨p, ys, prAt H, rfl, q, (prs_back r).2, fun zs l h1 h2 hl => good_lst S (prs_sorted r h1 h2) G hl⟩)
        · split at e2
          · rename_i ss e3
            split at e2
            · rename_i hz
              cases e2
              rw [mapM_strs e3] at r
              rw [r.strs] at q
              refine .inr (.inr (.inl ⟨p, ss, rfl, q, hz, fun ns' l h1 h2 hl => ?_⟩))
              rw [sortS_uniq h1 h2]
              exact good_lst S (RVs.of_strs _) G hl
            · cases e2
          · cases e2
    · split at e
      · rename_i vs _
        obtain ⟨is, e2, e3⟩ := Option.map_eq_some_iff.mp e
        cases e3
        obtain ⟨x, rfl, r⟩ := ros_one ra
        obtain ⟨p, ys, rfl, q, r⟩ := rv_tup r
        rw [mapM_ints e2] at r
        rw [r.ints] at q
        refine .inr (.inr (.inr ⟨p, is, rfl, SqT.of q, fun ns' l h1 h2 hl => ?_⟩))
        rw [sortI_uniq h1 h2]
        exact good_lst S (RVs.of_ints _) G hl
      · cases e
  · cases e

def tyName (o : Opd) (h : MH) : Option String := match o with
  | .val .non => some "NoneType"
  | .val (.bl _) => some "bool"
  | .val (.int _) => some "int"
  | .val (.str _) => some "str"
  | .val (.tup _) => some "tuple"
  | .val (.kls _) => some "list"
  | .val (.ref n) => (match h[n]? with
    | some (.lst _) => some "list"
    | some (.frz _) => some "list"
    | some (.dK _) => some "dict"
    | some (.dT _) => some "dict"
    | none => none)
  | .cell (.lst _) => some "list"
  | .cell (.frz _) => some "list"
  | .cell (.dK _) => some "dict"
  | .cell (.dT _) => some "dict"
theorem tyC_ok {K : PySem.W.Frag} {ρ : List Addr} {H : Hp} {c : Cell} {a : Addr} (r : RC K ρ H c a) : TyX K H (.ref a) (.type (match c with | .lst _ => "list" | .frz _ => "list" | .dK _ => "dict" | .dT _ => "dict")) := by
  cases c with
  | lst _ => obtain ⟨xs, q, _⟩ := r; exact .base (.lst q)
  | frz _ => obtain ⟨o, xs, q, _⟩ := r; exact .base (.frz q)
  | dK _ => obtain ⟨xs, q, _⟩ := r; exact .base (.dK q)
  | dT _ => obtain ⟨xs, q, _⟩ := r; exact .base (.dT q)
theorem tyName_ok {K : PySem.W.Frag} {Hs : Hp} {ρ : List Addr} {H : Hp} {h : MH} {o : Opd} {x : V} {n : String} (S : RS K ρ H h) (r : ROpd K Hs ρ H o x) (e : tyName o h = some n) : TyX K H x (.type n) := by
  cases o with
  | val v =>
    have r : RV K ρ H v x := r
    cases r with
    | non => cases e; exact .base .non
    | bl b => cases e; exact .base (.bl b)
    | int b => cases e; exact .base (.int b)
    | str b => cases e; exact .base (.str b)
    | tup q r => cases e; exact .base (.tup q)
    | kls q => cases e; obtain ⟨o, its, n, e1, e2, _⟩ := q; exact .kList e1 e2
    | @ref n a en =>
      unfold tyName at e
      simp only at e
      split at e
      · rename_i eh; cases e; exact tyC_ok (S.cell n _ a eh en)
      · rename_i eh; cases e; exact tyC_ok (S.cell n _ a eh en)
      · rename_i eh; cases e; exact tyC_ok (S.cell n _ a eh en)
      · rename_i eh; cases e; exact tyC_ok (S.cell n _ a eh en)
      · cases e
  | cell k =>
    obtain ⟨a, rfl, _, q⟩ := r
    cases k <;> (cases e; exact tyC_ok q)
def isTy (T n : String) : Bool := n == T || (n == "bool" && T == "int")
def OkT (T : String) : Prop := ∀ n ∈ ["NoneType", "bool", "int", "str", "tuple", "list", "dict"], kitB n T = some (isTy T n)
theorem okT_int : OkT "int" := by unfold OkT; decide +kernel
theorem okT_bool : OkT "bool" := by unfold OkT; decide +kernel
theorem okT_str : OkT "str" := by unfold OkT; decide +kernel
theorem okT_tuple : OkT "tuple" := by unfold OkT; decide +kernel
theorem okT_list : OkT "list" := by unfold OkT; decide +kernel
theorem okT_dict : OkT "dict" := by unfold OkT; decide +kernel
theorem tyName_mem {o : Opd} {h : MH} {n : String} (e : tyName o h = some n) : n ∈ ["NoneType", "bool", "int", "str", "tuple", "list", "dict"] := by
  unfold tyName at e
  split at e <;> first | (cases e; decide) | (split at e <;> first | (cases e; decide) | cases e)
def xIsi (T : String) (m : EM Opd) : EM Val := fun env h => (m env h).bind fun o h1 => match tyName o h1 with
  | some n => .ok (.bl (isTy T n)) h1
  | none => .stuck
variable {c : Ctx} {W : WX} {e : Expr}
theorem e_isi {T : String} {m : EM Opd} {x : Str} {p p2 pos : Pos} (okT : OkT T) (hm : X.mg "isinstance" = none) (hmx : X.mg x = none) (ha : EO X c W e m) (hv : bootBuiltins x = some (.type T) := by decide +kernel) (hg : Gl X "isinstance" := by rfl) (hgx : Gl X x := by rfl)
    (hn : x ≠ "__name__" := by decide) (hdb : (x == ("__debug__" : Str)) = false := by decide)
    (h1 : starEach [e, .Name x p2] X.env = (false, eval e X.env) :: starEach [.Name x p2] X.env := by rfl) (h2 : (backTo pos (starEach [.Name x p2] X.env)).any (·.1) = false := by rfl) (h3 : starEach [.Name x p2] X.env = (false, eval (.Name x p2) X.env) :: starEach [] X.env := by rfl) :
    E X c W (.Call (.Name "isinstance" p) [e, .Name x p2] [] pos) (xIsi T m) := by
  refine PE.imp (pe_callB call_isi hg hm (by decide +kernel) (pa_cons ha (pa_cons (pe_bltn hgx hmx hv (v := .ty T) rfl hn hdb) pa_nil h3) h1) (by decide) (by decide) h1 h2) fun σ H Q ⟨ρ, env, h, S, F⟩ => ⟨ρ, env, h, S, ?_⟩
  refine (Fin.bind (R := ROpd X.K) mon_val F).mono fun x H1 ⟨o, h1, ρ1, e1, s1, r1, F1⟩ => ?_
  cases q : tyName o h1 with
  | none => rw [q] at F1; exact F1.elim
  | some n =>
    rw [q] at F1
    exact ⟨x, .ty T, .type n, .type T, isTy T n, rfl, .ty T, tyName_ok s1 r1 q, kit_ty (okT n (tyName_mem q)), F1 ρ1 _ H1 .refl s1 (.bl _)⟩

def fAbs (as : List Opd) (h : MH) : Res Val := match as with
  | [.val (.int i)] => some (.int (if i < 0 then -i else i), h)
  | _ => none
theorem g_abs : CallG X (RVal X.K) (fun xs H Q => ∃ i, xs = [.int i] ∧ Q (.int (if i < 0 then -i else i)) H) fAbs := fun ρ H h as xs v h' Q S ra e G => by
  unfold fAbs at e
  split at e
  · cases e
    obtain ⟨x, rfl, r⟩ := ros_one ra
    rw [rv_int r]
    exact ⟨_, rfl, G.now S (.int _)⟩
  · cases e
def fStr (as : List Opd) (h : MH) : Res Val := match as with
  | [.val (.int i)] => if i.natAbs.log2 < 1920 then some (.str (toString i), h) else none
  | _ => none
theorem g_str : CallG X (RVal X.K) (fun xs H Q => ∃ i, xs = [.int i] ∧ i.natAbs.log2 < 1920 ∧ Q (.str (toString i)) H) fStr := fun ρ H h as xs v h' Q S ra e G => by
  unfold fStr at e
  split at e
  · split at e
    · rename_i hz
      cases e
      obtain ⟨x, rfl, r⟩ := ros_one ra
      rw [rv_int r]
      exact ⟨_, rfl, hz, G.now S (.str _)⟩
    · cases e
  · cases e
def maxI (ns : List Int) : Int := ns.tail.foldl max (ns.headD 0)
def minI (ns : List Int) : Int := ns.tail.foldl min (ns.headD 0)
theorem foldl_max : ∀ (l : List Int) (a : Int), (∀ y ∈ a :: l, y ≤ l.foldl max a) ∧ l.foldl max a ∈ a :: l
  | [], a => by simp
  | b :: l, a => by
    obtain ⟨h1, h2⟩ := foldl_max l (max a b)
    rw [List.foldl_cons]
    refine ⟨fun y hy => ?_, ?_⟩
    · have hm := h1 (max a b) (List.mem_cons_self ..)
      rcases List.mem_cons.mp hy with e | hy
      · subst e; omega
      · rcases List.mem_cons.mp hy with e | hy
        · subst e; omega
        · exact h1 y (List.mem_cons_of_mem _ hy)
    · rcases List.mem_cons.mp h2 with e | h2
      · rw [e]
        by_cases h : a ≤ b
        · rw [Int.max_eq_right h]; simp
        · rw [Int.max_eq_left (by omega)]; simp
      · exact List.mem_cons_of_mem _ (List.mem_cons_of_mem _ h2)
theorem foldl_min : ∀ (l : List Int) (a : Int), (∀ y ∈ a :: l, l.foldl min a ≤ y) ∧ l.foldl min a ∈ a :: l
  | [], a => by simp
  | b :: l, a => by
    obtain ⟨h1, h2⟩ := foldl_min l (min a b)
    rw [List.foldl_cons]
    refine ⟨fun y hy => ?_, ?_⟩
    · have hm := h1 (min a b) (List.mem_cons_self ..)
      rcases List.mem_cons.mp hy with e | hy
      · subst e; omega
      · rcases List.mem_cons.mp hy with e | hy
        · subst e; omega
        · exact h1 y (List.mem_cons_of_mem _ hy)
    · rcases List.mem_cons.mp h2 with e | h2
      · rw [e]
        by_cases h : a ≤ b
        · rw [Int.min_eq_left h]; simp
        · rw [Int.min_eq_right (by omega)]; simp
      · exact List.mem_cons_of_mem _ (List.mem_cons_of_mem _ h2)
theorem maxI_uniq {ns : List Int} {m : Int} (h0 : 0 < ns.length) (h1 : m ∈ ns) (h2 : ∀ y ∈ ns, y ≤ m) : m = maxI ns := by
  cases ns with
  | nil => simp at h0
  | cons a l =>
    obtain ⟨a1, a2⟩ := foldl_max l a
    exact Int.le_antisymm (a1 m h1) (h2 _ a2)
theorem minI_uniq {ns : List Int} {m : Int} (h0 : 0 < ns.length) (h1 : m ∈ ns) (h2 : ∀ y ∈ ns, m ≤ y) : m = minI ns := by
  cases ns with
  | nil => simp at h0
  | cons a l =>
    obtain ⟨a1, a2⟩ := foldl_min l a
    exact Int.le_antisymm (h2 _ a2) (a1 m h1)
def fAgg (g : List Int → Option Int) (two : Int → Int → Option Int) (as : List Opd) (h : MH) : Res Val := match as with
  | [.val (.int i), .val (.int j)] => (two i j).map fun k => (.int k, h)
  | [o] => match lisOf o h with
    | some vs => (match vs.mapM intOf with
      | some is => (g is).map fun k => (.int k, h)
      | none => none)
    | none => none
  | _ => none
def ne0 (g : List Int → Int) (ns : List Int) : Option Int := if 0 < ns.length then some (g ns) else none
def fMax := fAgg (ne0 maxI) fun i j => some (if j > i then j else i)
def fMin := fAgg (ne0 minI) fun i j => some (if j < i then j else i)
def fSum := fAgg (fun ns => some ns.sum) fun _ _ => none
abbrev rMaxM (K : PySem.W.Frag) : List V → Hp → VK → Prop := fun xs H Q => (∃ i j, xs = [.int i, .int j] ∧ Q (.int (if j > i then j else i)) H) ∨ rMax K xs H Q
abbrev rMinM (K : PySem.W.Frag) : List V → Hp → VK → Prop := fun xs H Q => (∃ i j, xs = [.int i, .int j] ∧ Q (.int (if j < i then j else i)) H) ∨ rMin K xs H Q
theorem c_max (hc : X.calm = true) : CallR X (.builtin "max") (rMaxM X.K) := (call_max2 hc).or (cr_max hc)
theorem c_min (hc : X.calm = true) : CallR X (.builtin "min") (rMinM X.K) := (call_min2 hc).or (cr_min hc)
theorem fAgg_ok {R : List V → Hp → VK → Prop} {g : List Int → Option Int} {two : Int → Int → Option Int} (h2 : ∀ i j k H Q, two i j = some k → Q (.int k) H → R [.int i, .int j] H Q) (h1 : ∀ a ns k H Q, SqL X.K H a (ns.map V.int) → g ns = some k → Q (.int k) H → R [.ref a] H Q) : CallG X (RVal X.K) R (fAgg g two) := fun ρ H h as xs v h' Q S ra e G => by
  unfold fAgg at e
  split at e
  · obtain ⟨k, e1, e2⟩ := Option.map_eq_some_iff.mp e
    cases e2
    obtain ⟨x, y, rfl, r1, r2⟩ := ros_two ra
    rw [rv_int r1, rv_int r2]
    exact h2 _ _ k H Q e1 (G.now S (.int _))
  · split at e
    · rename_i vs e1
      split at e
      · rename_i is e3
        obtain ⟨k, e2, e4⟩ := Option.map_eq_some_iff.mp e
        cases e4
        obtain ⟨x, rfl, r⟩ := ros_one ra
        obtain ⟨p, ys, rfl, q, r⟩ := lisOf_ok S r e1
        rw [mapM_ints e3] at r
        rw [r.ints] at q
        exact h1 p is k H Q q e2 (G.now S (.int _))
      · cases e
    · cases e
  · cases e
theorem g_max : CallG X (RVal X.K) (rMaxM X.K) fMax := fAgg_ok (fun i j k H Q e q => by cases e; exact .inl ⟨i, j, rfl, q⟩) fun a ns k H Q hs e q => by
  unfold ne0 at e
  split at e
  · rename_i h0
    cases e
    exact .inr ⟨a, ns, rfl, hs, h0, fun m h1 h2 => by rw [maxI_uniq h0 h1 h2]; exact q⟩
  · cases e
theorem g_min : CallG X (RVal X.K) (rMinM X.K) fMin := fAgg_ok (fun i j k H Q e q => by cases e; exact .inl ⟨i, j, rfl, q⟩) fun a ns k H Q hs e q => by
  unfold ne0 at e
  split at e
  · rename_i h0
    cases e
    exact .inr ⟨a, ns, rfl, hs, h0, fun m h1 h2 => by rw [minI_uniq h0 h1 h2]; exact q⟩
  · cases e
theorem g_sum : CallG X (RVal X.K) (rSum X.K) fSum := fAgg_ok (fun i j k H Q e q => by cases e) fun a ns k H Q hs e q => by
  cases e
  exact ⟨a, ns, rfl, hs, q⟩

def xDct (c : Cell) : EM Cell := fun _ h => .ok c h
theorem n_dctK {pos : Pos} : EC X c W (.Dict [] [] pos) (xDct (.dK [])) := PE.imp pe_dnewK fun σ H Q ⟨ρ, env, h, S, F⟩ => fun p hp => F ρ (.ref p) _ (.new1 hp) (S.rs.new1 hp) ⟨p, rfl, hp, S.rs.notNone hp, [], upd_same, rfl, .nil⟩
theorem n_dctT {pos : Pos} : EC X c W (.Dict [] [] pos) (xDct (.dT [])) := PE.imp pe_dnewT fun σ H Q ⟨ρ, env, h, S, F⟩ => fun p hp => F ρ (.ref p) _ (.new1 hp) (S.rs.new1 hp) ⟨p, rfl, hp, S.rs.notNone hp, [], upd_same, rfl, .nil⟩

def cellSet (c : Cell) (i v : Val) : Option Cell := match c with
  | .lst vs => (match i with
    | .int k => (ixN vs.length k).map fun j => .lst (vs.set j v)
    | _ => none)
  | .dK kvs => if kvs.length < 100000 then (keyOf i).map fun k => .dK (putM kvs k v) else none
  | .dT kvs => if kvs.length < 100000 then (keysOf i).map fun k => .dT (putM kvs k v) else none
  | _ => none
def rSetM : V → V → V → Hp → (Hp → Prop) → Prop := fun o i v H Q => rSetL o i v H Q ∨ ∃ a H', o = .ref a ∧ DPut H a i v H' ∧ Q H'
theorem p_set (hu : X.A.units + 64 < cLine) : PSet X rSetM := by
  intro pins s σ H o i v ov iv u Q I ro ri rv h
  rcases h with h | ⟨a, H', rfl, g, q⟩
  · exact set_list pins s σ H o i v ov iv u Q I ro ri rv h
  · cases ro
    exact d_setItem (by omega) I g ri rv fun s4 I4 => ⟨H', I4, q⟩
theorem cellSet_ok {K : PySem.W.Frag} {ρ : List Addr} {H : Hp} {h : MH} {c c' : Cell} {a : Addr} {i v : Val} {y z : V} {Q : Hp → Prop} (rc : RC K ρ H c a) (ri : RV K ρ H i y) (rv : RV K ρ H v z) (e : cellSet c i v = some c')
    (q : ∀ o, (∀ ρ1 H1, (∀ b xs, H b = some (HO.tup xs) → H1 b = some (HO.tup xs)) → (∀ (m : Nat) (b : Addr), ρ[m]? = some b → ρ1[m]? = some b) → H1 a = some o → RC K ρ1 H1 c' a) → Q (upd H a o)) : rSetM (.ref a) y z H Q := by
  unfold cellSet at e
  split at e
  · rename_i vs
    split at e
    · rename_i k
      obtain ⟨j, e1, e2⟩ := Option.map_eq_some_iff.mp e
      cases e2
      cases ri
      obtain ⟨xs, e3, r⟩ := rc
      exact .inl ⟨a, xs, k, j, rfl, rfl, e3, by rw [← r.length]; exact e1, q _ fun ρ1 H1 ht up e4 => ⟨_, e4, (r.set rv j).gen ht up⟩⟩
    · cases e
  · rename_i kvs
    split at e
    · rename_i hz
      obtain ⟨k, e1, e2⟩ := Option.map_eq_some_iff.mp e
      cases e2
      obtain ⟨ws, e3, r⟩ := rc
      rw [keyOf_ok ri e1]
      exact .inr ⟨a, _, rfl, DPut.k e3 (by rw [← r.length, sizeLine_eq]; omega), q _ fun ρ1 H1 ht up e4 => ⟨_, e4, (r.put k rv).1, (r.put k rv).2.gen ht up⟩⟩
    · cases e
  · rename_i kvs
    split at e
    · rename_i hz
      obtain ⟨k, e1, e2⟩ := Option.map_eq_some_iff.mp e
      cases e2
      obtain ⟨ws, e3, r⟩ := rc
      obtain ⟨b, rfl, eb⟩ := keysOf_ok ri e1
      exact .inr ⟨a, _, rfl, DPut.t e3 eb (by rw [← r.length, sizeLine_eq]; omega), q _ fun ρ1 H1 ht up e4 => ⟨_, e4, (r.put k rv).1, (r.put k rv).2.gen ht up⟩⟩
    · cases e
  · cases e
theorem RC.noTup {K : PySem.W.Frag} {ρ : List Addr} {H : Hp} {c : Cell} {a : Addr} (rc : RC K ρ H c a) : ∀ xs, ¬ Rd H a (.tup xs) := fun xs => rc.notTup
theorem RS.write {K : PySem.W.Frag} {ρ : List Addr} {H : Hp} {h : MH} {n : Nat} {a : Addr} {c' : Cell} {o : HO} (S : RS K ρ H h) (en : ρ[n]? = some a) (r : RC K ρ (upd H a o) c' a) : RS K ρ (upd H a o) (h.set n c') ∧ Ex ρ H ρ (upd H a o) := by
  have hl : n < h.length := by rw [← S.len]; exact (List.getElem?_eq_some_iff.mp en).1
  have nt : ∀ xs, ¬ Rd H a (.tup xs) := fun xs q => S.notTup q (List.mem_of_getElem? en)
  refine ⟨⟨by rw [List.length_set]; exact S.len, S.nd, fun m c b e1 e2 => ?_⟩, ⟨List.prefix_refl _, fun b u e hb => ?_, fun _ hb => .inl hb⟩⟩
  · by_cases hm : m = n
    · subst hm
      rw [List.getElem?_set_self hl] at e1
      cases e1
      rw [en] at e2
      cases e2
      exact r
    · rw [List.getElem?_set_ne (Ne.symm hm)] at e1
      have hb : b ≠ a := fun z => by
        subst z
        exact hm ((List.getElem?_inj (by rw [S.len]; exact (List.getElem?_eq_some_iff.mp e1).1) S.nd).mp (e2.trans en.symm))
      exact (S.cell m c b e1 e2).gen (fun _ _ q => sqT_upd nt q) (fun _ _ z => z) (upd_ne hb)
  · have hb : b ≠ a := fun z => hb (z ▸ List.mem_of_getElem? en)
    exact (upd_ne hb).trans e
def fSet (o i v : Val) (h : MH) : Option MH := match o with
  | .ref n => match h[n]? with
    | some c => (cellSet c i v).map fun c' => h.set n c'
    | none => none
  | _ => none
theorem g_set : SetG X rSetM fSet := fun ρ H h a b v x y z h' Q S ra rb rv e G => by
  unfold fSet at e
  split at e
  · rename_i n
    split at e
    · rename_i k ek
      obtain ⟨c', e1, e2⟩ := Option.map_eq_some_iff.mp e
      subst e2
      cases ra with
      | ref en =>
        have rc := S.cell n k _ ek en
        refine cellSet_ok (h := h) rc rb rv e1 fun o ho => ?_
        obtain ⟨s2, x2⟩ := S.write (o := o) en (ho ρ _ (fun _ _ q => sqT_upd rc.noTup q) (fun _ _ z => z) upd_same)
        exact G _ x2 s2
    · cases e
  · cases e
theorem g_ownSet : OwnSetG X rSetM cellSet := fun ρ H h k a b v y z k' Q S n rc rb rv e G => by
  refine cellSet_ok (h := h) rc rb rv e fun o ho => ?_
  refine G _ (fun b u hb q => (upd_ne hb).trans q) ?_ (ho ρ _ (fun _ _ q => sqT_upd rc.noTup q) (fun _ _ z => z) upd_same)
  exact ⟨S.len, S.nd, fun m c b e1 e2 => (S.cell m c b e1 e2).gen (fun _ _ q => sqT_upd rc.noTup q) (fun _ _ z => z) (upd_ne fun z => n (z ▸ List.mem_of_getElem? e2))⟩
def cellAt (c : Cell) (i : Val) : Option Val := match c with
  | .lst vs => (match i with
    | .int k => L2.atI vs k
    | _ => none)
  | c => match cellGet c i with
    | some (some v) => some v
    | _ => none
end
end Mi

set_option Elab.async false
set_option linter.all false
set_option maxRecDepth 100000
set_option maxHeartbeats 2000000
set_option autoImplicit false
namespace Mi
open PySem PySem.Spec PyProof.Rows L2

def CM (X : Cx) (r : V → List V → Hp → VK → Prop) (f : Cell → List Opd → MH → Option (Val × Cell)) : Prop :=
  ∀ (ρ : List Addr) (H : Hp) (h : MH) (c : Cell) (a : Addr) (as : List Opd) (xs : List V) (v : Val) (c' : Cell) (Q : VK), RS X.K ρ H h → RC X.K ρ H c a → ROs X.K ρ H as xs → f c as h = some (v, c') →
    (∀ o z, (∀ ρ1 H1, (∀ b xs, H b = some (HO.tup xs) → H1 b = some (HO.tup xs)) → (∀ (m : Nat) (b : Addr), ρ[m]? = some b → ρ1[m]? = some b) → H1 a = some o → RC X.K ρ1 H1 c' a) → RV X.K ρ H v z → Q z (upd H a o)) → r (.ref a) xs H Q
section
variable {X : Cx} {r : V → List V → Hp → VK → Prop} {f : Cell → List Opd → MH → Option (Val × Cell)}
theorem CM.own (hf : CM X r f) : OwnG X (RVal X.K) r f := fun ρ H h k a as xs v k' Q S n rc ras e G => by
  refine hf ρ H h k a as xs v k' Q S rc ras e fun o z ho rv => ?_
  refine G z _ (fun b u hb q => (upd_ne hb).trans q) ?_ (ho ρ _ (fun _ _ q => sqT_upd rc.noTup q) (fun _ _ z => z) upd_same) (RV.gen (fun _ _ q => sqT_upd rc.noTup q) (fun _ _ z => z) rv)
  exact ⟨S.len, S.nd, fun m c b e1 e2 => (S.cell m c b e1 e2).gen (fun _ _ q => sqT_upd rc.noTup q) (fun _ _ z => z) (upd_ne fun z => n (z ▸ List.mem_of_getElem? e2))⟩
def fCell (f : Cell → List Opd → MH → Option (Val × Cell)) (o : Opd) (as : List Opd) (h : MH) : Res Val := match o with
  | .val (.ref n) => (match h[n]? with
    | some c => (f c as h).map fun p => (p.1, h.set n p.2)
    | none => none)
  | _ => none
theorem CM.mt (hf : CM X r f) : MtG X (RVal X.K) r (fCell f) := fun ρ H h a as x xs v h' Q S ra ras e G => by
  unfold fCell at e
  split at e
  · rename_i n
    split at e
    · rename_i c ec
      obtain ⟨p, e1, e2⟩ := Option.map_eq_some_iff.mp e
      cases e2
      have ra : RV X.K ρ H (.ref n) x := ra
      cases ra with
      | ref en =>
        have rc := S.cell n c _ ec en
        refine hf ρ H h c _ as xs p.1 p.2 Q S rc ras e1 fun o z ho rv => ?_
        obtain ⟨s2, x2⟩ := S.write (o := o) en (ho ρ _ (fun _ _ q => sqT_upd rc.noTup q) (fun _ _ z => z) upd_same)
        exact G z _ x2 s2 (RV.gen (fun _ _ q => sqT_upd rc.noTup q) (fun _ _ z => z) rv)
    · cases e
  · cases e
def mAppend (c : Cell) (as : List Opd) (h : MH) : Option (Val × Cell) := match c, as with
  | .lst vs, [.val v] => if vs.length < 100000 then some (.non, .lst (vs ++ [v])) else none
  | _, _ => none
theorem cm_append : CM X rAppend mAppend := fun ρ H h c a as xs v c' Q S rc ras e G => by
  unfold mAppend at e
  split at e
  · split at e
    · rename_i hz
      cases e
      obtain ⟨ys, q, r⟩ := rc
      obtain ⟨x, rfl, rx⟩ := ros_one ras
      exact ⟨a, ys, x, rfl, rfl, q, by rw [← r.length, sizeLine_eq]; omega, G _ _ (fun ρ1 H1 ht up e => ⟨_, e, (r.append (.cons rx .nil)).gen ht up⟩) .non⟩
    · cases e
  · cases e
def rExtT (K : PySem.W.Frag) : V → List V → Hp → VK → Prop := fun x vs H Q => ∃ l b xs zs, x = .ref l ∧ vs = [.ref b] ∧ H l = some (.lst xs) ∧ H b = some (.tup zs) ∧ xs.length + zs.length ≤ sizeLine ∧ Q .non (upd H l (.lst (xs ++ zs)))
theorem mt_extT : MtM X "list.extend" (rExtT X.K) := by
  intro pins s σ H x vs v us Q I rx rv h
  obtain ⟨l, b, xs, zs, rfl, rfl, hH, hB, hz, q⟩ := h
  cases rx
  obtain ⟨u, rfl, ru⟩ := rv.one
  cases ru
  obtain ⟨z, its, n, r, hl, e⟩ := I.lstM hH
  obtain ⟨z2, its2, r2, ⟨ocls, odict, odata, oslots⟩, e2, hc, n2, hd⟩ := (show ObjOk X.prog X.w H s.heap b (.tup zs) from I.hok b _ hB)
  simp only at hc hd
  subst hc hd
  have hl2 := r2.length
  have hsz : its.toArray.size + its2.toArray.size ≤ sizeLine := by rw [List.size_toArray, List.size_toArray]; omega
  have hlong : ¬ (!its.toArray.isEmpty && Builtin.List.listTooLong (its.toArray.size + its2.toArray.size)) = true := by
    rw [notLongL hsz, Bool.and_false]
    exact Bool.false_ne_true
  refine call_meets F.slot_list_extend ⟨_, e, rfl⟩ F.entry_list_extend (F.args_list_extend_2 _ _)
    (extend_tup l its.toArray n b its2.toArray n2 _ _ hlong (by rw [List.size_toArray]; omega) (by omega)) ⟨e, e2, ?_⟩
  refine ⟨.non, _, I.lset (its' := its ++ its2) hH e (by simp) (r.append r2) ?_, rfl, q⟩
  rw [List.length_append]
  omega
abbrev rExtM (K : PySem.W.Frag) : V → List V → Hp → VK → Prop := fun x vs H Q => rExtend x vs H Q ∨ rExtT K x vs H Q
theorem mt_ext : MtR X "list.extend" (rExtM X.K) := MtR.or mt_extend mt_extT
def mExtend (c : Cell) (as : List Opd) (h : MH) : Option (Val × Cell) := match c, as with
  | .lst vs, [.val (.tup us)] => if vs.length + us.length ≤ 100000 then some (.non, .lst (vs ++ us)) else none
  | .lst vs, [o] => (match lstOf o h with
    | some us => if vs.length + us.length ≤ 100000 then some (.non, .lst (vs ++ us)) else none
    | none => none)
  | _, _ => none
theorem cm_extend : CM X (rExtM X.K) mExtend := fun ρ H h c a as xs v c' Q S rc ras e G => by
  unfold mExtend at e
  split at e
  · split at e
    · rename_i hz
      cases e
      obtain ⟨ys, q, r⟩ := rc
      obtain ⟨x, rfl, rx⟩ := ros_one ras
      obtain ⟨b, zs, rfl, q2, r2⟩ := rv_tup rx
      exact .inr ⟨a, b, ys, zs, rfl, rfl, q, q2, line5 (by rw [← r.length, ← r2.length]; exact hz), G _ _ (fun ρ1 H1 ht up e => ⟨_, e, (r.append r2).gen ht up⟩) .non⟩
    · cases e
  · split at e
    · rename_i us e1
      split at e
      · rename_i hz
        cases e
        obtain ⟨ys, q, r⟩ := rc
        obtain ⟨x, rfl, rx⟩ := ros_one ras
        obtain ⟨b, zs, rfl, q2, r2⟩ := lstOf_ok S rx e1
        exact .inl ⟨a, b, ys, zs, rfl, rfl, q, q2, line5 (by rw [← r.length, ← r2.length]; exact hz), G _ _ (fun ρ1 H1 ht up e => ⟨_, e, (r.append r2).gen ht up⟩) .non⟩
      · cases e
    · cases e
  · cases e
def mPop (c : Cell) (as : List Opd) (h : MH) : Option (Val × Cell) := match c, as with
  | .lst vs, [] => (vs[vs.length - 1]?).map fun v => (v, .lst vs.dropLast)
  | _, _ => none
theorem cm_pop : CM X rPop mPop := fun ρ H h c a as xs v c' Q S rc ras e G => by
  unfold mPop at e
  split at e
  · obtain ⟨u, e1, e2⟩ := Option.map_eq_some_iff.mp e
    cases e2
    obtain ⟨ys, q, r⟩ := rc
    have := ros_nil ras
    subst this
    obtain ⟨x, e3, rx⟩ := r.getV e1
    exact ⟨a, ys, x, rfl, rfl, q, by rw [← r.length]; exact e3, G _ _ (fun ρ1 H1 ht up e => ⟨_, e, r.dropLast.gen ht up⟩) rx⟩
  · cases e
def mPopAt (c : Cell) (as : List Opd) (h : MH) : Option (Val × Cell) := match c, as with
  | .lst vs, [.val (.int i)] => if vs.length ≤ 100000 then (match ixN vs.length i with
    | some k => (vs[k]?).map fun v => (v, .lst (vs.eraseIdx k))
    | none => none) else none
  | _, _ => none
theorem cm_popAt : CM X rPopAt mPopAt := fun ρ H h c a as xs v c' Q S rc ras e G => by
  unfold mPopAt at e
  split at e
  · rename_i vs i
    split at e
    · rename_i hz
      split at e
      · rename_i k ek
        obtain ⟨u, e1, e2⟩ := Option.map_eq_some_iff.mp e
        cases e2
        obtain ⟨ys, q, r⟩ := rc
        obtain ⟨x, rfl, rx⟩ := ros_one ras
        rw [rv_int rx]
        obtain ⟨h1, h2, h3, h4⟩ := ixN_seq ek
        obtain ⟨x, e3, rx⟩ := r.getV e1
        exact ⟨a, ys, i, k, x, rfl, rfl, q, by omega, by omega, by rw [← r.length]; exact h1, e3, G _ _ (fun ρ1 H1 ht up e => ⟨_, e, (r.eraseIdx k).gen ht up⟩) rx⟩
      · cases e
    · cases e
  · cases e
abbrev rSortM : V → List V → Hp → VK → Prop := fun x vs H Q => rSortI x vs H Q ∨ rSortPO x vs H Q
theorem mt_sortM : MtR X "list.sort" rSortM := mt_sortI.or mt_sortPO
def mSort (c : Cell) (as : List Opd) (h : MH) : Option (Val × Cell) := match c, as with
  | .lst vs, [] => (match vs.mapM intOf with
    | some is => some (.non, .lst ((sortI is).map Val.int))
    | none => (vs.mapM prOf).map fun ps => (.non, .lst ((sortP ps).map prV)))
  | _, _ => none
theorem cm_sort : CM X rSortM mSort := fun ρ H h c a as xs v c' Q S rc ras e G => by
  unfold mSort at e
  split at e
  · obtain ⟨ys, q, r⟩ := rc
    have := ros_nil ras
    subst this
    split at e
    · rename_i is e1
      cases e
      rw [mapM_ints e1] at r
      rw [r.ints] at q
      refine .inl ⟨a, is, rfl, rfl, q, fun ns' h1 h2 => ?_⟩
      rw [sortI_uniq h1 h2]
      exact G _ _ (fun ρ1 H1 ht up e => ⟨_, e, RVs.of_ints _⟩) .non
    · obtain ⟨ps, e1, e2⟩ := Option.map_eq_some_iff.mp e
      cases e2
      rw [mapM_prs e1] at r
      exact .inr ⟨a, ys, prAt H, rfl, rfl, q, (prs_back r).2, fun zs h1 h2 => G _ _ (fun ρ1 H1 ht up e => ⟨_, e, (prs_sorted r h1 h2).gen ht up⟩) .non⟩
  · cases e
abbrev rInsM : V → List V → Hp → VK → Prop := fun x vs H Q => ∃ (l : Addr) (xs : List V) (i : Int) (y : V), x = .ref l ∧ vs = [.int i, y] ∧ H l = some (.lst xs) ∧ xs.length < sizeLine ∧ 0 ≤ i ∧ i < 2 ^ 63 ∧
    Q .non (upd H l (.lst (xs.take i.toNat ++ [y] ++ xs.drop i.toNat)))
theorem mt_insM : MtR X "list.insert" rInsM := mt_insert
def mInsert (c : Cell) (as : List Opd) (h : MH) : Option (Val × Cell) := match c, as with
  | .lst vs, [.val (.int i), .val v] => if vs.length < 100000 ∧ 0 ≤ i ∧ i < 2 ^ 63 then some (.non, .lst (vs.take i.toNat ++ [v] ++ vs.drop i.toNat)) else none
  | _, _ => none
theorem cm_insert : CM X rInsM mInsert := fun ρ H h c a as xs v c' Q S rc ras e G => by
  unfold mInsert at e
  split at e
  · rename_i vs i v'
    split at e
    · rename_i hz
      cases e
      obtain ⟨ys, q, r⟩ := rc
      obtain ⟨x, y, rfl, rx, ry⟩ := ros_two ras
      rw [rv_int rx]
      exact ⟨a, ys, i, y, rfl, rfl, q, by rw [← r.length, sizeLine_eq]; omega, hz.2.1, hz.2.2, G _ _ (fun ρ1 H1 ht up e => ⟨_, e, (((r.take _).append (.cons ry .nil)).append (r.drop _)).gen ht up⟩) .non⟩
    · cases e
  · cases e
end
section
variable {X : Cx} {c : Ctx} {W : WX} {a b : Expr} {p p2 pos pos2 : Pos}
theorem rngV_rv {K : PySem.W.Frag} {ρ : List Addr} {H : Hp} (lo : Int) : ∀ n : Nat, RVs K ρ H (rngV lo n) ((List.range n).map fun i => V.int (lo + (i : Nat)))
  | 0 => .nil
  | n + 1 => by
    unfold rngV
    rw [List.range_succ, List.map_append, List.map_append]
    exact RVs.append (rngV_rv lo n) (.cons (.int _) .nil)
def rgB (a b : Int) : Bool := decide (-1000000 ≤ a ∧ a ≤ 1000000 ∧ -1000000 ≤ b ∧ b ≤ 1000000)
theorem rgB_ok {a b : Int} (h : rgB a b = true) : RgOk a b := by
  have h := of_decide_eq_true h
  exact ⟨by omega, by omega, by omega, by omega, by omega⟩
def xLR1 (m : EM Val) : EM Cell := fun env h => (m env h).bind fun v h1 => match v with
  | .int n => if rgB 0 n = true then .ok (.lst (rngV 0 n.toNat)) h1 else .stuck
  | _ => .stuck
def xLR2 (m m2 : EM Val) : EM Cell := fun env h => (m env h).bind fun v h1 => (m2 env h1).bind fun u h2 => match v, u with
  | .int n, .int k => if rgB n k = true then .ok (.lst (rngV n (k - n).toNat)) h2 else .stuck
  | _, _ => .stuck
theorem n_lr1 {m : EM Val} (hml : X.mg "list" = none) (hm : X.mg "range" = none) (ha : E X c W a m) (hc : X.calm = true := by rfl) (hgl : Gl X "list" := by rfl) (hg : Gl X "range" := by rfl) (na : starEach [a] X.env = (false, eval a X.env) :: starEach [] X.env := by rfl)
    (nb : starEach [.Call (.Name "range" p) [a] [] pos] X.env = (false, eval (.Call (.Name "range" p) [a] [] pos) X.env) :: starEach [] X.env := by rfl) : EC X c W (.Call (.Name "list" p2) [.Call (.Name "range" p) [a] [] pos] [] pos2) (xLR1 m) :=
  PE.imp (pe_listRg hc hgl hml (prg_1 hg hm ha na) nb) fun σ H Q ⟨ρ, env, h, S, F⟩ => ⟨ρ, env, h, S, by
    refine (Fin.bind (R := RVal X.K) mon_new F).mono fun x H1 ⟨v, h1, ρ1, e1, s1, r1, F1⟩ => ?_
    have r1 : RV X.K ρ1 H1 v x := r1
    cases r1 with
    | int n =>
      have F1 : Fin X.K W σ (RNew X.K) ρ1 H1 Q (if rgB 0 n = true then .ok (.lst (rngV 0 n.toNat)) h1 else .stuck) := F1
      split at F1
      · rename_i hb
        refine ⟨n, rfl, rgB_ok hb, fun q hq => good_lst s1 ?_ (fun z H' e s r => F1 ρ1 z H' e s r) hq⟩
        unfold rgV
        rw [Int.sub_zero]
        exact rngV_rv 0 _
      · exact F1.elim
    | _ => exact F1.elim⟩
theorem n_lr2 {m m2 : EM Val} (hml : X.mg "list" = none) (hm : X.mg "range" = none) (ha : E X c W a m) (hb : E X c W b m2) (hc : X.calm = true := by rfl) (hgl : Gl X "list" := by rfl) (hg : Gl X "range" := by rfl) (na : starEach [a, b] X.env = (false, eval a X.env) :: starEach [b] X.env := by rfl)
    (na2 : starEach [b] X.env = (false, eval b X.env) :: starEach [] X.env := by rfl) (hp : (backTo pos (starEach [b] X.env)).any (·.1) = false := by rfl)
    (nb : starEach [.Call (.Name "range" p) [a, b] [] pos] X.env = (false, eval (.Call (.Name "range" p) [a, b] [] pos) X.env) :: starEach [] X.env := by rfl) : EC X c W (.Call (.Name "list" p2) [.Call (.Name "range" p) [a, b] [] pos] [] pos2) (xLR2 m m2) :=
  PE.imp (pe_listRg hc hgl hml (prg_2 hg hm ha hb na na2 hp) nb) fun σ H Q ⟨ρ, env, h, S, F⟩ => ⟨ρ, env, h, S, by
    refine (Fin.bind (R := RVal X.K) mon_new F).mono fun x H1 ⟨v, h1, ρ1, e1, s1, r1, F1⟩ => ?_
    refine ⟨ρ1, env, h1, S.step e1 s1, ?_⟩
    refine (Fin.bind (R := RVal X.K) mon_new F1).mono fun y H2 ⟨u, h2, ρ2, e2, s2, r2, F2⟩ => ?_
    have r1 : RV X.K ρ1 H1 v x := r1
    have r2 : RV X.K ρ2 H2 u y := r2
    cases r1 with
    | int n =>
      cases r2 with
      | int k =>
        have F2 : Fin X.K W σ (RNew X.K) ρ2 H2 Q (if rgB n k = true then .ok (.lst (rngV n (k - n).toNat)) h2 else .stuck) := F2
        split at F2
        · rename_i hb
          refine ⟨n, k, rfl, rfl, rgB_ok hb, fun q hq => good_lst s2 ?_ (fun z H' e s r => F2 ρ2 z H' e s r) hq⟩
          unfold rgV
          exact rngV_rv n _
        · exact F2.elim
      | _ => exact F2.elim
    | _ => exact F2.elim⟩
def xTR1 (m : EM Val) : EM Val := fun env h => (m env h).bind fun v h1 => match v with
  | .int n => if rgB 0 n = true then .ok (.tup (rngV 0 n.toNat)) h1 else .stuck
  | _ => .stuck
theorem e_tr1 {m : EM Val} (hml : X.mg "tuple" = none) (hm : X.mg "range" = none) (ha : E X c W a m) (hc : X.calm = true := by rfl) (hgl : Gl X "tuple" := by rfl) (hg : Gl X "range" := by rfl) (na : starEach [a] X.env = (false, eval a X.env) :: starEach [] X.env := by rfl)
    (nb : starEach [.Call (.Name "range" p) [a] [] pos] X.env = (false, eval (.Call (.Name "range" p) [a] [] pos) X.env) :: starEach [] X.env := by rfl) : E X c W (.Call (.Name "tuple" p2) [.Call (.Name "range" p) [a] [] pos] [] pos2) (xTR1 m) :=
  PE.imp (pe_tupRg hc hgl hml (prg_1 hg hm ha na) nb) fun σ H Q ⟨ρ, env, h, S, F⟩ => ⟨ρ, env, h, S, by
    refine (Fin.bind (R := RVal X.K) mon_val F).mono fun x H1 ⟨v, h1, ρ1, e1, s1, r1, F1⟩ => ?_
    have r1 : RV X.K ρ1 H1 v x := r1
    cases r1 with
    | int n =>
      have F1 : Fin X.K W σ (RVal X.K) ρ1 H1 Q (if rgB 0 n = true then .ok (.tup (rngV 0 n.toNat)) h1 else .stuck) := F1
      split at F1
      · rename_i hb
        refine ⟨n, rfl, rgB_ok hb, fun q hq => good_tup s1 ?_ (fun z H' e s r => F1 ρ1 z H' e s r) hq⟩
        unfold rgV
        rw [Int.sub_zero]
        exact rngV_rv 0 _
      · exact F1.elim
    | _ => exact F1.elim⟩
end
end Mi

set_option Elab.async false
set_option linter.all false
set_option maxRecDepth 100000
set_option maxHeartbeats 2000000
set_option autoImplicit false
namespace Mi
open PySem PySem.Spec PyProof.Rows L2

theorem law_sp {K : PySem.W.Frag} {F : FM} {m : Nat} (hF : ∀ is : List Int, is.length ≤ m → (∃ h', F [.ref 0] [.frz (is.map .int)] = .ok (.bl true) h') ∧ ∃ h', F [.kls is] [] = .ok (.bl true) h') (H : Hp) (a : Addr) (ns : List Int) (hl : ns.length ≤ m) (hO : Only H) (hS : SqL K H a (ns.map V.int)) :
    spF K F [.ref a] H (fun v _ => v = .bl true) fun _ _ _ => False := by
  obtain ⟨⟨h1, e1⟩, ⟨h2, e2⟩⟩ := hF ns hl
  rcases hS with hS | hS
  · have q : ∃ o, H a = some (.frz o (.lst (ns.map V.int))) := by
      rcases hS with q | q
      · rcases hO a with z | ⟨o, xs, z⟩ <;> (rw [z] at q; cases q)
      · exact q
    obtain ⟨o, q⟩ := q
    refine ⟨[a], [.ref 0], [.frz (ns.map .int)], ⟨rfl, by simp, fun n c b e3 e4 => ?_⟩, .cons (.ref rfl) .nil, ?_⟩
    · cases n with
      | zero =>
        cases e3; cases e4
        exact ⟨o, _, q, RVs.of_ints _⟩
      | succ n => cases e3
    · rw [e1]
      intro ρ' x H' _ _ r
      cases r; rfl
  · refine ⟨[], [.kls ns], [], ⟨rfl, by simp, fun n c b e3 e4 => by cases e3⟩, .cons (.kls hS) .nil, ?_⟩
    rw [e2]
    intro ρ' x H' _ _ r
    cases r; rfl

def foldG (g : Tgt) (mb : SM) : List Val → SM
  | [] => fun env h => .next env h
  | v :: vs => fun env h => match g v env with
    | none => .stuck
    | some env1 => match mb env1 h with
      | .next env2 h2 => foldG g mb vs env2 h2
      | .cont env2 h2 => foldG g mb vs env2 h2
      | .brk env2 h2 => .next env2 h2
      | o => o
theorem loopG_items (vs : List Val) (g : Tgt) (mb : SM) : ∀ (f i : Nat) (env : ME) (h : MH), i ≤ vs.length → vs.length < f + i → loopG (.items vs) g mb f i env h = foldG g mb (vs.drop i) env h := by
  intro f
  induction f with
  | zero => intro i env h h1 h2; omega
  | succ f ih =>
    intro i env h h1 h2
    unfold loopG
    by_cases hi : i < vs.length
    · have e : (Src.items vs).at i h = some (some vs[i]) := by
        show some vs[i]? = _
        rw [List.getElem?_eq_getElem hi]
      rw [e, List.drop_eq_getElem_cons hi]
      simp only [foldG]
      cases g vs[i] env with
      | none => rfl
      | some env1 =>
        simp only
        cases mb env1 h with
        | next env2 h3 => exact ih (i + 1) env2 h3 (by omega) (by omega)
        | cont env2 h3 => exact ih (i + 1) env2 h3 (by omega) (by omega)
        | _ => rfl
    · have e : (Src.items vs).at i h = some none := by
        show some vs[i]? = _
        rw [List.getElem?_eq_none (by omega)]
      rw [e, List.drop_eq_nil_of_le (by omega)]
      rfl
@[simp] theorem loopG_items0 (vs : List Val) (g : Tgt) (mb : SM) (env : ME) (h : MH) : loopG (.items vs) g mb ((Src.items vs).size h + 1) 0 env h = foldG g mb vs env h := by
  rw [loopG_items vs g mb _ 0 env h (by omega) (by show vs.length < vs.length + 1 + 0; omega), List.drop_zero]
theorem loopG_live {n : Nat} {vs : List Val} (g : Tgt) (mb : SM) (P : MH → Prop) (hP : ∀ h, P h → h[n]? = some (.lst vs) ∨ h[n]? = some (.frz vs)) (hm : ∀ v env env1 h, P h → g v env = some env1 → match mb env1 h with | .next _ h2 => P h2 | .cont _ h2 => P h2 | _ => True) :
    ∀ (f i : Nat) (env : ME) (h : MH), P h → i ≤ vs.length → vs.length < f + i → loopG (.live n) g mb f i env h = foldG g mb (vs.drop i) env h := by
  intro f
  induction f with
  | zero => intro i env h _ h1 h2; omega
  | succ f ih =>
    intro i env h hp h1 h2
    unfold loopG
    have ea : (Src.live n).at i h = some vs[i]? := by
      unfold Src.at
      rcases hP h hp with e | e <;> simp only [e]
    rw [ea]
    by_cases hi : i < vs.length
    · rw [List.getElem?_eq_getElem hi, List.drop_eq_getElem_cons hi]
      simp only [foldG]
      cases eg : g vs[i] env with
      | none => rfl
      | some env1 =>
        simp only
        have hm := hm _ _ _ h hp eg
        cases em : mb env1 h with
        | next env2 h3 => rw [em] at hm; exact ih (i + 1) env2 h3 hm (by omega) (by omega)
        | cont env2 h3 => rw [em] at hm; exact ih (i + 1) env2 h3 hm (by omega) (by omega)
        | _ => rfl
    · rw [List.getElem?_eq_none (by omega), List.drop_eq_nil_of_le (by omega)]
      rfl
theorem size_live {n : Nat} {vs : List Val} {h : MH} (e : h[n]? = some (.lst vs) ∨ h[n]? = some (.frz vs)) : (Src.live n).size h = vs.length := by
  unfold Src.size
  rcases e with e | e <;> simp only [e]
theorem loopG_still {n : Nat} {vs : List Val} {h : MH} (e : h[n]? = some (.lst vs) ∨ h[n]? = some (.frz vs)) (g : Tgt) (mb : SM) (hm : ∀ v env env1, g v env = some env1 → match mb env1 h with | .next _ h2 => h2 = h | .cont _ h2 => h2 = h | _ => True) (env : ME) :
    loopG (.live n) g mb ((Src.live n).size h + 1) 0 env h = foldG g mb vs env h := by
  rw [size_live e, loopG_live g mb (fun h' => h' = h) (fun h' e' => by subst e'; exact e) (fun v env env1 h' e' eg => by subst e'; exact hm v env env1 eg) _ 0 env h rfl (Nat.zero_le _) (by omega), List.drop_zero]
def foldC (tg : Tgt) (tt : EM Bool) (te : EM Val) (env0 : ME) : List Val → List Val → MH → Out (List Val)
  | [], acc, h => .ok acc h
  | v :: vs, acc, h => match tg v env0 with
    | none => .stuck
    | some env1 => (tt env1 h).bindN fun k h1 => if k = true then (te env1 h1).bindN fun u h2 => if acc.length < 100000 then foldC tg tt te env0 vs (acc ++ [u]) h2 else .stuck else foldC tg tt te env0 vs acc h1
theorem loopC_items (vs : List Val) (tg : Tgt) (tt : EM Bool) (te : EM Val) (env0 : ME) : ∀ (f i : Nat) (acc : List Val) (h : MH), i ≤ vs.length → vs.length < f + i → loopC (.items vs) tg tt te env0 f i acc h = foldC tg tt te env0 (vs.drop i) acc h := by
  intro f
  induction f with
  | zero => intro i acc h h1 h2; omega
  | succ f ih =>
    intro i acc h h1 h2
    unfold loopC
    by_cases hi : i < vs.length
    · have e : (Src.items vs).at i h = some (some vs[i]) := by
        show some vs[i]? = _
        rw [List.getElem?_eq_getElem hi]
      rw [e, List.drop_eq_getElem_cons hi]
      simp only [foldC]
      cases tg vs[i] env0 with
      | none => rfl
      | some env1 =>
        simp only
        cases tt env1 h with
        | ok k h1 =>
          simp only [Out.bindN_ok]
          split
          · cases te env1 h1 with
            | ok u h2 =>
              simp only [Out.bindN_ok]
              split
              · exact ih (i + 1) _ h2 (by omega) (by omega)
              · rfl
            | _ => rfl
          · exact ih (i + 1) acc h1 (by omega) (by omega)
        | _ => rfl
    · have e : (Src.items vs).at i h = some none := by
        show some vs[i]? = _
        rw [List.getElem?_eq_none (by omega)]
      rw [e, List.drop_eq_nil_of_le (by omega)]
      rfl
@[simp] theorem loopC_items0 (vs : List Val) (tg : Tgt) (tt : EM Bool) (te : EM Val) (env0 : ME) (h : MH) : loopC (.items vs) tg tt te env0 ((Src.items vs).size h + 1) 0 [] h = foldC tg tt te env0 vs [] h := by
  rw [loopC_items vs tg tt te env0 _ 0 [] h (by omega) (by show vs.length < vs.length + 1 + 0; omega), List.drop_zero]
theorem cx_no {P : Program} {w : World} {H : Hp} {s : Shared} {e : Value} {s' : Shared} (h : L2.CX P w [] H s (fun _ _ _ => False) e s') : False := by
  obtain ⟨_, _, _, _, _, _, _, _, _, _, _, _, z⟩ := h
  exact z
theorem walk_ofW {l : PySem.W.OpenLaw} {n k : Nat} {q : Program} {loose : List Str} {XP : (Str → Option Value) → Heap → Prop} {YP : World → Heap → Prop} {d : DefRec} {x : Str} {G : FM}
    (hn : l.most = some n) (hn2 : n ≤ sizeLine) (hdf : d.params.defaults = []) (hr : Room k callerA)
    (F : ∀ (w : World) (mg : Str → Option Value) (fa : Addr) (h : Heap), YP w h → h.Ns mainGlobals mg → mg d.name = some (.ref fa) →
      ∃ (K : PySem.W.Frag) (fd : FuncData), K.In h ∧ (∀ (s : Shared) (u : Value), BindsTo s fd ⟨[u], []⟩ [(x, u)]) ∧
        ∀ base : Heap, K.In base → base.Ns mainGlobals mg → FnOk l.prog w K mg base (L2.CX l.prog w) k fa fd [x] (spF K G))
    (hF : ∀ is : List Int, is.length ≤ n → (∃ h', G [.ref 0] [.frz (is.map .int)] = .ok (.bl true) h') ∧ ∃ h', G [.kls is] [] = .ok (.bl true) h') :
    PySem.W.WalkO q loose XP YP l.row.toRowW d [] (fun f vs => PySem.call f vs) := by
  refine Att.attach_call hn hdf fun w s₀ s₁ mg mb fa o pm cd doc a vs ns G Y ho hd hcd hmg hobj hints hlen hg => ?_
  obtain ⟨K, fd, KX, hb, hF2⟩ := F w mg fa _ Y G.T.g hmg
  exact law_call KX G.T.g G.T.b G.T.builtins G.T.nolimit hg hobj hints (Nat.le_trans hlen hn2) hr hF2 hb (fun H hO hS => law_sp hF H a ns hlen hO hS) fun H e s' => cx_no
end Mi

set_option Elab.async false
set_option linter.all false
set_option maxRecDepth 100000
set_option maxHeartbeats 2000000
set_option autoImplicit false
namespace Mi
open PySem PySem.Spec PyProof.Rows L2
section
variable {X : Cx} {c : Ctx} {W : WX} {K : PySem.W.Frag} {ρ : List Addr} {H : Hp}
theorem get_list : PGet X (rIxL X.K) := by
  intro pins s σ H x y v u Q I rx ry h
  obtain ⟨p, xs, i, z, rfl, rfl, hq, he, q⟩ := h
  cases rx
  obtain ⟨t, rfl⟩ := ry
  obtain ⟨its, r, pl, hz⟩ := I.list hq
  obtain ⟨j, h1, h2, h3, h4, h5⟩ := atI_get he
  obtain ⟨w, ew, rw'⟩ := r.get h2
  have hl := r.length
  have hn := line63
  have fin : EP X pins σ Q w s := ⟨z, H, I, rw', q⟩
  by_cases h0 : 0 ≤ i
  · have hj : i.toNat = j := by
      rw [seqIndex_of h0 h5] at h1
      exact Option.some.inj h1
    exact wpAny_getItem_list pl.isList h0 (by omega) (by rw [hj]; simpa using ew) fin
  · have hj : (i + (its.toArray.size : Int)).toNat = j := by
      rw [seqIndex_neg (by omega) h4] at h1
      rw [List.size_toArray, ← hl]
      exact Option.some.inj h1
    exact wpAny_getItem_list_neg pl.isList (by omega) (by rw [List.size_toArray] <;> omega) (by omega) (by rw [hj]; simpa using ew) fin
def listGet (o i : Val) (h : MH) : Option Val := match o, i with
  | .ref n, .int k => (match h[n]? with
    | some (.lst vs) => atI vs k
    | _ => none)
  | _, _ => none
theorem g_listGet : GetG X (rIxL X.K) listGet := fun ρ H h a b v x y Q S ra rb e k => by
  unfold listGet at e
  split at e
  · rename_i n i
    cases rb
    cases ra with
    | @ref n a en =>
      split at e
      · rename_i vs eh
        obtain ⟨xs, q, r⟩ := S.cell n _ a eh en
        obtain ⟨z, ez, rz⟩ := RVs.atI r e
        exact ⟨_, xs, i, z, rfl, rfl, SqL.of q, ez, k z rz⟩
      · cases e
  · cases e
def ownGet (k : Cell) (i : Val) : Option Val := match k, i with
  | .lst vs, .int j => atI vs j
  | _, _ => none
theorem g_ownGet : OwnGetG X (rIxL X.K) ownGet := fun ρ H h k a b v y Q S rc rb e q => by
  unfold ownGet at e
  split at e
  · rename_i vs j
    cases rb
    obtain ⟨xs, hx, r⟩ := rc
    obtain ⟨z, ez, rz⟩ := RVs.atI r e
    exact ⟨_, xs, j, z, rfl, rfl, SqL.of hx, ez, q z rz⟩
  · cases e
def fAddI := fI (fun _ _ => true) fun i j => .int (i + j)
theorem g_addI : OpG X (RVal X.K) (rI0 fun i j => .int (i + j)) fAddI := fI_ok (fun _ _ _ _ => .int _) fun i j H Q _ q => ⟨i, j, rfl, rfl, q⟩
theorem src_liveE {n : Nat} {a : Addr} (e : ρ[n]? = some a) : RSrc K [] ρ H (.liveE n) (Ite K a) where
  go := fun ρ' H' h' i v x _ S e2 => by
    have ea := pre_get x.pre e
    unfold Src.at at e2
    simp only at e2
    split at e2
    · rename_i vs eh
      obtain ⟨xs, q, r⟩ := S.cell n _ a eh ea
      obtain ⟨w, ew, e3⟩ := Option.map_eq_some_iff.mp (Option.some.inj e2)
      obtain ⟨y, ey, ry⟩ := r.getV ew
      refine ⟨⟨xs, y, SqL.of q, ey⟩, fun z H2 ⟨T, y', e4, hT, e5, hz⟩ => ?_⟩
      subst e4; subst e5; subst e3
      have := (hz xs (SqL.of q)).symm.trans ey
      cases this
      exact ⟨.new1 hT, S.new1 hT, .tup upd_same (RVs.new1 hT (.cons (.int _) (.cons ry .nil)))⟩
    · rename_i vs eh
      obtain ⟨o, xs, q, r⟩ := S.cell n _ a eh ea
      obtain ⟨w, ew, e3⟩ := Option.map_eq_some_iff.mp (Option.some.inj e2)
      obtain ⟨y, ey, ry⟩ := r.getV ew
      refine ⟨⟨xs, y, .inl (.inr ⟨o, q⟩), ey⟩, fun z H2 ⟨T, y', e4, hT, e5, hz⟩ => ?_⟩
      subst e4; subst e5; subst e3
      have := (hz xs (.inl (.inr ⟨o, q⟩))).symm.trans ey
      cases this
      exact ⟨.new1 hT, S.new1 hT, .tup upd_same (RVs.new1 hT (.cons (.int _) (.cons ry .nil)))⟩
    · cases e2
  stop := fun ρ' H' h' i x _ S e2 => by
    have ea := pre_get x.pre e
    unfold Src.at at e2
    simp only at e2
    split at e2
    · rename_i vs eh
      obtain ⟨xs, q, r⟩ := S.cell n _ a eh ea
      exact ⟨xs, SqL.of q, by rw [← r.length]; exact List.getElem?_eq_none_iff.mp (Option.map_eq_none_iff.mp (Option.some.inj e2))⟩
    · rename_i vs eh
      obtain ⟨o, xs, q, r⟩ := S.cell n _ a eh ea
      exact ⟨xs, .inl (.inr ⟨o, q⟩), by rw [← r.length]; exact List.getElem?_eq_none_iff.mp (Option.map_eq_none_iff.mp (Option.some.inj e2))⟩
    · cases e2
  pin0 := fun _ h => nomatch h
def enumI (is : List Int) : List Val := (List.range is.length).map fun i => .tup [.int (i : Nat), .int (is.getD i 0)]
theorem enumI_get (is : List Int) (i : Nat) : (enumI is)[i]? = is[i]?.map fun k => .tup [.int (i : Nat), .int k] := by
  unfold enumI
  rw [List.getElem?_map]
  by_cases h : i < is.length
  · rw [List.getElem?_range h, List.getElem?_eq_getElem h]; simp [List.getD_eq_getElem?_getD, List.getElem?_eq_getElem h]
  · rw [List.getElem?_eq_none (by simpa using h), List.getElem?_eq_none (by omega)]; rfl
theorem src_klsE {a : Addr} {is : List Int} (q : KL K a is) : RSrc K [] ρ H (.items (enumI is)) (Ite K a) where
  go := fun ρ' H' h' i v x _ S e => by
    have e : (enumI is)[i]? = some v := Option.some.inj e
    rw [enumI_get] at e
    obtain ⟨k, ek, rfl⟩ := Option.map_eq_some_iff.mp e
    have s1 := (src_kls (ρ := ρ) (H := H) q).go ρ' H' h' i (.int k) x (fun _ h => nomatch h) S (by show some (is.map Val.int)[i]? = _; rw [List.getElem?_map, ek]; rfl)
    obtain ⟨⟨xs, y, hx, hy⟩, k2⟩ := s1
    refine ⟨⟨xs, y, hx, hy⟩, fun z H2 ⟨T, y', e4, hT, e5, hz⟩ => ?_⟩
    subst e4; subst e5
    have hk := k2 y' H' ⟨rfl, hz⟩
    exact ⟨.new1 hT, S.new1 hT, .tup upd_same (RVs.new1 hT (.cons (.int _) (.cons hk.2.2 .nil)))⟩
  stop := fun ρ' H' h' i x _ S e => by
    have e : (enumI is)[i]? = none := Option.some.inj e
    rw [enumI_get] at e
    have s1 := (src_kls (ρ := ρ) (H := H) q).stop ρ' H' h' i x (fun _ h => nomatch h) S (by show some (is.map Val.int)[i]? = _; rw [List.getElem?_map, Option.map_eq_none_iff.mp e]; rfl)
    exact s1
  pin0 := fun _ h => nomatch h
def enumOf (v : Val) (h : MH) : Option Src := match v with
  | .kls is => some (.items (enumI is))
  | .ref n => match h[n]? with
    | some (.lst _) => some (.liveE n)
    | some (.frz _) => some (.liveE n)
    | _ => none
  | _ => none
theorem enumOf_ok {h : MH} {v : Val} {x : V} {s : Src} (S : RS K ρ H h) (r : RV K ρ H v x) (e : enumOf v h = some s) : ∃ a xs, x = .ref a ∧ SqL K H a xs ∧ RSrc K [] ρ H s (Ite K a) := by
  cases r with
  | @kls is a q =>
    cases Option.some.inj e
    exact ⟨a, _, rfl, .inr q, src_klsE q⟩
  | @ref n a en =>
    unfold enumOf at e
    simp only at e
    split at e
    · rename_i vs eh
      cases e
      obtain ⟨xs, q, r⟩ := S.cell n _ a eh en
      exact ⟨a, xs, rfl, SqL.of q, src_liveE en⟩
    · rename_i vs eh
      cases e
      obtain ⟨ob, xs, q, r⟩ := S.cell n _ a eh en
      exact ⟨a, xs, rfl, .inl (.inr ⟨ob, q⟩), src_liveE en⟩
    · cases e
  | _ => cases e
def xEnum (m : EM (List Opd)) : EM Src := fun env h => (m env h).bind fun as h1 => match as with
  | [.val v] => (match enumOf v h1 with
    | some s => .ok s h1
    | none => .stuck)
  | _ => .stuck
theorem it_enum {a : Expr} {m : EM (List Opd)} {p pos tpos : Pos} {elts : List Expr} {kk : Nat} (hm : X.mg "enumerate" = none) (ha : AO X c W [a] m) (hg : Gl X "enumerate" := by rfl) (hs : starEach [a] X.env = [(false, eval a X.env)] := by rfl) :
    It_ X c W (.Tuple elts kk tpos) (.Call (.Name "enumerate" p) [a] [] pos) (xEnum m) := PI.imp (pi_enum hg hm ha hs) fun σ H R ⟨ρ, env, h, S, F⟩ => by
  refine ⟨ρ, env, h, S, ?_⟩
  refine (Fin.bind (R := RArgs X.K) mon_it F).mono fun xs H1 ⟨as, h1, ρ1, e1, s1, r1, F1⟩ => ?_
  split at F1
  · rename_i v
    split at F1
    · rename_i s es
      have r1 : ROs X.K ρ1 H1 [.val v] xs := r1
      cases r1 with
      | cons r2 r3 =>
      cases r3
      have r2 : RV X.K ρ1 H1 v _ := r2
      obtain ⟨a, ys, rfl, q, hs⟩ := enumOf_ok s1 r2 es
      exact ⟨a, ys, rfl, q, F1 ρ1 _ H1 .refl s1 ⟨[], hs, fun _ h => nomatch h⟩⟩
    · exact F1.elim
  · exact F1.elim
end
theorem lookup_re {env : Env} : ∀ {names : List (Str × NameKind)} {x : Str}, (names.lookup x = some .cell ∨ names.lookup x = some .free) →
    ((names.map fun (n, k) => if (k == NameKind.free && env.scope.kind == .function && env.kindOf n == some .cell) then (n, NameKind.cell) else (n, k)).lookup x = some .cell ∨
    (names.map fun (n, k) => if (k == NameKind.free && env.scope.kind == .function && env.kindOf n == some .cell) then (n, NameKind.cell) else (n, k)).lookup x = some .free)
  | [], x, h => by simp at h
  | (n, k) :: r, x, h => by
    have ih := @lookup_re env r x
    rw [List.map_cons]
    cases hx : x == n with
    | true =>
      simp only [List.lookup_cons, hx] at h
      by_cases hc : (k == NameKind.free && env.scope.kind == .function && env.kindOf n == some .cell) = true
      · simp only [if_pos hc, List.lookup_cons, hx]; exact .inl trivial
      · simp only [if_neg hc, List.lookup_cons, hx]; exact h
    | false =>
      simp only [List.lookup_cons, hx] at h
      by_cases hc : (k == NameKind.free && env.scope.kind == .function && env.kindOf n == some .cell) = true
      · simp only [if_pos hc, List.lookup_cons, hx]; exact ih h
      · simp only [if_neg hc, List.lookup_cons, hx]; exact ih h
theorem blk_re {N : List Str} {sc scope : Scope} {own : List (Str × Nat)} {env : Env} (h : BlkOk N sc scope own) : BlkOk N (relabel sc env) scope own :=
  ⟨h.kind, h.uniq, h.ix, fun y hy e => lookup_re (h.free y hy e), h.own⟩
end Mi

set_option Elab.async false
set_option linter.all false
set_option maxRecDepth 100000
set_option maxHeartbeats 2000000
set_option autoImplicit false
namespace Mi
open PySem PySem.W PySem.Calls PySem.Spec PyProof.Rows PySem.HandSPX L2
def wFirst (K : Frag) (c : Value) (i : Nat) (ts : Addr → Value → Option Addr → TS) (D : Ends) : WX := fun cls d σ H =>
  exmOne K cls c = some true ∧ ∀ a : Addr, H a = none → ts a cls d { nx := fun σ' H' => D.nx (σ'.set i none) H', rt := D.rt, bk := fun σ' H' => D.bk (σ'.set i none) H', ct := fun σ' H' => D.ct (σ'.set i none) H' } (σ.set i (some (.ref a))) H
theorem ps_try_asF {X : Cx} {x n : Str} {c : Value} {i : Nat} {body suite : List Stmt} {b₀ : Stmt} {hds : List ExceptHandler} {np pos pos' : Pos} {tb : WX → TS} {ts : Addr → Value → Option Addr → TS}
    (hs : X.stack = X.env :: X.outer) (hf : X.env.frame = some X.env.locals) (hN : X.N.Nodup) (hi : X.N[i]? = some n) (hln : X.env.kindOf n = some .local) (hc : Names X x c)
    (hb : ∀ (W : WX) (pn : List (Addr × Obj)) (xe : Value → Shared → Prop), Takes (X.tr pn xe) W → PassesOwn (model X.prog X.w) X.A X.env xe → PSs (X.tr pn xe) body (tb W))
    (hsu : ∀ (a : Addr) (oe : Obj) (cls : Value) (d : Option Addr) (pn : List (Addr × Obj)), Zc cls d oe → (∃ vs, oe.data = .fields vs) → PSs (X.suite a ((a, oe) :: pn)) (b₀ :: suite) (ts a cls d)) :
    PS X (.Try body (.ExceptHandler (some (.Name x np)) (some n) (b₀ :: suite) pos' :: hds) [] [] pos) (fun D σ H => tb (wFirst X.K c i ts D) D σ H) := by
  refine ⟨fun pins s σ H D I h => ?_⟩
  have ok := I.ok
  have hfr : X.A.frames = some (X.env :: X.outer) := by rw [ok.frames, hs]
  have hloc : X.env.kindOf n = some .local ∨ X.env.kindOf n = some .cell := Or.inl hln
  refine wpAny_Try_except (wpAny_mono ((hb (wFirst X.K c i ts D) (X.pn ++ pins) (fun e s₁ => wpAny (model X.prog X.w) X.A (noteFrame e X.env) (fun _ s₂ => wpAny (model X.prog X.w) X.A (setFlight e none) (fun _ s₃ => wpAny (model X.prog X.w) X.A (handleBy e X.env (.ExceptHandler (some (.Name x np)) (some n) (b₀ :: suite) pos' :: hds)) (SP X pins D) X.xe s₃) X.xe s₂) X.xe s₁) (fun u s' xx => ?_) PassesOwn.looking).run [] s σ H D (Inv.toTry I _) h) (fun f s1 hsp => ?_) fun e s1 he => he)
  · obtain ⟨a, B, sI, pins', σ', H', cls, d, rfl, J', nb, up, sky, na, os, ag, hb1, hyes⟩ := xx
    have J := Inv.ofTry J' ok
    have sky' : Sky B (X.env :: X.outer) a (Zc cls d) X.env.locals s'.heap := by rw [← hs]; exact sky
    refine Sky.land Zc.steady hfr hf sky' fun h3 fl3 up3 => ?_
    have J3 : L2.Inv X pins σ' H' ⟨h3, s'.gens, s'.drawn, s'.toks, s'.os⟩ := Inv.landed (s' := ⟨h3, s'.gens, s'.drawn, s'.toks, s'.os⟩) J nb fl3.1 (Heap.UpToSlots.trans up up3) os ag
    obtain ⟨oe3, vs3, he3, hz3, hd3⟩ := FlyingZ.there fl3
    have nfr : a ∉ List.filterMap (fun x => x.frame) (X.env :: X.outer) := fun hm => by
      obtain ⟨_, o, e', hnf⟩ := Heap.FunFrames.mem fl3.2.2.1 hm
      rw [he3] at e'
      cases e'
      exact hnf vs3 hd3
    have nL : a ≠ X.env.locals := fun z => nfr (List.mem_filterMap.mpr ⟨X.env, List.mem_cons_self, by rw [hf, z]⟩)
    have nF : a ∉ X.fs := fun hm => by
      obtain ⟨e, he, q⟩ := List.mem_filterMap.mp hm
      exact nfr (List.mem_filterMap.mpr ⟨e, List.mem_cons_of_mem _ he, q⟩)
    have S3 := Inv.suite J3 he3 hd3 na nL nF
    refine wpAny_handleBy_cons (codeAny_handlers_test ?_) (fun q => by unfold byPass at q; cases q)
    have LT : Looks (model X.prog X.w) h3 (typeOf (.ref a)) cls := fun A Q E s k q => wpAny_typeOf_ref (k a oe3 he3) (by rw [hz3.1]; exact q)
    have LM := exm_one (Inv.kIn J3) LT hb1
    have test : ∀ {Q : Value → Shared → Prop} {E : Value → Shared → Prop}, Q c ⟨h3, s'.gens, s'.drawn, s'.toks, s'.os⟩ → wpAny (model X.prog X.w) (X.A.mark (some (.ref a))) (eval (.Name x np) X.env) Q E ⟨h3, s'.gens, s'.drawn, s'.toks, s'.os⟩ := fun {Q E} q => by
      obtain ⟨hg, hdbg, hm | ⟨hm, hv, hnn⟩⟩ := hc
      · exact ld_glob S3 hg hm q hdbg
      · exact ld_blt S3 hg hm hv q hnn hdbg
    refine test (Looks.here LM ?_)
    refine codeAny_handlers_suite_as (lands_againZ fl3 fun h4 fl4 up4 => ?_)
    have J4 : L2.Inv X pins σ' H' ⟨h4, s'.gens, s'.drawn, s'.toks, s'.os⟩ := Inv.landed (s' := ⟨h4, s'.gens, s'.drawn, s'.toks, s'.os⟩) J nb fl4.1 (Heap.UpToSlots.trans (Heap.UpToSlots.trans up up3) up4) os ag
    obtain ⟨oe4, vs4, he4, hz4, hd4⟩ := FlyingZ.there fl4
    have S4 := Inv.suite J4 he4 hd4 na nL nF
    refine store_ok (X := X.suite a ((a, oe4) :: (X.pn ++ pins))) S4 hN hi (Or.inl hln) (v := .ref a) rfl (fun s5 S5 => ?_) (Or.inr hln)
    refine wpAny_mono ((hsu a oe4 cls d (X.pn ++ pins) hz4 ⟨vs4, hd4⟩).run [] s5 _ H' { nx := fun σ' H' => D.nx (List.set σ' i none) H', rt := D.rt, bk := fun σ' H' => D.bk (List.set σ' i none) H', ct := fun σ' H' => D.ct (List.set σ' i none) H' } S5 (hyes a na)) (fun f s6 hsp => ?_) fun x x_1 z => False.elim z
    have end_ : ∀ {σ6 : L2.St} {H6 : Hp} {Q : Unit → Shared → Prop}, L2.Inv (X.suite a ((a, oe4) :: (X.pn ++ pins))) [] σ6 H6 s6 → (∀ s7, L2.Inv X pins (List.set σ6 i none) H6 s7 → Q () s7) → wpAny (model X.prog X.w) X.A (do
        bindName X.env n Value.none
        unbindBehindTheSuite X.env n pos') Q X.xe s6 := fun S6 hq => gone_ok (Inv.unsuite S6 ok) hN hi hln hq
    cases f with
    | next => obtain ⟨σ6, H6, S6, q6⟩ := hsp; exact end_ S6 fun s7 J7 => ⟨_, H6, J7, q6⟩
    | brk => obtain ⟨σ6, H6, S6, q6⟩ := hsp; exact end_ S6 fun s7 J7 => ⟨_, H6, J7, q6⟩
    | cont => obtain ⟨σ6, H6, S6, q6⟩ := hsp; exact end_ S6 fun s7 J7 => ⟨_, H6, J7, q6⟩
    | ret u => obtain ⟨v6, σ6, H6, S6, r6, q6⟩ := hsp; exact end_ S6 fun s7 J7 => ⟨v6, _, H6, J7, r6, q6⟩
  · cases f with
    | next =>
      obtain ⟨σ', H', J', q⟩ := hsp
      exact wpAny_execs_nil ⟨σ', H', Inv.ofTry J' ok, q⟩
    | brk => obtain ⟨σ', H', J', q⟩ := hsp; exact ⟨σ', H', Inv.ofTry J' ok, q⟩
    | cont => obtain ⟨σ', H', J', q⟩ := hsp; exact ⟨σ', H', Inv.ofTry J' ok, q⟩
    | ret u => obtain ⟨v, σ', H', J', r, q⟩ := hsp; exact ⟨v, σ', H', Inv.ofTry J' ok, r, q⟩
end Mi

set_option Elab.async false
set_option linter.all false
set_option maxRecDepth 100000
set_option maxHeartbeats 2000000
set_option autoImplicit false
namespace Mi
open PySem PySem.W PySem.Calls PySem.Spec PyProof.Rows PySem.HandSPX L2
def iA (p1 p2 : Pos) : Arguments := { posonlyargs := [], args := [{ arg := "self", annotation := none, pos := p1 }, { arg := "word", annotation := none, pos := p2 }], vararg := none, kwonlyargs := [], kw_defaults := [], kwarg := none, defaults := [] }
def iB (q1 q2 q3 q4 q5 q6 q7 q8 q9 q10 : Pos) : List Stmt := [.Expr (.Call (.Attribute (.Call (.Name "super" q1) [] [] q2) "__init__" q3) [.Name "word" q4] [] q5) q6, .Assign [.Attribute (.Name "self" q7) "word" q8] (.Name "word" q9) q10]
def iS : Scope := { kind := .function, names := [(PySem.Str.ofString "self", .local), (PySem.Str.ofString "word", .local), (PySem.Str.ofString "__class__", .free), (PySem.Str.ofString "super", .globalImplicit)], isGenerator := false, isCoroutine := false, more := [] }
structure BsTxt (P : Program) (K : Frag) (mg : Str → Option Value) (x q : Str) (C fI : Addr) : Prop where
  gC : mg x = some (.ref C)
  gS : mg "super" = none
  pS : (List.lookup ("super" : Str) P.main.scope.names).isSome = false
  cls : ∃ nm q N bs bm sn sub ab col dd k0 k1 k2 k3 k5, K.lookup C = some (excClassObj nm q C N bs bm true sn sub ab col dd k0 k1 k2 k3 k5 "ValueError.__new__") ∧ refsVE bm = true
  ini : excInitIn K C veTail "ValueError.__new__" = true
  st : nsIn K cStatics "thirdparty.any" = some none
  sup : ks_superIn K C C "__init__" = some (some (.builtin "ValueError.__init__"))
  sV : subIn K (.ref C) (.type "ValueError") = some true
  self : mroIn K C (.ref C) = some true
  sa : findIn K (.ref C) "__setattr__" = some (some (.builtin "object.__setattr__"))
  noN : findIn K (.ref C) "word" = some none
  iC : findIn K (.ref C) "__init__" = some (some (.ref fI))
  tC : typeIn K (.ref fI) = some (.type "function")
  kC : keepIn K (.ref C) = true
  exC : subIn K (.ref C) (.type "BaseException") = some true
  tyC : typeIn K (.ref C) = some (.type "type")
  fn : ∃ (oc : Value) (od : Option Addr) (doc pm : Value) (an : Option Addr) (cda : Addr) (ct : Value) (osl : Array (Option Value)) (p1 p2 q1 q2 q3 q4 q5 q6 q7 q8 q9 q10 : Pos) (cc : Addr) (cl ccl : Value) (cld cdd : Option Addr) (csl ccs : Array (Option Value)) (vs : Array Value) (file : Str) (tf : Tok),
    K.lookup fI = some ⟨oc, od, .func (ksFn "__init__" q (iA p1 p2) (iB q1 q2 q3 q4 q5 q6 q7 q8 q9 q10) iS .none .none doc pm an (.ref cda) ct cc), osl⟩ ∧ codeIn K (.ref cda) q = true ∧
    K.lookup cc = some ⟨cl, cld, .cell (some (.ref C)), csl⟩ ∧ K.lookup cda = some ⟨ccl, cdd, .fields vs, ccs⟩ ∧ vs[2]? = some (.str file tf) ∧ (P.main.file == file) = true ∧ (q3.endLine == q5.line) = true
theorem one_size (v : Value) : [v].length ≤ sizeLine := by
  rw [sizeLine_eq]
  exact (by decide : 1 ≤ 16777216)
structure InitEnd (h h' : Heap) (x C dx t1 : Addr) (v : Value) : Prop where
  keep : ∀ b o, h.get? b = some o → h'.get? b = some o
  obj : h'.get? x = some { cls := .ref C, dict := some dx, data := .fields #[.ref t1, .none, .none, .none, .bool false, .none] }
  dbig : h.objs.size ≤ dx
  dne : dx ≠ x
  ns : h'.Ns1 dx (fun y => if y = "word" then some v else none)
theorem ev_line {o : Expr} {name : Str} {apos pos : Pos} {args : List Expr} {env : Env} {pl : Sem Bool} (hline : (apos.endLine == pos.line) = true)
    (hfew : methodCallForm (args.length + 0) (backTo pos (starEach args env)) [] = true) (hpl : ∀ ov, calleeOf true o env ov name = getMethod ov name pl) :
    eval (.Call (.Attribute o name apos) args [] pos) env = (do
      let ov ← attributeBase o name env (eval o env)
      standAt apos.atName
      let __x ← holding [ov] (getMethod ov name pl)
      match __x with
      | (f, first) => callWith pos f first (backTo pos (starEach args env)) []) := by
  rw [arm_eval_Call]
  congr 1
  funext ov
  congr 1
  funext _
  show methodCall o name apos pos env ov (args.length + 0) (backTo pos (starEach args env)) [] = _
  unfold methodCall
  rw [hfew, hpl]
  congr 1
  funext p
  unfold methodCallPos
  rw [hline]
  rfl
section
variable {prog : Program} {w : World} {A : Around} {R : Result → Shared → Prop} {s : Shared} {K : Frag} {mg mb : Str → Option Value} {C fI : Addr} {cn q : Str}
theorem bs_init (T : BsTxt prog K mg cn q C fI) {h0 : Heap} {x t0 : Addr} {v : Value} (X0 : K.In h0) (k0 : ∀ b o, h0.get? b = some o → s.heap.get? b = some o) (n0 : h0.get? x = none) (hg : s.heap.Ns mainGlobals mg) (hb : s.heap.Ns builtinsNs mb) (hbs : mb "super" = some (.type "super")) (hlim : s.heap.NoLimit) (hx : s.heap.get? x = some (excO C t0)) (hroom : A.depth < recursionLimit)
    (hsz : h0.objs.size ≤ s.heap.objs.size)
    (hq : ∀ h' tk dx t1, InitEnd h0 h' x C dx t1 v → R (.ok (.ret .none)) { s with heap := h', toks := tk }) :
    codeAny (model prog w) A (.call (.ref fI) ⟨[.ref x, v], []⟩) R s := by
  obtain ⟨oc, od, doc, pm, an, cda, ct, osl, p1, p2, q1, q2, q3, q4, q5, q6, q7, q8, q9, q10, cc, cl, ccl, cld, cdd, csl, ccs, vs, file, tf, ho, hcd, hcc, hca, hvs, hfile, hline⟩ := T.fn
  obtain ⟨nm, qq, N, bs, bm, sn, sub, ab, col, dd, k1, k2, k3, k4, k5, hC, hbm⟩ := T.cls
  have X : K.In s.heap := X0.keeps k0
  have hcl : clsIn K C = some { name := nm, bases := bs, mro := .ref C :: bm, ns := N, qualname := qq, hasDict := true, slotNames := sn, subclasses := sub, abstract := ab, collection := col, hasDel := false } := by unfold clsIn; rw [hC] <;> rfl
  have hxL : s.heap.objs.size ≠ x := Nat.ne_of_gt (Heap.lt_size hx)
  refine ks_codeAny_call_defAt (binds := [("self", .ref x), ("word", v)]) hroom (X _ _ ho) rfl hlim (codeRec_of X hcd) rfl (BindsTo.of_eq (by first | rfl | with_unfolding_all rfl)) (fun y hy => (by decide +kernel : ∀ y ∈ iS.names, y.2 ≠ .cell) y hy) (fun y hy => ?_) (fun h₁ hn k => ?_) rfl rfl rfl
  · simp only [List.mem_cons, List.not_mem_nil, or_false] at hy
    rcases hy with rfl | rfl <;> rfl
  have hx₁ := k _ _ hx
  have X₁ : K.In h₁ := X.keeps k
  show PySem.wpAt _ _ _ (execs (_ :: _) _) _ _ _
  refine ks_wpAt_execs_cons ?_
  refine ks_wpAt_Expr_any ?_ rfl rfl
  refine ks_wpAt_MethodCall ?_ (ev_line hline rfl fun _ => rfl)
  refine ks_wpAt_super_base (f := fI) (cc := cda) rfl rfl (by decide) rfl (X₁ _ _ ho) rfl rfl rfl (X₁ _ _ hca) rfl hvs hfile T.pS ?_
  refine ks_loadName_global rfl rfl (loadGlobal_builtin (hg.keeps k) T.gS (hb.keeps k) hbs ?_)
  refine ⟨rfl, ?_⟩
  refine wpAny_loadName_free (c := cc) rfl rfl rfl ⟨_, X₁ _ _ hcc, rfl⟩ ?_
  refine wpAny_loadName_local rfl rfl hn rfl ?_
  refine ks_wpAny_isType_cls (X₁ _ _ hC) rfl ⟨rfl, ?_⟩
  refine ks_wpAny_call_super (X₁ _ _ hC) rfl hx₁ rfl (fun c z => by cases z) (looks_mroIn X₁ T.self) fun h₂ hso k2 => ?_
  have hL : s.heap.objs.size < h₁.objs.size := hn.lt
  have old : ∀ {a : Addr}, h0.objs.size ≤ a → h0.get? a = none := fun {a} ha => by
    cases e : h0.get? a with
    | none => rfl
    | some o => exact absurd (Heap.lt_size e) (Nat.not_lt.mpr ha)
  have hx₂ := k2 _ _ hx₁
  have Fr2 : Fr h0 s.heap.objs.size h₂ _ := ⟨hn.keeps k2, fun b o e => k2 b o (k b o (k0 b o e)), hsz⟩
  have Nw2 : News h0 s.heap.objs.size h₂ [(h₁.objs.size, ks_superObj C x C), (x, excObj C t0 none .none)] := by
    intro p hp
    simp only [List.mem_cons, List.not_mem_nil, or_false] at hp
    rcases hp with rfl | rfl
    · exact ⟨hso, Nat.ne_of_gt hL, old (by show h0.objs.size ≤ h₁.objs.size; omega)⟩
    · exact ⟨hx₂, Ne.symm hxL, n0⟩
  refine kxs_method kxs_ValueError Fr2 X0 Nw2 List.mem_cons_self (ox := excO C t0) (odx := none) ⟨hx₂, rfl, rfl, trivial⟩ T.st T.sup T.sV (by decide) fun u h₃ Fr3 Nw3 hu => ?_
  refine kxs_callWith1 Nw3 List.mem_cons_self ?_ rfl rfl
  refine spliced_more (wpAny_Name (wpAny_loadName_local rfl rfl Fr3.ns rfl ?_) (by decide)) rfl
  refine spliced_none ⟨kxs_at Nw3 List.mem_cons_self, ?_⟩
  have hxs : x < h₁.objs.size := Heap.lt_size hx₁
  have ux : u ≠ x := Nat.ne_of_gt (hu (x, excObj C t0 none .none) (by simp))
  have sx : h₁.objs.size ≠ x := Nat.ne_of_gt hxs
  refine kxs_call Fr3 X0 Nw3 F.excBase_ValueError T.ini List.mem_cons_self (.tail (p := (u, _)) ux (.tail (p := (h₁.objs.size, _)) sx (.head (by simp)))) (one_size v) fun t' h₄ Fr4 Nw4 ht => ?_
  have hx₄ : h₄.get? x = some (excObj C t' none .none) := (Nw4 (x, excObj C t' none .none) (by simp)).1
  have X₄ : K.In h₄ := X0.keeps Fr4.keep
  refine wpAt_of_wpAny ?_
  show wpAny _ _ (execs (_ :: _) _) _ _ _
  refine wpAny_execs_cons (plainObj_wpAny_Assign_Attribute ?_ rfl)
  refine wpAny_Name (wpAny_loadName_local rfl rfl Fr4.ns rfl ?_) (by decide)
  refine wpAny_Name (wpAny_loadName_local rfl rfl Fr4.ns rfl ?_) (by decide)
  refine set_plain X₄ (ox := excObj C t' none .none) (od := none) ⟨hx₄, rfl, rfl, trivial⟩ T.sa ?_
  refine exc_osa X₄ hx₄ hcl (show refsVE (.ref C :: bm) = true from hbm) rfl T.noN (fun h₅ tk₅ dx k₅ dn dne hx₅ hn₅ => ?_)
  show wpAny _ _ (execs _ _) _ _ _
  have z : s.heap.objs.size < h₄.objs.size := Fr4.ns.lt
  refine wpAny_execs_nil (hq h₅ tk₅ dx t' ⟨fun b o e => k₅ b o (fun z => ?_) (Fr4.keep b o e), hx₅, ?_, dne, hn₅⟩)
  · rw [z, n0] at e; cases e
  · have dn' : h₄.objs.size ≤ dx := dn
    omega
structure OwnMade (h h' : Heap) (e C d : Addr) (v : Value) : Prop where
  keep : ∀ b o, h.get? b = some o → h'.get? b = some o
  new : h.objs.size ≤ e
  obj : ∃ oe vs, h'.get? e = some oe ∧ oe.cls = .ref C ∧ oe.dict = some d ∧ oe.data = .fields vs ∧ vs[1]? = some .none
  dbig : h.objs.size ≤ d
  dne : d ≠ e
  ns : h'.Ns1 d (fun y => if y = "word" then some v else none)
theorem bs_made (T : BsTxt prog K mg cn q C fI) {v : Value} (X : K.In s.heap) (hg : s.heap.Ns mainGlobals mg) (hb : s.heap.Ns builtinsNs mb) (hbs : mb "super" = some (.type "super")) (hlim : s.heap.NoLimit) (hroom : A.depth + 1 < recursionLimit)
    (hq : ∀ h' tk e d, OwnMade s.heap h' e C d v → R (.ok (.ret (.ref e))) { s with heap := h', toks := tk }) :
    codeAny (model prog w) A (.call (.ref C) ⟨[v], []⟩) R s := by
  obtain ⟨nm, qq, N, bs, bm, sn, sub, ab, col, dd, k0, k1, k2, k3, k5, hC, hbm⟩ := T.cls
  obtain ⟨hp, g, dr, tk, os⟩ := s
  have k : ∀ b o, hp.get? b = some o → ((hp.push (kdv_tup [v])).push (excO C hp.objs.size)).get? b = some o := fun b o e => Heap.get?_push_of_some _ (Heap.get?_push_of_some _ e)
  have hget : ((hp.push (kdv_tup [v])).push (excO C hp.objs.size)).get? (hp.objs.size + 1) = some (excO C hp.objs.size) := by heap_get
  have hnx : hp.get? (hp.objs.size + 1) = none := by
    cases e : hp.get? (hp.objs.size + 1) with
    | none => rfl
    | some o => exact absurd (Nat.lt_of_succ_lt (Heap.lt_size e)) (Nat.lt_irrefl _)
  refine call_own F.excBase_ValueError (fun X => refsVE_contains X bm hbm) (X _ _ hC) (looks_findIn X T.iC) (fun self => bind_fn X self T.tC) (one_size v) ?_
  refine bs_init (s := ⟨(hp.push (kdv_tup [v])).push (excO C hp.objs.size), g, dr, tk, os⟩) T X k hnx (hg.keeps k) (hb.keeps k) hbs (hlim.keeps k) hget ?_ ?_ fun h' tk' dx t1 ⟨k', hx, dn, dne, hns⟩ => ?_
  · show A.depth + 1 < recursionLimit
    exact hroom
  · show hp.objs.size ≤ ((hp.push (kdv_tup [v])).push (excO C hp.objs.size)).objs.size
    rw [Heap.size_push, Heap.size_push]
    omega
  · exact ⟨rfl, hq h' tk' (hp.objs.size + 1) dx ⟨k', Nat.le_succ _, ⟨_, _, hx, rfl, rfl, rfl, rfl⟩, dn, dne, hns⟩⟩
end

theorem relO_word {v : V} {v' : Value} (r : RelV v v') (f : Str) : RelO (List.lookup f [(("word" : Str), v)]) (if f = "word" then some v' else none) := by
  by_cases hw : f = "word"
  · subst hw
    rw [if_pos rfl]
    have q : List.lookup ("word" : Str) [(("word" : Str), v)] = some v := by simp [List.lookup]
    rw [q]
    exact r
  · rw [if_neg hw]
    have qw : (f == ("word" : Str)) = false := by simpa using hw
    have q2 : List.lookup f [(("word" : Str), v)] = none := by simp [List.lookup, qw]
    rw [q2]
    trivial
def tMkB (C : Addr) (ta : TA) : L2.St → Hp → XK → Prop := fun σ H Q => ta σ H fun vs H1 => ∃ v, vs = [v] ∧ ∀ d, H1 d = none → Q (.ref C) (some d) (upd H1 d (.xd [(("word" : Str), v)]))
section
variable {X : Cx} {C fI : Addr} {cn q : Str}
theorem pmk_bs {a : Expr} {ta : TA} {p pos : Pos} {k : Nat} (T : BsTxt X.prog X.K X.mg cn q C fI) (hr : Room k X.A) (ha : PA X [a] ta) (hg : Gl X cn) (hd : (cn == ("__debug__" : Str)) = false)
    (he : starEach (a :: []) X.env = (false, eval a X.env) :: starEach [] X.env := by rfl) (hpl : (backTo pos (starEach [] X.env)).any (·.1) = false := by rfl) :
    PMk X (.Call (.Name cn p) [a] [] pos) (tMkB C ta) := by
  intro pins s σ H Q I h
  refine wpAny_Call_Name_kw (ld_glob I hg T.gC ?_ hd)
  refine PySem.W.callWith_K (h₀ := X.base) I.ok.mod.kin T.kC (thn (ha.run pos pins s σ H _ I h) fun us s1 hh => ?_) he hpl
  obtain ⟨vs, H1, I1, r1, v, ev, q1⟩ := hh
  subst ev
  refine ⟨I1.kIn, ?_⟩
  cases r1 with
  | cons rv rn =>
    rename_i v' us'
    cases rn
    show wpAny _ _ (call (.ref C) [v']) _ _ _
    have hlim := I1.nolimit
    obtain ⟨m, fr⟩ := I1.fr
    obtain ⟨mb, hb, hbs⟩ := I1.ok.mod.blt
    have hG := I1.ok.mod.glob.keeps fr.keep
    have hB := hb.keeps fr.keep
    have hS : mb "super" = some (.type "super") := by rw [hbs _ (by decide)]; rfl
    obtain ⟨hp, g, dr, tk, os⟩ := s1
    refine wpAny_call (bs_made T I1.kIn hG hB hS hlim (by have := hr.dp; omega) fun h' tk' e d M => ?_)
    show MkP X pins σ Q (.ref e) ⟨h', g, dr, tk', os⟩
    obtain ⟨oe, fv, hoe, hc, hd, hdat, h1⟩ := M.obj
    have hns := M.ns
    obtain ⟨G', g1, g2⟩ := restrict h' fun b => decide (b ≠ e)
    have gk : ∀ b, b ≠ e → G'.get? b = h'.get? b := fun b hb => g1 b (decide_eq_true hb)
    have ge : G'.get? e = none := g2 e (by simp)
    have old : ∀ b o, hp.get? b = some o → G'.get? b = some o := fun b o q => (gk b (Nat.ne_of_lt (Nat.lt_of_lt_of_le (Heap.lt_size q) M.new))).trans (M.keep b o q)
    have ob : ObjOk X.prog X.w (upd H1 d (.xd [(("word" : Str), v)])) G' d (.xd [(("word" : Str), v)]) :=
      ⟨_, hns.at (fun o q => (gk d M.dne).trans q), fun f => relO_word rv f⟩
    have J : L2.Inv X pins σ (upd H1 d (.xd [(("word" : Str), v)])) ⟨G', g, dr, tk', os⟩ := I1.laid (t' := tk') old M.dbig ob
    refine ⟨e, oe, fv, ⟨G', g, dr, tk', os⟩, _, .ref C, some d, rfl, J, fun b o q => ?_, ge, hoe, ⟨hc, hd⟩, hdat, h1, ?_, rfl, I1.bare, raises_own T.exC T.tyC, q1 d (I1.hok.fresh M.dbig)⟩
    · by_cases hb : b = e
      · have q' : G'.get? b = some o := q
        rw [hb, ge] at q'; cases q'
      · exact (gk b hb).symm.trans q
    · rw [upd_ne (Ne.symm M.dne)]
      exact I1.hok.fresh M.new
end
theorem RS.upd_new {K : Frag} {ρ : List Addr} {H : Hp} {h : MH} (S : RS K ρ H h) {d : Addr} {o : HO} (n : H d = none) : RS K ρ (upd H d o) h :=
  ⟨S.len, S.nd, fun i c a e1 e2 => by
    have r := S.cell i c a e1 e2
    obtain ⟨u, hu⟩ := r.there
    refine r.gen (fun b xs q => (upd_ne fun z => by rw [z, n] at q; cases q).trans q) (fun _ _ q => q) (upd_ne fun z => by rw [z, n] at hu; cases hu)⟩
theorem Ex.upd_new {ρ : List Addr} {H : Hp} {d : Addr} {o : HO} (n : H d = none) : Ex ρ H ρ (upd H d o) :=
  ⟨List.prefix_refl _, fun b u q _ => (upd_ne fun z => by rw [z, n] at q; cases q).trans q, fun b hb => .inl hb⟩
section
variable {X : Cx} {c : Ctx} {W : WX}
def sRaise (x : Str) (m : EM Val) : SM := sBind m fun v env h => .exc ⟨x, [("word", v)]⟩ env h
theorem s_raise {x q : Str} {fI : Addr} {a : Expr} {m : EM Val} {k : Nat} {p pos pos2 : Pos} (hc : X.calm = true) (T : BsTxt X.prog X.K X.mg x q (He.ga X.K x) fI) (hr : Room k X.A) (tk : Takes X W) (he : E X c W a m) (hg : Gl X x := by rfl) (hd : (x == ("__debug__" : Str)) = false := by decide)
    (hs : starEach (a :: []) X.env = (false, eval a X.env) :: starEach [] X.env := by rfl) (hpl : (backTo pos (starEach [] X.env)).any (·.1) = false := by rfl) :
    S X c W (.Raise (some (.Call (.Name x p) [a] [] pos)) none pos2) (sRaise x m) :=
  PS.imp (ps_raise hc tk (pmk_bs T hr (pa_cons he pa_nil hs) hg hd hs hpl)) fun D σ H ⟨ρ, env, h, T0, F⟩ => by
    refine ⟨ρ, env, h, T0, (finS_bind (R := RVal X.K) T0 F).mono fun v' H1 ⟨v, h1, ρ1, e1, T1, r1, F1⟩ => ?_⟩
    refine ⟨v', rfl, fun d hd => ?_⟩
    have S2 := T1.rs.upd_new (o := .xd [(("word" : Str), v')]) hd
    have ex := Ex.upd_new (ρ := ρ1) (o := .xd [(("word" : Str), v')]) hd
    exact F1 ρ1 σ _ _ _ (ex.es T1.rs) (T1.step ex S2) ⟨rfl, .inr ⟨d, _, rfl, upd_same, rfl, .cons (RV.mono T1.rs ex r1) .nil⟩⟩
end
end Mi

set_option Elab.async false
set_option linter.all false
set_option maxRecDepth 100000
set_option maxHeartbeats 2000000
set_option autoImplicit false
namespace Mi
open PySem PySem.W PySem.Calls PySem.Spec PyProof.Rows PySem.HandSPX L2
def noX : Sl → Sl
  | .exn _ => .no
  | s => s
theorem noX_own {s : Sl} {k : Cell} (e : noX s = .own k) : s = .own k := by cases s <;> first | exact e | cases e
def wipeX (env : ME) : ME := env.map noX
theorem wipeX_own {env : ME} {i : Nat} {k : Cell} (e : (wipeX env)[i]? = some (.own k)) : env[i]? = some (.own k) := by
  unfold wipeX at e
  rw [List.getElem?_map] at e
  cases q : env[i]? with
  | none => rw [q] at e; cases e
  | some s => rw [q] at e; simp only [Option.map_some, Option.some.injEq] at e; rw [noX_own e]
theorem ST.wipeX {K : Frag} {c : Ctx} {ρ : List Addr} {H : Hp} {h : MH} {env : ME} {σ : L2.St} (T : ST K c ρ H h env σ) (xc : Option (Addr × Value × Option Addr)) : ST K { c with xc := xc } ρ H h (wipeX env) σ := by
  refine ⟨T.rs, T.ex, ⟨by unfold Mi.wipeX; rw [List.length_map]; exact T.re.len, fun i s o e1 e2 => ?_, fun i j k k' a hne e1 e2 => T.re.sep i j k k' a hne (wipeX_own e1) (wipeX_own e2)⟩, fun p hp => ?_⟩
  · unfold Mi.wipeX at e1
    rw [List.getElem?_map] at e1
    cases q : env[i]? with
    | none => rw [q] at e1; cases e1
    | some s0 =>
      rw [q] at e1
      simp only [Option.map_some, Option.some.injEq] at e1
      have r := T.re.slot i s0 o q e2
      cases s0 with
      | no => subst e1; trivial
      | val v => subst e1; exact r
      | own k => subst e1; exact r
      | exn e => subst e1; trivial
  · obtain ⟨e, n, z⟩ := T.pn p hp
    exact ⟨e, n, fun i k e1 => z i k (wipeX_own e1)⟩
def sTry (cs : List Str) (i : Nat) (mb ms : SM) : SM := fun env h => match mb env h with
  | .exc e env1 h1 => if e.c ∈ cs then (match ms ((wipeX env1).set i (.exn e)) h1 with
    | .next env2 h2 => .next ((wipeX env2).set i .no) h2
    | .brk env2 h2 => .brk ((wipeX env2).set i .no) h2
    | .cont env2 h2 => .cont ((wipeX env2).set i .no) h2
    | .ret v h2 => .ret v h2
    | _ => .stuck) else .stuck
  | o => o
theorem ST.gone {K : Frag} {c : Ctx} {xc : Option (Addr × Value × Option Addr)} {ρ : List Addr} {H : Hp} {h : MH} {env : ME} {σ : L2.St} {i : Nat} (T : ST K { c with xc := xc } ρ H h env σ) : ST K c ρ H h ((Mi.wipeX env).set i .no) (σ.set i none) :=
  (T.wipeX c.xc).put i (s := .no) trivial fun _ z => nomatch z
section
variable {X : Cx} {c : Ctx} {W : WX}
theorem s_tryAs {x n : Str} {cv : Value} {i : Nat} {body suite : List Stmt} {b₀ : Stmt} {hds : List ExceptHandler} {np pos pos' : Pos} {mb ms : SM} (cs : List Str) (hN : X.N.Nodup) (hc : Names X x cv) (hm : ∀ y ∈ cs, exmOne X.K (.ref (He.ga X.K y)) cv = some true)
    (hb : ∀ (W : WX) (pn : List (Addr × Obj)) (xe : Value → Shared → Prop), Takes (X.tr pn xe) W → PassesOwn (model X.prog X.w) X.A X.env xe → SS (X.tr pn xe) c W body mb)
    (hsu : ∀ (a : Addr) (oe : Obj) (cls : Value) (d : Option Addr) (pn : List (Addr × Obj)), Zc cls d oe → (∃ vs, oe.data = .fields vs) → SS (X.suite a ((a, oe) :: pn)) { c with xc := some (a, cls, d) } W0 (b₀ :: suite) ms)
    (hs : X.stack = X.env :: X.outer := by rfl) (hf : X.env.frame = some X.env.locals := by rfl) (hi : X.N[i]? = some n := by rfl) (hln : X.env.kindOf n = some .local := by rfl) :
    S X c W (.Try body (.ExceptHandler (some (.Name x np)) (some n) (b₀ :: suite) pos' :: hds) [] [] pos) (sTry cs i mb ms) :=
  PS.imp (ps_try_asF (tb := fun W => rdS X.K c W mb) (ts := fun a cls d => rdS X.K { c with xc := some (a, cls, d) } W0 ms) hs hf hN hi hln hc hb hsu) fun D σ H ⟨ρ, env, h, T0, F⟩ => by
    refine ⟨ρ, env, h, T0, ?_⟩
    have F : FinS X.K c W D ρ H (match mb env h with
      | .exc e env1 h1 => if e.c ∈ cs then (match ms ((wipeX env1).set i (.exn e)) h1 with
        | .next env2 h2 => .next ((wipeX env2).set i .no) h2
        | .brk env2 h2 => .brk ((wipeX env2).set i .no) h2
        | .cont env2 h2 => .cont ((wipeX env2).set i .no) h2
        | .ret v h2 => .ret v h2
        | _ => .stuck) else .stuck
      | o => o) := F
    cases q : mb env h with
    | next e1 h1 => rw [q] at F; exact F
    | ret v h1 => rw [q] at F; exact F
    | brk e1 h1 => rw [q] at F; exact F
    | cont e1 h1 => rw [q] at F; exact F
    | stuck => rw [q] at F; exact F
    | exc e env1 h1 =>
      rw [q] at F
      simp only at F
      intro ρ1 σ1 cls d H1 es1 T1 rx
      by_cases he : e.c ∈ cs
      · rw [if_pos he] at F
        refine ⟨?_, fun a ha => ?_⟩
        · rw [rx.1]; exact hm _ he
        · have T2 : ST X.K { c with xc := some (a, cls, d) } ρ1 H1 h1 ((wipeX env1).set i (.exn e)) (σ1.set i (some (.ref a))) :=
            (T1.wipeX (some (a, cls, d))).put i (s := .exn e) ⟨a, cls, d, rfl, rfl, rx⟩ fun _ z => nomatch z
          refine ⟨ρ1, _, h1, T2, ?_⟩
          have F2 := F.at es1
          cases q2 : ms ((wipeX env1).set i (.exn e)) h1 with
          | next e2 h2 => rw [q2] at F2; exact fun ρ' σ' H' es' T' => F2 ρ' _ H' es' T'.gone
          | brk e2 h2 => rw [q2] at F2; exact fun ρ' σ' H' es' T' => F2 ρ' _ H' es' T'.gone
          | cont e2 h2 => rw [q2] at F2; exact fun ρ' σ' H' es' T' => F2 ρ' _ H' es' T'.gone
          | ret v h2 => rw [q2] at F2; exact fun ρ' x H' ex s r => F2 ρ' x H' ex s r
          | exc e2 e3 h2 => rw [q2] at F2; exact F2.elim
          | stuck => rw [q2] at F2; exact F2.elim
      · rw [if_neg he] at F
        exact F.elim
end
def xField (i : Nat) (cn f : Str) : EM Val := fun env h => match env[i]? with
  | some (.exn e) => if e.c = cn then (match e.fs.lookup f with
    | some v => .ok v h
    | none => .stuck) else .stuck
  | _ => .stuck
theorem rks_lookup {K : Frag} {ρ : List Addr} {H : Hp} : ∀ {fs : List (Str × Val)} {gs : List (Str × V)} {f : Str} {v : Val}, RKs K ρ H fs gs → fs.lookup f = some v → ∃ y, gs.lookup f = some y ∧ RV K ρ H v y
  | [], _, f, v, _, e => by simp at e
  | (k, u) :: fs, [], f, v, r, e => by cases r.1
  | (k, u) :: fs, (k', y) :: gs, f, v, r, e => by
    obtain ⟨r1, r2⟩ := r
    simp only [List.map_cons, List.cons.injEq] at r1
    simp only [List.map_cons] at r2
    cases r2 with
    | cons ru rt =>
      obtain ⟨e1, e2⟩ := r1
      subst e1
      simp only [List.lookup] at e ⊢
      cases q : (f == k) with
      | true => rw [q] at e; simp only at e ⊢; cases e; exact ⟨_, rfl, ru⟩
      | false => rw [q] at e; simp only at e ⊢; exact rks_lookup ⟨e2, rt⟩ e
section
variable {X : Cx} {c : Ctx} {W : WX} {a : Addr} {oe : Obj} {cls : Value} {d : Option Addr} {pn : List (Addr × Obj)}
theorem e_field {i : Nat} {cn f x : Str} {p pos : Pos} (T : XfC X.K (He.ga X.K cn)) (hno : findIn X.K (.ref (He.ga X.K cn)) f = some none) (hz : Zc cls d oe) (hf : ∃ vs, oe.data = .fields vs)
    (hN : X.N[i]? = some x := by rfl) (hv : Vis X.env.scope x := by first | exact Or.inl rfl | exact Or.inr (Or.inl rfl) | exact Or.inr (Or.inr rfl))
    (hd : (x == ("__debug__" : Str)) = false := by decide) (hcd : (x == ("__classdict__" : Str)) = false := by decide) (hb : attributeBase (.Name x p) f X.env (eval (.Name x p) X.env) = eval (.Name x p) X.env := by rfl) :
    E (X.suite a ((a, oe) :: pn)) { c with xc := some (a, cls, d) } W (.Attribute (.Name x p) f pos) (xField i cn f) := by
  refine PE.imp (pe_xf T hno hz hf (pe_var (X := X.suite a ((a, oe) :: pn)) hN hv hd hcd) hb) fun σ H Q ⟨ρ, env, h, S, F⟩ => ?_
  unfold xField at F
  split at F
  · rename_i e he
    obtain ⟨o, e2, a', cls', d', rfl, e3, r1, r2⟩ := S.slot_at he
    cases e3
    split at F
    · rename_i hc
      split at F
      · rename_i v hl
        rcases r2 with ⟨r2, _⟩ | ⟨dd, fs, r2, r3, r4⟩
        · rw [r2] at hl; simp at hl
        · obtain ⟨y, hy, ry⟩ := rks_lookup r4 hl
          exact ⟨_, e2, rfl, by rw [r1, hc], dd, fs, y, r2, r3, hy, F ρ y H .refl S.rs ry⟩
      · exact F.elim
    · exact F.elim
  · exact F.elim
theorem call_isX {D : Addr} (C : ExcC X.K D) (hcl : (clsIn X.K D).isSome = true) (hz : Zc cls d oe) (hf : ∃ vs, oe.data = .fields vs) :
    CallR (X.suite a ((a, oe) :: pn)) (.builtin "isinstance") (fun xs H Q => ∃ (c : V) (cv : Value) (b : Bool) (dd : Addr) (fs : List (Str × V)), xs = [.ref a, c] ∧ cls = .ref D ∧ d = some dd ∧ (∀ u, RelV c u → u = cv) ∧ kitOne X.K (.ref D) cv = some b ∧ H dd = some (.xd fs) ∧ Q (.bl b) H) := by
  intro pins s σ H xs us Q I r h
  obtain ⟨c, cv, b, dd, fs, rfl, rfl, rfl, hcv, e, hdd, q⟩ := h
  cases r with
  | cons rx rr =>
    cases rr with
    | cons rt rr =>
      cases rr
      rename_i u1 u2
      have e1 : u1 = .ref a := rx
      subst e1
      obtain rfl := hcv _ rt
      obtain ⟨hget, _⟩ := I.pin (a, oe) (List.mem_append_left _ List.mem_cons_self)
      obtain ⟨vs, hd⟩ := hf
      have hx : ObjOk X.prog X.w H s.heap dd (.xd fs) := I.hok dd _ hdd
      obtain ⟨mA, hns, hr⟩ := hx
      obtain ⟨od, ho, hl⟩ := lookIn_ns hns
      have J : PySem.W.InstAt s.heap a oe D (some od) := ⟨hget, hz.1, by unfold PySem.W.notCls; rw [hd] <;> rfl, by rw [hz.2]; exact ho⟩
      exact kia_one (kitx_exc hcl C.hg C.hk C.hs C.ha C.hn C.ht C.hm) (Inv.kIn (X := X.suite a ((a, oe) :: pn)) I) J e (fun z => nomatch z) fun tk => ⟨V.bl b, H, Inv.kept I fun _ _ z => z, rfl, q⟩
def xIsE (i : Nat) (cn : Str) (b : Bool) : EM Val := fun env h => match env[i]? with
  | some (.exn e) => if e.c = cn then (match e.fs with
    | [] => .stuck
    | _ => .ok (.bl b) h) else .stuck
  | _ => .stuck
theorem e_isE {i : Nat} {cn x y : Str} {b : Bool} {p p1 p2 pos : Pos} (C : ExcC X.K (He.ga X.K cn)) (hcl : (clsIn X.K (He.ga X.K cn)).isSome = true) (hk : kitOne X.K (.ref (He.ga X.K cn)) (.ref (He.ga X.K y)) = some b) (hy : X.mg y = some (.ref (He.ga X.K y))) (hi : X.mg "isinstance" = none)
    (hz : Zc cls d oe) (hf : ∃ vs, oe.data = .fields vs)
    (hN : X.N[i]? = some x := by rfl) (hv : Vis X.env.scope x := by first | exact Or.inl rfl | exact Or.inr (Or.inl rfl) | exact Or.inr (Or.inr rfl))
    (hd : (x == ("__debug__" : Str)) = false := by decide) (hcd : (x == ("__classdict__" : Str)) = false := by decide) (hgy : Gl X y := by rfl) (hgi : Gl X "isinstance" := by rfl) (hdy : (y == ("__debug__" : Str)) = false := by decide)
    (h1 : starEach (.Name x p1 :: [.Name y p2]) X.env = (false, eval (.Name x p1) X.env) :: starEach [.Name y p2] X.env := by rfl) (h2 : (backTo pos (starEach [.Name y p2] X.env)).any (·.1) = false := by rfl) (h3 : starEach (.Name y p2 :: []) X.env = (false, eval (.Name y p2) X.env) :: starEach [] X.env := by rfl) :
    E (X.suite a ((a, oe) :: pn)) { c with xc := some (a, cls, d) } W (.Call (.Name "isinstance" p) [.Name x p1, .Name y p2] [] pos) (xIsE i cn b) := by
  refine PE.imp (pe_callB (X := X.suite a ((a, oe) :: pn)) (call_isX C hcl hz hf) hgi hi rfl (pa_cons (pe_var (X := X.suite a ((a, oe) :: pn)) (i := i) hN hv hd hcd) (pa_cons (pe_glob (X := X.suite a ((a, oe) :: pn)) (v := .ref (He.ga X.K y)) hgy hy rfl hdy) pa_nil h3) h1) (by decide) (by decide) h1 h2) fun σ H Q ⟨ρ, env, h, S, F⟩ => ?_
  unfold xIsE at F
  split at F
  · rename_i e he
    obtain ⟨o, e2, a', cls', d', rfl, e3, r1, r2⟩ := S.slot_at he
    cases e3
    split at F
    · rename_i hc
      split at F
      · exact F.elim
      · rename_i hne
        rcases r2 with ⟨r2, _⟩ | ⟨dd, fs, r2, r3, r4⟩
        · exact absurd r2 hne
        · refine ⟨_, e2, _, _, b, dd, fs, rfl, by rw [r1, hc], r2, fun u hu => ?_, hk, r3, F ρ _ H .refl S.rs (.bl b)⟩
          exact hu
    · exact F.elim
  · exact F.elim
end
def fRev (o : Opd) (h : MH) : Res Cell := (lisOf o h).map fun vs => (.lst vs.reverse, h)
theorem g_rev {X : Cx} : UnG X (RNew X.K) (fun x H Q => ∃ a xs, x = .ref a ∧ SqL X.K H a xs ∧ ∀ p, H p = none → Q (.ref p) (upd H p (.lst xs.reverse))) fRev := fun ρ H h a x v h' Q S ra e G => by
  unfold fRev at e
  obtain ⟨vs, e1, e2⟩ := Option.map_eq_some_iff.mp e
  cases e2
  obtain ⟨p, ys, rfl, q, r⟩ := lisOf_ok S ra e1
  exact ⟨p, ys, rfl, q, fun l hl => good_lst S r.reverse G hl⟩
theorem n_rev {X : Cx} {c : Ctx} {W : WX} {e : Expr} {m : EM Opd} {k : Nat} {p1 p2 p3 pos : Pos} (he : EO X c W e m) : EC X c W (.Subscript e (.Slice none none (some (.UnaryOp .USub (.Constant (.int 1) k p1) p2)) p3) pos) (xUn fRev m) :=
  PE.imp (pe_revL he) fun σ H Q q => rd_un mon_new g_rev q
theorem def_none {P : Program} {w : World} {K : Frag} {mg : Str → Option Value} {base : Heap} {x qual : Str} {params : Arguments} {body : List Stmt} {scope : Scope} {f : Addr} {fd : FuncData} {ps : List Str} {k : Nat}
    (F : FunD K x qual params body scope [] [] f fd) (hm : mg x = some (.ref f)) (hb : Binds K fd ps []) : Def P w K mg base x k (fun _ _ => .stuck) :=
  ⟨f, fd, ps, ⟨fun vs H Q E h => by obtain ⟨_, _, _, _, _, q⟩ := h; exact q.elim, fun A outer s H args us vs Q E hr e b r h => by obtain ⟨_, _, _, _, _, q⟩ := h; exact q.elim⟩, hm, F.kp, hb⟩
def fMulI := fI cMul fun i j => .int (i * j)
theorem g_mulI {X : Cx} : OpG X (RVal X.K) (rI CMul fun i j => .int (i * j)) fMulI := fI_ok (fun _ _ _ _ => .int _) fun i j H Q e q => ⟨i, j, rfl, rfl, by unfold cMul at e; exact of_decide_eq_true (p := (-(2 ^ 64) < i ∧ i < 2 ^ 64) ∨ (-(2 ^ 64) < j ∧ j < 2 ^ 64)) e, q⟩
end Mi

set_option Elab.async false
set_option linter.all false
set_option maxRecDepth 100000
set_option maxHeartbeats 2000000
set_option autoImplicit false
namespace Mi
open PySem PySem.W PySem.Calls PySem.Spec PyProof.Rows PySem.HandSPX L2
abbrev FnR := Option (Str × Str × Arguments × FuncBody × Scope)
def inA (K : Frag) (x : Str) : Addr := He.ma K (He.ga K x) "__init__"
def fnR (K : Frag) (x : Str) : FnR := match K.lookup (inA K x) with
  | some ⟨_, _, .func fd, _⟩ => some (fd.name, fd.qualname, fd.params, fd.body, fd.scope)
  | _ => none
def clsB (K : Frag) (x : Str) : Bool := match K.lookup (He.ga K x) with
  | some ⟨.type t, _, .cls cd, sl⟩ => t == "type" && (match cd.mro, sl.toList with
    | .ref C' :: bm, [_, _, _, _, some (.builtin n), _] => C' == He.ga K x && (n == "ValueError.__new__" && (!cd.hasDel && (cd.hasDict && refsVE bm)))
    | _, _ => false)
  | _ => false
theorem clsB_ok {K : Frag} {x : Str} (h : clsB K x = true) : ∃ nm q N bs bm sn sub ab col dd k0 k1 k2 k3 k5, K.lookup (He.ga K x) = some (excClassObj nm q (He.ga K x) N bs bm true sn sub ab col dd k0 k1 k2 k3 k5 "ValueError.__new__") ∧ refsVE bm = true := by
  unfold clsB at h
  split at h
  · rename_i t dd cd sl e
    simp only [Bool.and_eq_true, beq_iff_eq] at h
    obtain ⟨rfl, h⟩ := h
    split at h
    · rename_i C' bm k0 k1 k2 k3 n k5 em es
      simp only [Bool.and_eq_true, beq_iff_eq, Bool.not_eq_true'] at h
      obtain ⟨rfl, rfl, h1, h2, h3⟩ := h
      refine ⟨cd.name, cd.qualname, cd.ns, cd.bases, bm, cd.slotNames, cd.subclasses, cd.abstract, cd.collection, dd, k0, k1, k2, k3, k5, ?_, h3⟩
      rw [e]
      obtain ⟨sl⟩ := sl
      have es : sl = _ := es
      subst es
      obtain ⟨a1, a2, a3, a4, a5, a6, a7, a8, a9, a10, a11⟩ := cd
      simp only at em h1 h2
      subst em; subst h1; subst h2
      rfl
    · cases h
  · cases h
def initB (K : Frag) (file : Str) (x : Str) : Bool := match K.lookup (inA K x) with
  | some ⟨_, _, .func fd, _⟩ => (match fd.closure, fd.code with
    | [(n, cc)], .ref cda => n == "__class__" && ((match K.lookup cc with
        | some ⟨_, _, .cell (some (.ref D)), _⟩ => D == He.ga K x
        | _ => false) && ((match K.lookup cda with
        | some ⟨_, _, .fields vs, _⟩ => (match (vs[2]? : Option Value) with
          | some (Value.str f _) => f == file
          | _ => false)
        | _ => false) && (codeIn K (.ref cda) fd.qualname && (decide (fd.defaults = .none) && (decide (fd.kwdefaults = .none) && (fd.globals == mainGlobals && fd.builtins == builtinsNs))))))
    | _, _ => false)
  | _ => false
def bsB (K : Frag) (file : Str) (x : Str) : Bool :=
  clsB K x && (initB K file x && (excInitIn K (He.ga K x) veTail "ValueError.__new__" && (decide (ks_superIn K (He.ga K x) (He.ga K x) "__init__" = some (some (.builtin "ValueError.__init__"))) &&
  (decide (subIn K (.ref (He.ga K x)) (.type "ValueError") = some true) && (decide (mroIn K (He.ga K x) (.ref (He.ga K x)) = some true) && (decide (findIn K (.ref (He.ga K x)) "__setattr__" = some (some (.builtin "object.__setattr__"))) &&
  (decide (findIn K (.ref (He.ga K x)) "word" = some none) && (decide (findIn K (.ref (He.ga K x)) "__init__" = some (some (.ref (inA K x)))) && (decide (typeIn K (.ref (inA K x)) = some (.type "function")) &&
  (keepIn K (.ref (He.ga K x)) && (decide (subIn K (.ref (He.ga K x)) (.type "BaseException") = some true) && decide (typeIn K (.ref (He.ga K x)) = some (.type "type")))))))))))))
def exB (K : Frag) (x : Str) : Bool :=
  L2.xfB K (He.ga K x) && (decide (findIn K (.ref (He.ga K x)) "__class__" = some (some (.builtin "object.__class__"))) && (decide (specialIn K (.builtin "object.__class__") "__get__" = some (some (.builtin "getset_descriptor.__get__"))) &&
  (decide (takesIn K (.builtin "object.__class__") = some true) && (decide (mroIn K (He.ga K x) (.type "object") = some true) && ((clsIn K (He.ga K x)).isSome && decide (exmOne K (.ref (He.ga K x)) (.ref (He.ga K x)) = some true))))))
def isB (K : Frag) (p : Str × Str × Bool) : Bool := decide (kitOne K (.ref (He.ga K p.1)) (.ref (He.ga K p.2.1)) = some p.2.2)
structure Seen where
  xs : List Str
  is : List (Str × Str × Bool)
abbrev MV := Bool × List FnR
def seeM (file : Str) (c : Seen) (K : Frag) : MV := (decide (nsIn K cStatics "thirdparty.any" = some none) && ((c.xs.all fun x => bsB K file x && exB K x) && c.is.all (isB K)), c.xs.map (fnR K))
def frS (g : Addr → Option Obj) (n : Nat) : Frag := He.frG g (He.asD g n ++ [cStatics])
def hookB (n : Nat) (fa : List He.Fa) (fn : List He.DefD) (file : Str) (c : Seen) (mv : List FnR) : Hook where
  α := He.AlD × MV
  obs := fun s => (He.obsD fa fn (frS s.heap.get? n), seeM file c (frS s.heap.get? n))
  val := fun _ => (He.valD fn, true, mv)
  says := fun _ h => ∃ K, K.In h ∧ He.SaysD fa fn K ∧ seeM file c K = (true, mv)
  of := fun w s e => ⟨_, He.frG_in, congrArg Prod.fst e, congrArg Prod.snd e⟩
  keeps := fun w h h' ⟨K, k, r⟩ q => ⟨K, k.keeps q, r⟩
def obB (n : Nat) (fa : List He.Fa) (fn : List He.DefD) (file : Str) (c : Seen) (g : Addr → Option Obj) : He.AlD × MV := (He.obsD fa fn (frS g n), seeM file c (frS g n))
theorem obB_eq {n : Nat} {fa : List He.Fa} {fn : List He.DefD} {file : Str} {c : Seen} {mv : List FnR} {g : Addr → Option Obj} {s : Shared} (h : ∀ a, g a = s.heap.get? a) : obB n fa fn file c g = (hookB n fa fn file c mv).obs s := by
  have e : g = s.heap.get? := funext h
  subst e
  rfl
theorem bb {a b : Bool} (h : (a && b) = true) : a = true ∧ b = true := by simpa using h
theorem bs_of {P : Program} {K : Frag} {mg : Str → Option Value} {x q : Str} {file : Str} {p1 p2 q1 q2 q3 q4 q5 q6 q7 q8 q9 q10 : Pos} (h : bsB K file x = true) (hs : nsIn K cStatics "thirdparty.any" = some none) (gC : mg x = some (.ref (He.ga K x))) (gS : mg "super" = none)
    (pS : (List.lookup ("super" : Str) P.main.scope.names).isSome = false) (hf : (P.main.file == file) = true) (hr : fnR K x = some (("__init__" : Str), q, iA p1 p2, FuncBody.stmts (iB q1 q2 q3 q4 q5 q6 q7 q8 q9 q10), iS)) (hline : (q3.endLine == q5.line) = true) : BsTxt P K mg x q (He.ga K x) (inA K x) := by
  unfold bsB at h
  obtain ⟨h1, h⟩ := bb h
  obtain ⟨h2, h⟩ := bb h
  obtain ⟨h3, h⟩ := bb h
  obtain ⟨h4, h⟩ := bb h
  obtain ⟨h5, h⟩ := bb h
  obtain ⟨h6, h⟩ := bb h
  obtain ⟨h7, h⟩ := bb h
  obtain ⟨h8, h⟩ := bb h
  obtain ⟨h9, h⟩ := bb h
  obtain ⟨h10, h⟩ := bb h
  obtain ⟨h11, h⟩ := bb h
  obtain ⟨h12, h13⟩ := bb h
  refine ⟨gC, gS, pS, clsB_ok h1, h3, hs, of_decide_eq_true h4, of_decide_eq_true h5, of_decide_eq_true h6, of_decide_eq_true h7, of_decide_eq_true h8, of_decide_eq_true h9, of_decide_eq_true h10, h11, of_decide_eq_true h12, of_decide_eq_true h13, ?_⟩
  unfold fnR at hr
  unfold initB at h2
  split at hr
  · rename_i oc od fd osl e
    rw [e] at h2
    simp only at h2
    split at h2
    · rename_i n cc cda e1 e2
      obtain ⟨a1, h2⟩ := bb h2
      obtain ⟨a2, h2⟩ := bb h2
      obtain ⟨a3, h2⟩ := bb h2
      obtain ⟨a4, h2⟩ := bb h2
      obtain ⟨a5, h2⟩ := bb h2
      obtain ⟨a6, h2⟩ := bb h2
      obtain ⟨a7, a8⟩ := bb h2
      obtain rfl := eq_of_beq a1
      split at a2
      · rename_i cl cld D csl ecc
        obtain rfl := eq_of_beq a2
        split at a3
        · rename_i ccl cdd vs ccs eca
          split at a3
          · rename_i f tf ev
            obtain rfl := eq_of_beq a3
            obtain ⟨b1, b2, b3, b4, b5, b6, b7, b8, b9, b10, b11, b12, b13, b14, b15⟩ := fd
            simp only [Option.some.injEq, Prod.mk.injEq] at hr e1 e2 a4 a5 a6 a7 a8
            obtain ⟨rfl, rfl, rfl, rfl, rfl⟩ := hr
            subst e1; subst e2
            obtain rfl := of_decide_eq_true a5
            obtain rfl := of_decide_eq_true a6
            obtain rfl := eq_of_beq a7
            obtain rfl := eq_of_beq a8
            exact ⟨oc, od, b10, b11, b12, cda, b14, osl, p1, p2, q1, q2, q3, q4, q5, q6, q7, q8, q9, q10, cc, cl, ccl, cld, cdd, csl, ccs, vs, f, tf, e, a4, ecc, eca, ev, hf, hline⟩
          · cases a3
        · cases a3
      · cases a2
    · cases h2
  · cases hr
structure ExT (K : Frag) (x : Str) : Prop where
  xf : XfC K (He.ga K x)
  ec : ExcC K (He.ga K x)
  cl : (clsIn K (He.ga K x)).isSome = true
  em : exmOne K (.ref (He.ga K x)) (.ref (He.ga K x)) = some true
theorem ex_of {K : Frag} {x : Str} (h : exB K x = true) : ExT K x := by
  unfold exB at h
  obtain ⟨h1, h⟩ := bb h
  obtain ⟨h2, h⟩ := bb h
  obtain ⟨h3, h⟩ := bb h
  obtain ⟨h4, h⟩ := bb h
  obtain ⟨h5, h⟩ := bb h
  obtain ⟨h6, h7⟩ := bb h
  have X := L2.xfB_ok h1
  exact ⟨X, ⟨X.ga, X.gg, X.exC, X.hdC, of_decide_eq_true h2, of_decide_eq_true h3, of_decide_eq_true h4, of_decide_eq_true h5⟩, h6, of_decide_eq_true h7⟩
theorem is_of {K : Frag} {p : Str × Str × Bool} (h : isB K p = true) : kitOne K (.ref (He.ga K p.1)) (.ref (He.ga K p.2.1)) = some p.2.2 := of_decide_eq_true h
end Mi

set_option Elab.async false
set_option linter.all false
set_option maxRecDepth 100000
set_option maxHeartbeats 4000000
set_option autoImplicit false
namespace Mi
open PySem PySem.Spec PyProof.Rows L2
section
variable {X : Cx}
def fLtT (a b : Opd) (h : MH) : Res Val := match a, b with
  | .val (.tup us), .val (.tup vs) => match us.mapM intOf, vs.mapM intOf with
    | some is, some js => some (.bl (HT.lexLt is js), h)
    | _, _ => none
  | _, _ => fLt a b h
abbrev rLtM (K : PySem.W.Frag) : R2 := fun x y H Q => rLtF x y H Q ∨ rLtT K x y H Q
theorem o_ltT (hu : X.A.units + 64 < cLine) : OpR X (compareOp .Lt) (rLtM X.K) := o_lt.or (op_ltT (by omega))
theorem g_ltT : OpG X (RVal X.K) (rLtM X.K) fLtT := fun ρ H h a b x y v h' Q S ra rb e G => by
  unfold fLtT at e
  split at e
  · split at e
    · rename_i us vs _ _ is js e1 e2
      cases e
      obtain ⟨p, xs, rfl, q1, r1⟩ := rv_tup ra
      obtain ⟨p2, ys, rfl, q2, r2⟩ := rv_tup rb
      rw [mapM_ints e1] at r1
      rw [mapM_ints e2] at r2
      rw [r1.ints] at q1
      rw [r2.ints] at q2
      exact .inr ⟨p, p2, is, js, rfl, rfl, SqT.of q1, SqT.of q2, G.now S (.bl _)⟩
    · cases e
  · exact .inl (g_lt ρ H h a b x y v h' Q S ra rb e G)
theorem op_mul_str0 : OpR X (binaryOp .Mult) (fun x y H Q => ∃ s, x = .str s ∧ y = .int 0 ∧ Q (.str Str.empty) H) := by
  intro pins s σ H x y v u Q I rx ry h
  obtain ⟨i, rfl, rfl, q⟩ := h
  obtain ⟨t, rfl⟩ := rx
  obtain ⟨t', rfl⟩ := ry
  exact PySem.P.mul_str_none (by omega) (by omega) ⟨.str Str.empty, H, I.tok _, ⟨_, rfl⟩, q⟩
def fMulS (a b : Opd) (h : MH) : Res Opd := match a, b with
  | .val (.str _), .val (.int 0) => some (.val (.str Str.empty), h)
  | a, b => fMul a b h
abbrev rMulS (K : PySem.W.Frag) : R2 := fun x y H Q => (∃ s, x = .str s ∧ y = .int 0 ∧ Q (.str Str.empty) H) ∨ rMulF K x y H Q
theorem o_mulS : OpR X (binaryOp .Mult) (rMulS X.K) := op_mul_str0.or o_mul
theorem g_mulS : OpG X (RFr X.K) (rMulS X.K) fMulS := fun ρ H h a b x y v h' Q S ra rb e G => by
  unfold fMulS at e
  split at e
  · cases e
    rw [rv_str ra, rv_int rb]
    exact .inl ⟨_, rfl, rfl, G _ _ .refl S (.str _)⟩
  · exact .inr (g_mul ρ H h a b x y v h' Q S ra rb e G)
def rCntD (K : PySem.W.Frag) : V → List V → Hp → VK → Prop := fun x xs H Q => ∃ (ds : List PyData) (d : PyData) (y : V), xs = [y] ∧ DOk K H 50 x (.tuple ds) ∧ DOk K H 50 y d ∧ Q (.int ((ds.countP fun e => PyData.eqv e d : Nat) : Int)) H
theorem mt_tcount (hu : X.A.units + 64 < cLine) : MtR X "tuple.count" (rCntD X.K) := by
  intro pins s σ H x xs v us Q I rx rxs h
  obtain ⟨ds, d, y, rfl, hx, hy, q⟩ := h
  obtain ⟨u, rfl, ru⟩ := rxs.one
  obtain ⟨as, r1⟩ := Dp.reads I _ x v hx.1 rx
  obtain ⟨bs, r2⟩ := Dp.reads I d y u hy.1 ru
  have d1 := hx.2.1
  have d2 := hx.2.2
  cases r1 with
  | @tuple a o vs n _ _ h1 h2 h3 h4 =>
    refine PySem.SeqAt.count_tuple_data (l := a) (vs := vs) ⟨o, h1, h2, n, h3⟩ h4 r2 (by simpa [PyData.plain] using d1) hy.2.1 ?_ ?_
    · have := hy.2.2
      omega
    · exact ⟨.int _, H, I.tok _, ⟨s.toks, rfl⟩, q⟩
def fTCount (a : Opd) (as : List Opd) (h : MH) : Res Val := match as with
  | [b] => match pdO h a, pdO h b with
    | some (.tuple ds), some d => some (.int ((ds.countP fun e => PyData.eqv e d : Nat) : Int), h)
    | _, _ => none
  | _ => none
theorem g_tcount : MtG X (RVal X.K) (rCntD X.K) fTCount := fun ρ H h a as x xs v h' Q S ra ras e G => by
  unfold fTCount at e
  split at e
  · split at e
    · rename_i ds d e1 e2
      cases e
      obtain ⟨y, rfl, r⟩ := ros_one ras
      exact ⟨ds, d, y, rfl, pdO_ok S ra e1, pdO_ok S r e2, G.now S (.int _)⟩
    · cases e
  · cases e
end
end Mi
namespace PySem.W
open PySem PySem.Calls PyProof.Rows
section
variable {β : Type}
theorem dataLe_tups (x : β → List Int) : dataLe false (fun b => .tuple ((x b).map .int)) = fun p q => decide (x p ≤ x q) := by
  funext p q
  show (!dataLt (.tuple ((x q).map .int)) (.tuple ((x p).map .int))) = _
  rw [dataLt_tuple]
  show (!rowLt ((x q).map .int) ((x p).map .int)) = _
  rw [dataLt_ints]
  by_cases h : x q < x p
  · have h' : ¬ x p ≤ x q := fun r => List.not_lt.mpr r h
    simp [h, h']
  · have h' : x p ≤ x q := List.not_lt.mp h
    simp [h, h']
variable {prog : Program} {w : World} {A : Around} {E : Value → Shared → Prop} {s : Shared} {vs : List Value}
theorem sorted_of_sortT {l : Addr} {vs : List Value} {Q : Value → Shared → Prop} (hl : s.heap.IsTuple l vs.toArray) (hL : vs.length ≤ sizeLine)
    (body : ∀ E' : Value → Shared → Prop, wpAny (model prog w) A.in1.in1 (Builtin.«list.sort» ⟨[.ref (s.heap.objs.size + 1)], []⟩) (fun f s' => f = .done (.ret .none) ∧ Q (.ref (s.heap.objs.size + 1)) s') E' { s with heap := copyHeap s.heap vs }) :
    wpAny (model prog w) A (call (.builtin "sorted") [.ref l]) Q E s := by
  refine call_function_entry_kw kind_sorted plain_sorted entry_sorted (args_sorted1 _) ?_
  unfold Builtin.«sorted»
  refine wpAny_bind (m := checkCount "sorted" 1 1 _) (wpAny_pure ?_)
  refine wpAny_bind (collect_tup hl ?_ hL)
  refine wpAny_bind (wpAny_newList ?_ hL)
  have hsz : ((s.heap.push (seqObj "list" #[] 0)).update s.heap.objs.size (Obj.mapSeq (· ++ vs.toArray))).objs.size = s.heap.objs.size + 1 := by
    rw [Heap.size_update, size_push']
  show wpAny _ _ _ _ _ { s with heap := copyHeap s.heap vs }
  rw [hsz]
  refine wpAny_bind (wpAny_holding (wpAny_call_entry_kw slot_list_sort ⟨_, copyHeap_at s.heap vs, rfl⟩ entry_list_sort ?body (args_list_sort _)))
  case body =>
    show wpAny (model prog w) A.in1.in1 (Builtin.«list.sort» ⟨[.ref (s.heap.objs.size + 1)], []⟩) _ _ _
    refine wpAny_mono (body _) (fun f s' hf => ?_) fun _ _ e => e
    obtain ⟨rfl, hq⟩ := hf
    exact ⟨_, rfl, wpAny_pure ⟨_, rfl, hq⟩⟩
theorem sorted_tdata {l : Addr} {bs : List β} {enc : β → PyData} {R : Value → β → Prop} {Q : Value → Shared → Prop} (hl : s.heap.IsTuple l vs.toArray) (e : EachIs R vs bs) (er : EachIs (fun v b => ∃ as, Reads s.heap v (enc b) as) vs bs) (hal : AllAlike (bs.map enc)) (hk : Sortable (bs.map enc)) (hL : bs.length ≤ sizeLine)
    (hu : ∀ b, b ∈ bs → A.units + 2 + (enc b).depth < cLine) (h : ∀ out, out.length = bs.length → EachIs R out (bs.mergeSort (dataLe false enc)) → Q (.ref (s.heap.objs.size + 1)) { s with heap := sortedAll s.heap vs (List.toArray out) }) :
    wpAny (model prog w) A (call (.builtin "sorted") [.ref l]) Q E s := by
  have er' : EachIs (fun v b => ∃ as, Reads (sortingHeap (copyHeap s.heap vs) (s.heap.objs.size + 1) vs) v (enc b) as) vs bs := er.mono fun _ _ ⟨as, r⟩ => ⟨as, PyProof.Rows.Reads.keeps (fun _ _ => sorting_copy_old) r⟩
  have S := SortsAt.data (prog := prog) (w := w) (A := A.in1.in1) (s := { s with heap := sortingHeap (copyHeap s.heap vs) (s.heap.objs.size + 1) vs }) (each_map (R := fun v d => ∃ as, Reads (sortingHeap (copyHeap s.heap vs) (s.heap.objs.size + 1) vs) v d as) enc er') hal hk (bound_map hu)
  have hL' : vs.length ≤ sizeLine := by rw [e.length]; exact hL
  exact sorted_of_sortT hl hL' fun _ => list_sort_vals (s := { s with heap := copyHeap s.heap vs }) (copyHeap_at s.heap vs) S hL' ⟨rfl, h _ (by rw [sortVals_length false rfl]; exact e.length) (sortVals_data false e er' hal)⟩
end
end PySem.W
namespace Mi
open PySem PySem.Spec PyProof.Rows L2
section
variable {X : Cx}
abbrev leI (a b : List Int) : Bool := decide (a ≤ b)
def TI (K : PySem.W.Frag) (H : Hp) (x : V) (ns : List Int) : Prop := ∃ t, x = .ref t ∧ H t = some (.tup (ns.map V.int))
theorem dp_ints (K : PySem.W.Frag) (H : Hp) : ∀ is : List Int, DpAll K H (is.map V.int) (is.map PyData.int)
  | [] => .nil
  | i :: is => .cons (.int i) (dp_ints K H is)
def rSortTT (K : PySem.W.Frag) : List V → Hp → VK → Prop := fun vs H Q => ∃ (a : Addr) (xs : List V) (bs : List (List Int)), vs = [V.ref a] ∧ SqT K H a xs ∧ PySem.W.EachIs (TI K H) xs bs ∧ (∀ b ∈ bs, b ≠ []) ∧
  ∀ (ys : List V) (p : Addr), PySem.W.EachIs (TI K H) ys (bs.mergeSort leI) → H p = none → Q (.ref p) (upd H p (.lst ys))
theorem each_vals {R : V → List Int → Prop} : ∀ {xs : List V} {us : List Value} {bs : List (List Int)}, Vals xs us → PySem.W.EachIs R xs bs → PySem.W.EachIs (fun u b => ∃ x, RelV x u ∧ R x b) us bs
  | _, _, _, .nil, .nil => .nil
  | _, _, _, .cons r t, .cons e q => .cons ⟨_, r, e⟩ (each_vals t q)
theorem each_back {R : V → List Int → Prop} : ∀ {us : List Value} {bs : List (List Int)}, PySem.W.EachIs (fun u b => ∃ x, RelV x u ∧ R x b) us bs → ∃ xs, Vals xs us ∧ PySem.W.EachIs R xs bs
  | _, _, .nil => ⟨[], .nil, .nil⟩
  | _, _, .cons ⟨x, r, e⟩ q => by
    obtain ⟨xs, a, b⟩ := each_back q
    exact ⟨x :: xs, .cons r a, .cons e b⟩
theorem c_sortTT (hu : X.A.units + 64 < cLine) : CallR X (.builtin "sorted") (rSortTT X.K) := by
  intro pins s σ H vs us Q I r h
  obtain ⟨a, xs, bs, rfl, hs, he, hne, q⟩ := h
  obtain ⟨its, rv, hl, hz⟩ := I.tuple hs
  rw [Vals.ref1 r]
  have e1 := each_vals rv he
  have er : PySem.W.EachIs (fun v b => ∃ as, Reads s.heap v (PyData.tuple (b.map .int)) as) its bs := e1.mono fun u b ⟨x, rx, t, et, ht⟩ => Dp.reads I _ x u (by rw [et]; exact .tup (SqT.of ht) (dp_ints ..)) rx
  refine PySem.W.sorted_tdata (enc := fun b : List Int => PyData.tuple (b.map .int)) (show s.heap.IsTuple a its.toArray from hl) e1 er ?_ ?_ ?_ ?_ fun out h1 h2 => ?_
  · exact PySem.W.AllAlike.of fun b b' => by
      simp [PySem.W.alike, PySem.W.alike_ints]
  · refine .inl fun d hd => ?_
    obtain ⟨b, hb, rfl⟩ := List.mem_map.mp hd
    obtain ⟨x, r, rfl⟩ := List.exists_cons_of_ne_nil (hne b hb)
    exact ⟨_, _, rfl⟩
  · rw [← e1.length, ← rv.length]; exact hz
  · intro b hb
    show X.A.units + 2 + (PyData.tuple (b.map .int)).depth < cLine
    rw [PyData.depth, PySem.W.depth_ints]
    omega
  · rw [PySem.W.dataLe_tups (fun b => b)] at h2
    obtain ⟨ys, y1, y2⟩ := each_back h2
    obtain ⟨ep, he'⟩ := PyProof.Rows.sortedAll_at s.heap its out.toArray
    have hlen : ys.length ≤ sizeLine := by
      rw [y1.length, h1, ← e1.length, ← rv.length]; exact hz
    exact ⟨.ref _, upd H (s.heap.objs.size + 1) (.lst ys), I.laid (t' := s.toks) (fun _ _ => PyProof.Rows.sortedAll_old) (Nat.le_succ _) ⟨hlen, out, ep, y1, he'⟩, rfl, q _ _ y2 (I.hok.fresh (Nat.le_succ _))⟩
def tiOf : Val → Option (List Int)
  | .tup vs => match vs.mapM intOf with
    | some (i :: is) => some (i :: is)
    | _ => none
  | _ => none
def tiV (is : List Int) : Val := .tup (is.map .int)
theorem tiOf_ok {v : Val} {is : List Int} (e : tiOf v = some is) : v = tiV is ∧ is ≠ [] := by
  unfold tiOf at e
  split at e
  · split at e
    · rename_i e1
      cases e
      exact ⟨congrArg Val.tup (mapM_ints e1), by simp⟩
    · cases e
  · cases e
theorem tis_ok : ∀ {vs : List Val} {bs : List (List Int)}, vs.mapM tiOf = some bs → vs = bs.map tiV ∧ ∀ b ∈ bs, b ≠ []
  | [], bs, e => by rw [List.mapM_nil] at e; cases e; exact ⟨rfl, by simp⟩
  | v :: vs, bs, e => by
    rw [List.mapM_cons] at e
    cases e1 : tiOf v with
    | none => rw [e1] at e; cases e
    | some b =>
      cases e2 : vs.mapM tiOf with
      | none => rw [e1, e2] at e; cases e
      | some cs =>
        rw [e1, e2] at e
        cases e
        obtain ⟨a1, a2⟩ := tiOf_ok e1
        obtain ⟨b1, b2⟩ := tis_ok e2
        refine ⟨by rw [List.map_cons, ← a1, ← b1], fun c hc => ?_⟩
        rcases List.mem_cons.mp hc with rfl | hc
        · exact a2
        · exact b2 c hc
theorem tis_each {K : PySem.W.Frag} {ρ : List Addr} {H : Hp} : ∀ {bs : List (List Int)} {xs : List V}, RVs K ρ H (bs.map tiV) xs → PySem.W.EachIs (TI K H) xs bs
  | [], _, .nil => .nil
  | b :: bs, _, .cons r t => by
    refine .cons ?_ (tis_each t)
    unfold tiV at r
    cases r with
    | @tup _ a xs q r2 => exact ⟨a, rfl, by rw [← r2.ints]; exact q⟩
theorem tis_forth {K : PySem.W.Frag} {ρ : List Addr} {H : Hp} : ∀ {bs : List (List Int)} {xs : List V}, PySem.W.EachIs (TI K H) xs bs → RVs K ρ H (bs.map tiV) xs
  | _, _, .nil => .nil
  | _, _, .cons ⟨t, e, q⟩ r => by
    refine .cons ?_ (tis_forth r)
    subst e
    exact .tup q (RVs.of_ints _)
def fSortT (as : List Opd) (h : MH) : Res Cell := match as with
  | [.val (.tup vs)] => match vs.mapM tiOf with
    | some bs => some (.lst ((bs.mergeSort leI).map tiV), h)
    | none => fSorted as h
  | _ => fSorted as h
abbrev rSortedMT (K : PySem.W.Frag) : List V → Hp → VK → Prop := fun xs H Q => rSortTT K xs H Q ∨ rSortedM K xs H Q
theorem c_sortT (hu : X.A.units + 64 < cLine) : CallR X (.builtin "sorted") (rSortedMT X.K) := (c_sortTT hu).or c_sorted
theorem g_sortT : CallG X (RNew X.K) (rSortedMT X.K) fSortT := fun ρ H h as xs v h' Q S ra e G => by
  unfold fSortT at e
  split at e
  · split at e
    · rename_i vs bs e1
      cases e
      obtain ⟨x, rfl, r⟩ := ros_one ra
      obtain ⟨p, ys, rfl, q, r⟩ := rv_tup r
      obtain ⟨a1, a2⟩ := tis_ok e1
      rw [a1] at r
      exact .inl ⟨p, ys, bs, rfl, SqT.of q, tis_each r, a2, fun zs l h1 hl => good_lst S (tis_forth h1) G hl⟩
    · exact .inr (g_sorted ρ H h _ xs v h' Q S ra e G)
  · exact .inr (g_sorted ρ H h _ xs v h' Q S ra e G)
end
end Mi

set_option Elab.async false
set_option linter.all false
set_option maxRecDepth 100000
set_option maxHeartbeats 4000000
set_option autoImplicit false
namespace Mi
open PySem PySem.Spec PyProof.Rows L2
def permL {α : Type} (p : List Nat) (l : List α) : List α := p.filterMap fun i => l[i]?
theorem perm_paired {α β : Type} {R : α → β → Prop} {vs : List α} {us : List β} (hl : vs.length = us.length) (h : ∀ (i : Nat) (a : α) (b : β), vs[i]? = some a → us[i]? = some b → R a b) : ∀ p : List Nat, (permL p vs).length = (permL p us).length ∧ ∀ (i : Nat) (a : α) (b : β), (permL p vs)[i]? = some a → (permL p us)[i]? = some b → R a b
  | [] => ⟨rfl, fun i a b e => by simp [permL] at e⟩
  | k :: p => by
    obtain ⟨h1, h2⟩ := perm_paired hl h p
    by_cases hk : k < vs.length
    · have e1 : vs[k]? = some vs[k] := List.getElem?_eq_getElem hk
      have e2 : us[k]? = some (us[k]'(by omega)) := List.getElem?_eq_getElem (by omega)
      have f1 : permL (k :: p) vs = vs[k] :: permL p vs := by unfold permL; rw [List.filterMap_cons, e1]
      have f2 : permL (k :: p) us = us[k]'(by omega) :: permL p us := by unfold permL; rw [List.filterMap_cons, e2]
      rw [f1, f2]
      refine ⟨by simp [h1], fun i a b ea eb => ?_⟩
      cases i with
      | zero =>
        simp at ea eb
        subst ea; subst eb
        exact h k _ _ e1 e2
      | succ i =>
        simp at ea eb
        exact h2 i a b ea eb
    · have e1 : vs[k]? = none := List.getElem?_eq_none (by omega)
      have e2 : us[k]? = none := List.getElem?_eq_none (by omega)
      have f1 : permL (k :: p) vs = permL p vs := by unfold permL; rw [List.filterMap_cons, e1]
      have f2 : permL (k :: p) us = permL p us := by unfold permL; rw [List.filterMap_cons, e2]
      rw [f1, f2]
      exact ⟨h1, h2⟩
theorem vals_get : ∀ {vs : List V} {us : List Value}, Vals vs us → ∀ (i : Nat) (a : V) (b : Value), vs[i]? = some a → us[i]? = some b → RelV a b
  | _, _, .nil, i, a, b, e, _ => by simp at e
  | _, _, .cons r t, 0, a, b, e, f => by simp at e f; subst e; subst f; exact r
  | _, _, .cons r t, i + 1, a, b, e, f => vals_get t i a b (by simpa using e) (by simpa using f)
theorem vals_of : ∀ {vs : List V} {us : List Value}, vs.length = us.length → (∀ (i : Nat) (a : V) (b : Value), vs[i]? = some a → us[i]? = some b → RelV a b) → Vals vs us
  | [], [], _, _ => .nil
  | v :: vs, u :: us, hl, h => .cons (h 0 v u rfl rfl) (vals_of (by simpa using hl) fun i a b e f => h (i + 1) a b (by simpa using e) (by simpa using f))
theorem perm_vals {vs : List V} {us : List Value} (r : Vals vs us) (p : List Nat) : Vals (permL p vs) (permL p us) := by
  obtain ⟨a, b⟩ := perm_paired r.length (vals_get r) p
  exact vals_of a b
section
variable {K : PySem.W.Frag} {ρ : List Addr} {H : Hp}
theorem rvs_get : ∀ {vs : List Val} {us : List V}, RVs K ρ H vs us → ∀ (i : Nat) (a : Val) (b : V), vs[i]? = some a → us[i]? = some b → RV K ρ H a b
  | _, _, .nil, i, a, b, e, _ => by simp at e
  | _, _, .cons r t, 0, a, b, e, f => by simp at e f; subst e; subst f; exact r
  | _, _, .cons r t, i + 1, a, b, e, f => rvs_get t i a b (by simpa using e) (by simpa using f)
theorem rvs_of : ∀ {vs : List Val} {us : List V}, vs.length = us.length → (∀ (i : Nat) (a : Val) (b : V), vs[i]? = some a → us[i]? = some b → RV K ρ H a b) → RVs K ρ H vs us
  | [], [], _, _ => .nil
  | v :: vs, u :: us, hl, h => .cons (h 0 v u rfl rfl) (rvs_of (by simpa using hl) fun i a b e f => h (i + 1) a b (by simpa using e) (by simpa using f))
theorem perm_rvs {vs : List Val} {us : List V} (r : RVs K ρ H vs us) (p : List Nat) : RVs K ρ H (permL p vs) (permL p us) := by
  obtain ⟨a, b⟩ := perm_paired r.length (rvs_get r) p
  exact rvs_of a b
end
structure KB (K : PySem.W.Frag) (fd : FuncData) (ps ks : List Str) (p : List Nat) : Prop where
  to : ∀ (s : Shared) (ws : List Value), K.In s.heap → ws.length = ks.length → BindsTo s fd ⟨[], ks.zip ws⟩ (ps.zip (permL p ws))
theorem kb_of {K : PySem.W.Frag} {x qual : Str} {params : Arguments} {body : List Stmt} {scope : Scope} {f : Addr} {fd : FuncData} {ps ks : List Str} {p : List Nat} (F : FunD K x qual params body scope [] [] f fd)
    (h : ∀ (kV doc pm : Value) (an : Option Addr) (cdv ct : Value) (ws : List Value), ws.length = ks.length → bindArgs (PySem.W.fnOf x qual params body scope .none kV doc pm an cdv ct) ⟨[], ks.zip ws⟩ = pure (ps.zip (permL p ws))) : KB K fd ps ks p := by
  obtain ⟨oc, od, dV, kV, doc, pm, an, cdv, ct, osl, rfl, lk, hcd, hD, hK⟩ := F.ex
  rcases hD with ⟨_, rfl⟩ | ⟨e, _⟩
  · exact ⟨fun s ws _ hl => .of_eq (h kV doc pm an cdv ct ws hl)⟩
  · exact absurd rfl e
structure DefK (P : Program) (w : World) (K : PySem.W.Frag) (mg : Str → Option Value) (base : Heap) (x : Str) (k : Nat) (F : FM) (ks : List Str) (p : List Nat) : Prop where
  ex : ∃ (f : Addr) (fd : FuncData) (ps : List Str), FnOk P w K mg base (L2.CX P w) k f fd ps (spF K F) ∧ mg x = some (.ref f) ∧ PySem.W.keepIn K (.ref f) = true ∧ KB K fd ps ks p
section
variable {X : Cx} {c : Ctx} {W : WX}
theorem run_fnS0 {CX : CXT} {k : Nat} {f : Addr} {fd : FuncData} {ps ks : List Str} {sp : Sp} {E : St → XK} {p : List Nat} {pins : List (Addr × Obj)} {σ : St} {H : Hp} {s : Shared} {Q : VK} {ws : List Value} {zs : List V} (F : FnOk X.prog X.w X.K X.mg X.base CX k f fd ps sp) (hr : Room k X.A) (hb : KB X.K fd ps ks p) (hx : PassesAt CX X σ (E σ))
    (I : Inv X pins σ H s) (r : Vals zs ws) (hl : zs.length = ks.length) (h : sp (permL p zs) H Q (E σ)) : wpAny (model X.prog X.w) X.A (call (.ref f) [] (ks.zip ws)) (EP X pins σ Q) X.xe s := by
  refine wpAny_call (codeAny_mono (F.run X.A X.stack s H ⟨[], ks.zip ws⟩ (permL p ws) (permL p zs) Q (E σ) hr I.env0 (hb.to s ws I.kIn (r.length.symm.trans hl)) (perm_vals r p) h) fun r s' hq => ?_)
  cases r with
  | error e => exact hx pins H s e s' I hq
  | ok fl =>
    cases fl with
    | ret u => exact I.after hq
    | next => exact False.elim hq
    | brk => exact False.elim hq
    | cont => exact False.elim hq
theorem pe_callS0 {CX : CXT} {k : Nat} {f : Addr} {fd : FuncData} {ps ks : List Str} {sp : Sp} {E : St → XK} {p : List Nat} {x : Str} {np pos : Pos} {kws : List Keyword} {tk : TA} (F : FnOk X.prog X.w X.K X.mg X.base CX k f fd ps sp) (hr : Room k X.A) (hg : Gl X x) (hm : X.mg x = some (.ref f)) (hk : PySem.W.keepIn X.K (.ref f) = true) (hb : KB X.K fd ps ks p) (hx : ∀ σ, PassesAt CX X σ (E σ))
    (hkw : PK X kws tk) (hall : (backToKw pos (keywordEach kws X.env)).all (·.1.isSome) = true := by rfl) (hks : (backToKw pos (keywordEach kws X.env)).filterMap (·.1) = ks := by rfl)
    (hdb : (x == ("__debug__" : Str)) = false := by decide)
    (hpl : ((backTo pos (starEach [] X.env)).any (·.1) || (backToKw pos (keywordEach kws X.env)).any (·.1.isNone)) = false := by rfl) :
    PE X (.Call (.Name x np) [] kws pos) (fun σ H Q => tk σ H fun zs H2 => zs.length = ks.length ∧ sp (permL p zs) H2 Q (E σ)) := by
  refine ⟨fun pins s σ H Q I h => ?_⟩
  refine wpAny_Call_Name_kw (ld_glob I hg hm ?_ hdb)
  refine PySem.W.callWith_KW0 (h₀ := X.base) I.ok.mod.kin hk hall (thn (hkw.run pos pins s σ H _ I h) fun ws s2 ⟨zs, H2, I2, rz, q2⟩ => ⟨I2.kIn, ?_⟩) hpl
  rw [hks]
  exact run_fnS0 F hr hb (hx σ) I2 rz q2.1 q2.2
def AK (X : Cx) (c : Ctx) (W : WX) (kws : List Keyword) (m : EM (List Val)) : Prop := PK X kws (rd X.K c W (RVals X.K) m)
theorem PK.imp {kws : List Keyword} {t t' : TA} (p : PK X kws t) (h : ∀ σ H Q, t' σ H Q → t σ H Q) : PK X kws t' := ⟨fun pos pins s σ H Q I q => p.run pos pins s σ H Q I (h σ H Q q)⟩
theorem ak_nil : AK X c W [] vNil := PK.imp pk_nil fun σ H Q ⟨ρ, _, _, S, F⟩ => F ρ [] H .refl S.rs .nil
theorem ak_cons {nm : Option Str} {kpos : Pos} {e : Expr} {kws : List Keyword} {ma : EM Val} {mas : EM (List Val)} (ha : E X c W e ma) (hr : AK X c W kws mas) : AK X c W (⟨nm, e, kpos⟩ :: kws) (vCons ma mas) := by
  refine PK.imp (pk_cons ha hr) fun σ H Q ⟨ρ, env, h, S, F⟩ => ⟨ρ, env, h, S, ?_⟩
  refine (Fin.bind (R := RVal X.K) mon_vals F).mono fun x H1 ⟨a, h1, ρ1, e1, s1, r1, F1⟩ => ?_
  refine ⟨ρ1, env, h1, S.step e1 s1, ?_⟩
  refine (Fin.bind (R := RVals X.K) mon_vals F1).mono fun xs H2 ⟨as, h2, ρ2, e2, s2, r2, F2⟩ => ?_
  exact F2 ρ2 (x :: xs) H2 .refl s2 (.cons (RV.mono s1 e2 r1) r2)
def xFnK (F : FM) (n : Nat) (p : List Nat) (m : EM (List Val)) : EM Val := fun env h => (m env h).bind fun args h1 => if args.length = n then F (permL p args) h1 else .stuck
theorem e_fnK0 {F : FM} {m : EM (List Val)} {k : Nat} {x : Str} {np pos : Pos} {kws : List Keyword} {ks : List Str} {p : List Nat} (d : DefK X.prog X.w X.K X.mg X.base x k F ks p) (hr : Room k X.A) (tk : Takes X W) (ha : AK X c W kws m) (hg : Gl X x := by rfl)
    (hall : (backToKw pos (keywordEach kws X.env)).all (·.1.isSome) = true := by rfl) (hks : (backToKw pos (keywordEach kws X.env)).filterMap (·.1) = ks := by rfl)
    (hdb : (x == ("__debug__" : Str)) = false := by decide)
    (hpl : ((backTo pos (starEach [] X.env)).any (·.1) || (backToKw pos (keywordEach kws X.env)).any (·.1.isNone)) = false := by rfl) :
    E X c W (.Call (.Name x np) [] kws pos) (xFnK F ks.length p m) := by
  obtain ⟨f, fd, ps, ok, hm, hk, hb⟩ := d.ex
  refine PE.imp (pe_callS0 ok hr hg hm hk hb (fun σ => passAt tk σ) ha hall hks hdb hpl) fun σ H Q ⟨ρ, env, h, S, Fi⟩ => ⟨ρ, env, h, S, ?_⟩
  refine (Fin.bind (R := RVals X.K) mon_val Fi).mono fun xs H1 ⟨args, h1, ρ1, e1, s1, r1, F1⟩ => ?_
  split at F1
  · rename_i hl
    refine ⟨(r1.length).symm.trans hl, ρ1, permL p args, h1, s1, perm_rvs r1 p, ?_⟩
    cases q : F (permL p args) h1 with
    | ok v h' => rw [q] at F1; exact fun ρ' x H' ex s r => F1 ρ' x H' ex s r
    | exc e' h' => rw [q] at F1; exact fun ρ' cls d H' ex s r => F1 ρ' cls d H' ex s r
    | stuck => rw [q] at F1; exact F1
  · exact F1.elim
structure PV (X : Cx) (c : Ctx) (W : WX) (pos : Pos) (keys : List (Option Expr)) (values : List Expr) (ks : List Str) (m : EM (List Val)) : Prop where
  ex : ∃ trs, PPs X pos keys values trs ∧ ∀ (σ : St) (H : Hp) (Q : List (V × V) → Hp → Prop), rd X.K c W (RVals X.K) m σ H (fun xs H1 => Q ((ks.map V.str).zip xs) H1) → tPairs trs σ H Q
theorem dv_nil {pos : Pos} : PV X c W pos [] [] [] vNil := ⟨[], pps_nil, fun σ H Q ⟨ρ, _, _, S, F⟩ => F ρ [] H .refl S.rs .nil⟩
theorem dv_cons {pos kp : Pos} {k : Str} {j} {v : Expr} {keys : List (Option Expr)} {values : List Expr} {ks : List Str} {mv : EM Val} {m : EM (List Val)} (hv : E X c W v mv) (hr : PV X c W pos keys values ks m) :
    PV X c W pos (some (.Constant (.str k) j kp) :: keys) (v :: values) (k :: ks) (vCons mv m) := by
  obtain ⟨trs, pps, himp⟩ := hr.ex
  refine ⟨_, pps_cons pe_str hv pps, fun σ H Q ⟨ρ, env, h, S, F⟩ => ?_⟩
  show rd X.K c W (RVal X.K) mv σ H _
  refine ⟨ρ, env, h, S, (Fin.bind (R := RVal X.K) mon_vals F).mono fun y H2 ⟨a, h1, ρ1, e1, s1, r1, F1⟩ => ?_⟩
  refine himp σ H2 _ ⟨ρ1, env, h1, S.step e1 s1, (Fin.bind (R := RVals X.K) mon_vals F1).mono fun xs H3 ⟨as, h2, ρ2, e2, s2, r2, F2⟩ => ?_⟩
  exact F2 ρ2 (y :: xs) H3 .refl s2 (.cons (RV.mono s1 e2 r1) r2)
def xDisp (ks : List Str) (m : EM (List Val)) : EM Cell := fun env h => (m env h).bind fun vs h1 => if vs.length = ks.length then .ok (.dK ((ks.map (Sum.inr : Str → Key)).zip vs)) h1 else .stuck
theorem zip_kv : ∀ (ks : List Str) (xs : List V), (ks.map V.str).zip xs = ((ks.map (Sum.inr : Str → Key)).zip xs).map fun kv => (kV kv.1, kv.2)
  | [], _ => rfl
  | k :: ks, [] => rfl
  | k :: ks, x :: xs => by
    show (V.str k, x) :: (ks.map V.str).zip xs = (kV (Sum.inr k), x) :: _
    rw [zip_kv ks xs]
    rfl
theorem zip_keys {α : Type} : ∀ (ks : List Key) (xs : List α), xs.length = ks.length → (ks.zip xs).map (·.1) = ks ∧ (ks.zip xs).map (·.2) = xs
  | [], [], _ => ⟨rfl, rfl⟩
  | k :: ks, x :: xs, h => by
    obtain ⟨a, b⟩ := zip_keys ks xs (by simpa using h)
    exact ⟨by simp [a], by simp [b]⟩
theorem merge_nodup : ∀ (more acc : List (Key × V)), (acc.map (·.1) ++ more.map (·.1)).Nodup → mergeK acc more = acc ++ more
  | [], acc, _ => by simp [mergeK]
  | (k, v) :: more, acc, h => by
    have hk : k ∉ acc.map (·.1) := fun hm => (List.nodup_append.mp h).2.2 k hm k (by simp) rfl
    have e : putK acc k v = acc ++ [(k, v)] := by
      unfold putK
      rw [if_neg]
      intro z
      obtain ⟨kv, hm, q⟩ := List.any_eq_true.mp z
      exact hk (List.mem_map.mpr ⟨kv, hm, of_decide_eq_true q⟩)
    show mergeK (putK acc k v) more = _
    rw [e, merge_nodup more (acc ++ [(k, v)]) (by simpa using h)]
    simp
theorem n_disp {pos : Pos} {keys : List (Option Expr)} {values : List Expr} {ks : List Str} {m : EM (List Val)} (hp : PV X c W pos keys values ks m) (hnd : (ks.map (Sum.inr : Str → Key)).Nodup) (hk15 : ks.length ≤ 15)
    (hall : keys.all (·.isSome) = true := by rfl) (hl : keys.length = values.length := by rfl) (h0 : keys ≠ [] := by intro z; cases z) (h15 : keys.length ≤ 15 := by decide) : EC X c W (.Dict keys values pos) (xDisp ks m) := by
  obtain ⟨trs, pps, himp⟩ := hp.ex
  refine PE.imp (pe_disp pps hall hl h0 h15) fun σ H Q ⟨ρ, env, h, S, F⟩ => fun p hp => himp σ (upd H p (.dK [])) _ ⟨ρ, env, h, S.step (.new1 hp) (S.rs.new1 hp), ?_⟩
  have hpρ : p ∉ ρ := S.rs.notNone hp
  unfold xDisp at F
  cases q : m env h with
  | ok vs h1 =>
    rw [q] at F
    intro ρ1 xs H1 e1 s1 r1
    have F : Fin X.K W σ (RNew X.K) ρ H Q (if vs.length = ks.length then .ok (.dK ((ks.map (Sum.inr : Str → Key)).zip vs)) h1 else .stuck) := F
    split at F
    · rename_i hlen
      have hxl : xs.length = ks.length := (r1.length).symm.trans hlen
      have hH1 : H1 p = some (.dK []) := e1.keep p _ upd_same hpρ
      have hp1 : p ∉ ρ1 := fun hm => by
        rcases e1.new p hm with z | z
        · exact hpρ z
        · rw [upd_same] at z; cases z
      have nt : ∀ ys, ¬ Rd H1 p (.tup ys) := fun ys z => by
        rcases z with z | ⟨_, z⟩ <;> (rw [hH1] at z; cases z)
      obtain ⟨k1, k2⟩ := zip_keys (ks.map (Sum.inr : Str → Key)) xs (by simpa using hxl)
      obtain ⟨k3, k4⟩ := zip_keys (ks.map (Sum.inr : Str → Key)) vs (by simpa using hlen)
      refine ⟨hH1, (ks.map (Sum.inr : Str → Key)).zip xs, zip_kv ks xs, by simp; omega, ?_⟩
      rw [merge_nodup _ [] (by rw [k1]; simpa using hnd), List.nil_append]
      refine F ρ1 (.ref p) _ ⟨e1.pre, fun b o eb nb => ?_, fun b hb => ?_⟩ ⟨s1.len, s1.nd, fun n c a ea eb => (s1.cell n c a ea eb).gen (fun b xs q => sqT_upd nt q) (fun _ _ z => z) (upd_ne fun z => hp1 (z ▸ List.mem_of_getElem? eb))⟩ ⟨p, rfl, hp, hp1, _, upd_same, ?_, ?_⟩
      · have hbp : b ≠ p := fun z => by rw [z, hp] at eb; cases eb
        rw [upd_ne hbp]
        exact e1.keep b o (by rw [upd_ne hbp]; exact eb) nb
      · rcases e1.new b hb with z | z
        · exact .inl z
        · by_cases hbp : b = p
          · rw [hbp]; exact .inr hp
          · rw [upd_ne hbp] at z; exact .inr z
      · rw [k1, k3]
      · rw [k2, k4]
        exact r1.gen (fun b xs q => sqT_upd nt q) (fun _ _ z => z)
    · exact F.elim
  | exc e h1 =>
    rw [q] at F
    exact fun ρ1 cls d H1 e1 s1 r1 => F ρ1 cls d H1 ((Ex.new1 hp).trans e1) s1 r1
  | stuck => rw [q] at F; exact F
end
end Mi

set_option Elab.async false
set_option linter.all false
set_option maxRecDepth 100000
set_option maxHeartbeats 2000000
set_option autoImplicit false
namespace Mi
open PySem PySem.W PySem.Calls PySem.Spec PyProof.Rows PySem.HandSPX L2
namespace Two
def iA (p1 p2 p3 : Pos) : Arguments := { posonlyargs := [], args := [{ arg := "self", annotation := none, pos := p1 }, { arg := "at", annotation := none, pos := p2 }, { arg := "word", annotation := none, pos := p3 }], vararg := none, kwonlyargs := [], kw_defaults := [], kwarg := none, defaults := [] }
def iB (q1 q2 q3 q4 q4b q5 q6 q7 q8 q9 q10 r7 r8 r9 r10 : Pos) : List Stmt := [.Expr (.Call (.Attribute (.Call (.Name "super" q1) [] [] q2) "__init__" q3) [.Name "at" q4, .Name "word" q4b] [] q5) q6, .Assign [.Attribute (.Name "self" q7) "at" q8] (.Name "at" q9) q10, .Assign [.Attribute (.Name "self" r7) "word" r8] (.Name "word" r9) r10]
def iS : Scope := { kind := .function, names := [(PySem.Str.ofString "self", .local), (PySem.Str.ofString "at", .local), (PySem.Str.ofString "word", .local), (PySem.Str.ofString "__class__", .free), (PySem.Str.ofString "super", .globalImplicit)], isGenerator := false, isCoroutine := false, more := [] }
structure BsTxt (P : Program) (K : Frag) (mg : Str → Option Value) (x q : Str) (C fI : Addr) : Prop where
  gC : mg x = some (.ref C)
  gS : mg "super" = none
  pS : (List.lookup ("super" : Str) P.main.scope.names).isSome = false
  cls : ∃ nm q N bs bm sn sub ab col dd k0 k1 k2 k3 k5, K.lookup C = some (excClassObj nm q C N bs bm true sn sub ab col dd k0 k1 k2 k3 k5 "ValueError.__new__") ∧ refsVE bm = true
  ini : excInitIn K C veTail "ValueError.__new__" = true
  st : nsIn K cStatics "thirdparty.any" = some none
  sup : ks_superIn K C C "__init__" = some (some (.builtin "ValueError.__init__"))
  sV : subIn K (.ref C) (.type "ValueError") = some true
  self : mroIn K C (.ref C) = some true
  sa : findIn K (.ref C) "__setattr__" = some (some (.builtin "object.__setattr__"))
  noN : findIn K (.ref C) "at" = some none
  noN2 : findIn K (.ref C) "word" = some none
  iC : findIn K (.ref C) "__init__" = some (some (.ref fI))
  tC : typeIn K (.ref fI) = some (.type "function")
  kC : keepIn K (.ref C) = true
  exC : subIn K (.ref C) (.type "BaseException") = some true
  tyC : typeIn K (.ref C) = some (.type "type")
  fn : ∃ (oc : Value) (od : Option Addr) (doc pm : Value) (an : Option Addr) (cda : Addr) (ct : Value) (osl : Array (Option Value)) (p1 p2 p3 q1 q2 q3 q4 q4b q5 q6 q7 q8 q9 q10 r7 r8 r9 r10 : Pos) (cc : Addr) (cl ccl : Value) (cld cdd : Option Addr) (csl ccs : Array (Option Value)) (vs : Array Value) (file : Str) (tf : Tok),
    K.lookup fI = some ⟨oc, od, .func (ksFn "__init__" q (iA p1 p2 p3) (iB q1 q2 q3 q4 q4b q5 q6 q7 q8 q9 q10 r7 r8 r9 r10) iS .none .none doc pm an (.ref cda) ct cc), osl⟩ ∧ codeIn K (.ref cda) q = true ∧
    K.lookup cc = some ⟨cl, cld, .cell (some (.ref C)), csl⟩ ∧ K.lookup cda = some ⟨ccl, cdd, .fields vs, ccs⟩ ∧ vs[2]? = some (.str file tf) ∧ (P.main.file == file) = true ∧ (q3.endLine == q5.line) = true
theorem two_size (v u : Value) : [v, u].length ≤ sizeLine := by
  rw [sizeLine_eq]
  exact (by decide : 2 ≤ 16777216)
def two (v u : Value) : Str → Option Value := fun y => if y = "word" then some u else if y = "at" then some v else none
structure InitEnd (h h' : Heap) (x C dx t1 : Addr) (v u : Value) : Prop where
  keep : ∀ b o, h.get? b = some o → h'.get? b = some o
  obj : h'.get? x = some { cls := .ref C, dict := some dx, data := .fields #[.ref t1, .none, .none, .none, .bool false, .none] }
  dbig : h.objs.size ≤ dx
  dne : dx ≠ x
  ns : h'.Ns1 dx (two v u)
section
variable {prog : Program} {w : World} {A : Around} {R : Result → Shared → Prop} {s : Shared} {K : Frag} {mg mb : Str → Option Value} {C fI : Addr} {cn q : Str}
theorem bs_init (T : BsTxt prog K mg cn q C fI) {h0 : Heap} {x t0 : Addr} {v v2 : Value} (X0 : K.In h0) (k0 : ∀ b o, h0.get? b = some o → s.heap.get? b = some o) (n0 : h0.get? x = none) (hg : s.heap.Ns mainGlobals mg) (hb : s.heap.Ns builtinsNs mb) (hbs : mb "super" = some (.type "super")) (hlim : s.heap.NoLimit) (hx : s.heap.get? x = some (excO C t0)) (hroom : A.depth < recursionLimit)
    (hsz : h0.objs.size ≤ s.heap.objs.size)
    (hq : ∀ h' tk dx t1, InitEnd h0 h' x C dx t1 v v2 → R (.ok (.ret .none)) { s with heap := h', toks := tk }) :
    codeAny (model prog w) A (.call (.ref fI) ⟨[.ref x, v, v2], []⟩) R s := by
  obtain ⟨oc, od, doc, pm, an, cda, ct, osl, p1, p2, p3, q1, q2, q3, q4, q4b, q5, q6, q7, q8, q9, q10, r7, r8, r9, r10, cc, cl, ccl, cld, cdd, csl, ccs, vs, file, tf, ho, hcd, hcc, hca, hvs, hfile, hline⟩ := T.fn
  obtain ⟨nm, qq, N, bs, bm, sn, sub, ab, col, dd, k1, k2, k3, k4, k5, hC, hbm⟩ := T.cls
  have X : K.In s.heap := X0.keeps k0
  have hcl : clsIn K C = some { name := nm, bases := bs, mro := .ref C :: bm, ns := N, qualname := qq, hasDict := true, slotNames := sn, subclasses := sub, abstract := ab, collection := col, hasDel := false } := by unfold clsIn; rw [hC] <;> rfl
  have hxL : s.heap.objs.size ≠ x := Nat.ne_of_gt (Heap.lt_size hx)
  refine ks_codeAny_call_defAt (binds := [("self", .ref x), ("at", v), ("word", v2)]) hroom (X _ _ ho) rfl hlim (codeRec_of X hcd) rfl (BindsTo.of_eq (by first | rfl | with_unfolding_all rfl)) (fun y hy => (by decide +kernel : ∀ y ∈ iS.names, y.2 ≠ .cell) y hy) (fun y hy => ?_) (fun h₁ hn k => ?_) rfl rfl rfl
  · simp only [List.mem_cons, List.not_mem_nil, or_false] at hy
    rcases hy with rfl | rfl | rfl <;> rfl
  have hx₁ := k _ _ hx
  have X₁ : K.In h₁ := X.keeps k
  show PySem.wpAt _ _ _ (execs (_ :: _) _) _ _ _
  refine ks_wpAt_execs_cons ?_
  refine ks_wpAt_Expr_any ?_ rfl rfl
  refine ks_wpAt_MethodCall ?_ (ev_line hline rfl fun _ => rfl)
  refine ks_wpAt_super_base (f := fI) (cc := cda) rfl rfl (by decide) rfl (X₁ _ _ ho) rfl rfl rfl (X₁ _ _ hca) rfl hvs hfile T.pS ?_
  refine ks_loadName_global rfl rfl (loadGlobal_builtin (hg.keeps k) T.gS (hb.keeps k) hbs ?_)
  refine ⟨rfl, ?_⟩
  refine wpAny_loadName_free (c := cc) rfl rfl rfl ⟨_, X₁ _ _ hcc, rfl⟩ ?_
  refine wpAny_loadName_local rfl rfl hn rfl ?_
  refine ks_wpAny_isType_cls (X₁ _ _ hC) rfl ⟨rfl, ?_⟩
  refine ks_wpAny_call_super (X₁ _ _ hC) rfl hx₁ rfl (fun c z => by cases z) (looks_mroIn X₁ T.self) fun h₂ hso k2 => ?_
  have hL : s.heap.objs.size < h₁.objs.size := hn.lt
  have old : ∀ {a : Addr}, h0.objs.size ≤ a → h0.get? a = none := fun {a} ha => by
    cases e : h0.get? a with
    | none => rfl
    | some o => exact absurd (Heap.lt_size e) (Nat.not_lt.mpr ha)
  have hx₂ := k2 _ _ hx₁
  have Fr2 : Fr h0 s.heap.objs.size h₂ _ := ⟨hn.keeps k2, fun b o e => k2 b o (k b o (k0 b o e)), hsz⟩
  have Nw2 : News h0 s.heap.objs.size h₂ [(h₁.objs.size, ks_superObj C x C), (x, excObj C t0 none .none)] := by
    intro p hp
    simp only [List.mem_cons, List.not_mem_nil, or_false] at hp
    rcases hp with rfl | rfl
    · exact ⟨hso, Nat.ne_of_gt hL, old (by show h0.objs.size ≤ h₁.objs.size; omega)⟩
    · exact ⟨hx₂, Ne.symm hxL, n0⟩
  refine kxs_method kxs_ValueError Fr2 X0 Nw2 List.mem_cons_self (ox := excO C t0) (odx := none) ⟨hx₂, rfl, rfl, trivial⟩ T.st T.sup T.sV (by decide) fun u h₃ Fr3 Nw3 hu => ?_
  refine kxs_callWith1 Nw3 List.mem_cons_self ?_ rfl rfl
  refine spliced_more (wpAny_Name (wpAny_loadName_local rfl rfl Fr3.ns rfl ?_) (by decide)) rfl
  refine spliced_more (wpAny_Name (wpAny_loadName_local rfl rfl Fr3.ns rfl ?_) (by decide)) rfl
  refine spliced_none ⟨kxs_at Nw3 List.mem_cons_self, ?_⟩
  have hxs : x < h₁.objs.size := Heap.lt_size hx₁
  have ux : u ≠ x := Nat.ne_of_gt (hu (x, excObj C t0 none .none) (by simp))
  have sx : h₁.objs.size ≠ x := Nat.ne_of_gt hxs
  refine kxs_call Fr3 X0 Nw3 F.excBase_ValueError T.ini List.mem_cons_self (.tail (p := (u, _)) ux (.tail (p := (h₁.objs.size, _)) sx (.head (by simp)))) (two_size v v2) fun t' h₄ Fr4 Nw4 ht => ?_
  have hx₄ : h₄.get? x = some (excObj C t' none .none) := (Nw4 (x, excObj C t' none .none) (by simp)).1
  have X₄ : K.In h₄ := X0.keeps Fr4.keep
  refine wpAt_of_wpAny ?_
  show wpAny _ _ (execs (_ :: _) _) _ _ _
  refine wpAny_execs_cons (plainObj_wpAny_Assign_Attribute ?_ rfl)
  refine wpAny_Name (wpAny_loadName_local rfl rfl Fr4.ns rfl ?_) (by decide)
  refine wpAny_Name (wpAny_loadName_local rfl rfl Fr4.ns rfl ?_) (by decide)
  refine set_plain X₄ (ox := excObj C t' none .none) (od := none) ⟨hx₄, rfl, rfl, trivial⟩ T.sa ?_
  refine exc_osa X₄ hx₄ hcl (show refsVE (.ref C :: bm) = true from hbm) rfl T.noN (fun h₅ tk₅ dx k₅ dn dne hx₅ hn₅ => ?_)
  have xn0 : ∀ {b : Addr} {o : Obj}, h0.get? b = some o → b ≠ x := fun {b o} e z => by rw [z, n0] at e; cases e
  have X₅ : K.In h₅ := X0.keeps fun b o e => k₅ b o (xn0 e) (Fr4.keep b o e)
  have ns5 := Fr4.ns.at fun o e => k₅ _ o hxL e
  have hw : Within (fun y => if y = ("at" : Str) then some v else none) [("at" : Str)] := fun y hy => by
    by_cases z : y = ("at" : Str)
    · rw [z]; exact List.mem_cons_self
    · exact absurd (if_neg z) hy
  obtain ⟨oD, _, _, hoD, _, _⟩ := hn₅.count hw
  show wpAny _ _ (execs (_ :: _) _) _ _ _
  refine wpAny_execs_cons (plainObj_wpAny_Assign_Attribute ?_ rfl)
  refine wpAny_Name (wpAny_loadName_local rfl rfl ns5 rfl ?_) (by decide)
  refine wpAny_Name (wpAny_loadName_local rfl rfl ns5 rfl ?_) (by decide)
  refine set_plain X₅ (ox := { cls := .ref C, dict := some dx, data := .fields #[.ref t', .none, .none, .none, .bool false, .none] }) (od := some oD) ⟨hx₅, rfl, rfl, hoD⟩ T.sa ?_
  refine PySem.OEX.osa_old X₅ hx₅ hn₅ hw (by decide) hcl (show refsVE (.ref C :: bm) = true from hbm) rfl T.noN2 (fun h₆ tk₆ k₆ hn₆ => ?_)
  show wpAny _ _ (execs _ _) _ _ _
  have z : s.heap.objs.size < h₄.objs.size := Fr4.ns.lt
  have lt4 : ∀ {b : Addr} {o : Obj}, h0.get? b = some o → b ≠ dx := fun {b o} e => Nat.ne_of_lt (Nat.lt_of_lt_of_le (Heap.lt_size (Fr4.keep b o e)) dn)
  refine wpAny_execs_nil (hq h₆ tk₆ dx t' ⟨fun b o e => k₆ b o (lt4 e) (k₅ b o (xn0 e) (Fr4.keep b o e)), k₆ x _ (Ne.symm dne) hx₅, ?_, dne, hn₆⟩)
  have dn' : h₄.objs.size ≤ dx := dn
  omega
structure OwnMade (h h' : Heap) (e C d : Addr) (v u : Value) : Prop where
  keep : ∀ b o, h.get? b = some o → h'.get? b = some o
  new : h.objs.size ≤ e
  obj : ∃ oe vs, h'.get? e = some oe ∧ oe.cls = .ref C ∧ oe.dict = some d ∧ oe.data = .fields vs ∧ vs[1]? = some .none
  dbig : h.objs.size ≤ d
  dne : d ≠ e
  ns : h'.Ns1 d (two v u)
theorem bs_made (T : BsTxt prog K mg cn q C fI) {v v2 : Value} (X : K.In s.heap) (hg : s.heap.Ns mainGlobals mg) (hb : s.heap.Ns builtinsNs mb) (hbs : mb "super" = some (.type "super")) (hlim : s.heap.NoLimit) (hroom : A.depth + 1 < recursionLimit)
    (hq : ∀ h' tk e d, OwnMade s.heap h' e C d v v2 → R (.ok (.ret (.ref e))) { s with heap := h', toks := tk }) :
    codeAny (model prog w) A (.call (.ref C) ⟨[v, v2], []⟩) R s := by
  obtain ⟨nm, qq, N, bs, bm, sn, sub, ab, col, dd, k0, k1, k2, k3, k5, hC, hbm⟩ := T.cls
  obtain ⟨hp, g, dr, tk, os⟩ := s
  have k : ∀ b o, hp.get? b = some o → ((hp.push (kdv_tup [v, v2])).push (excO C hp.objs.size)).get? b = some o := fun b o e => Heap.get?_push_of_some _ (Heap.get?_push_of_some _ e)
  have hget : ((hp.push (kdv_tup [v, v2])).push (excO C hp.objs.size)).get? (hp.objs.size + 1) = some (excO C hp.objs.size) := by heap_get
  have hnx : hp.get? (hp.objs.size + 1) = none := by
    cases e : hp.get? (hp.objs.size + 1) with
    | none => rfl
    | some o => exact absurd (Nat.lt_of_succ_lt (Heap.lt_size e)) (Nat.lt_irrefl _)
  refine call_own F.excBase_ValueError (fun X => refsVE_contains X bm hbm) (X _ _ hC) (looks_findIn X T.iC) (fun self => bind_fn X self T.tC) (two_size v v2) ?_
  refine bs_init (s := ⟨(hp.push (kdv_tup [v, v2])).push (excO C hp.objs.size), g, dr, tk, os⟩) T X k hnx (hg.keeps k) (hb.keeps k) hbs (hlim.keeps k) hget ?_ ?_ fun h' tk' dx t1 ⟨k', hx, dn, dne, hns⟩ => ?_
  · show A.depth + 1 < recursionLimit
    exact hroom
  · show hp.objs.size ≤ ((hp.push (kdv_tup [v, v2])).push (excO C hp.objs.size)).objs.size
    rw [Heap.size_push, Heap.size_push]
    omega
  · exact ⟨rfl, hq h' tk' (hp.objs.size + 1) dx ⟨k', Nat.le_succ _, ⟨_, _, hx, rfl, rfl, rfl, rfl⟩, dn, dne, hns⟩⟩
end

theorem relO_two {v v2 : V} {v' v2' : Value} (r : RelV v v') (r2 : RelV v2 v2') (f : Str) : RelO (List.lookup f [(("at" : Str), v), (("word" : Str), v2)]) (two v' v2' f) := by
  unfold two
  by_cases h1 : f = "at"
  · subst h1
    have e : ("at" : Str) ≠ "word" := by decide
    rw [if_neg e, if_pos rfl]
    have q : List.lookup ("at" : Str) [(("at" : Str), v), (("word" : Str), v2)] = some v := by simp [List.lookup]
    rw [q]
    exact r
  · by_cases hw : f = "word"
    · subst hw
      rw [if_pos rfl]
      have e : (("word" : Str) == ("at" : Str)) = false := by decide
      have q : List.lookup ("word" : Str) [(("at" : Str), v), (("word" : Str), v2)] = some v2 := by simp [List.lookup, e]
      rw [q]
      exact r2
    · rw [if_neg hw, if_neg h1]
      have q1 : (f == ("at" : Str)) = false := by simpa using h1
      have qw : (f == ("word" : Str)) = false := by simpa using hw
      have q2 : List.lookup f [(("at" : Str), v), (("word" : Str), v2)] = none := by simp [List.lookup, q1, qw]
      rw [q2]
      trivial
abbrev fs2 (v v2 : V) : List (Str × V) := [(("at" : Str), v), (("word" : Str), v2)]
def tMkB (C : Addr) (ta : TA) : L2.St → Hp → XK → Prop := fun σ H Q => ta σ H fun vs H1 => ∃ v v2, vs = [v, v2] ∧ ∀ d, H1 d = none → Q (.ref C) (some d) (upd H1 d (.xd (fs2 v v2)))
section
variable {X : Cx} {C fI : Addr} {cn q : Str}
theorem pmk_bs {a b : Expr} {ta : TA} {p pos : Pos} {k : Nat} (T : BsTxt X.prog X.K X.mg cn q C fI) (hr : Room k X.A) (ha : PA X [a, b] ta) (hg : Gl X cn) (hd : (cn == ("__debug__" : Str)) = false)
    (he : starEach (a :: [b]) X.env = (false, eval a X.env) :: starEach [b] X.env := by rfl) (hpl : (backTo pos (starEach [b] X.env)).any (·.1) = false := by rfl) :
    PMk X (.Call (.Name cn p) [a, b] [] pos) (tMkB C ta) := by
  intro pins s σ H Q I h
  refine wpAny_Call_Name_kw (ld_glob I hg T.gC ?_ hd)
  refine PySem.W.callWith_K (h₀ := X.base) I.ok.mod.kin T.kC (thn (ha.run pos pins s σ H _ I h) fun us s1 hh => ?_) he hpl
  obtain ⟨vs, H1, I1, r1, v, v2, ev, q1⟩ := hh
  subst ev
  refine ⟨I1.kIn, ?_⟩
  cases r1 with
  | cons rv rn =>
    rename_i v' us'
    cases rn with
    | cons rv2 rn =>
    rename_i v2' us2'
    cases rn
    show wpAny _ _ (call (.ref C) [v', v2']) _ _ _
    have hlim := I1.nolimit
    obtain ⟨m, fr⟩ := I1.fr
    obtain ⟨mb, hb, hbs⟩ := I1.ok.mod.blt
    have hG := I1.ok.mod.glob.keeps fr.keep
    have hB := hb.keeps fr.keep
    have hS : mb "super" = some (.type "super") := by rw [hbs _ (by decide)]; rfl
    obtain ⟨hp, g, dr, tk, os⟩ := s1
    refine wpAny_call (bs_made T I1.kIn hG hB hS hlim (by have := hr.dp; omega) fun h' tk' e d M => ?_)
    show MkP X pins σ Q (.ref e) ⟨h', g, dr, tk', os⟩
    obtain ⟨oe, fv, hoe, hc, hd, hdat, h1⟩ := M.obj
    have hns := M.ns
    obtain ⟨G', g1, g2⟩ := restrict h' fun b => decide (b ≠ e)
    have gk : ∀ b, b ≠ e → G'.get? b = h'.get? b := fun b hb => g1 b (decide_eq_true hb)
    have ge : G'.get? e = none := g2 e (by simp)
    have old : ∀ b o, hp.get? b = some o → G'.get? b = some o := fun b o q => (gk b (Nat.ne_of_lt (Nat.lt_of_lt_of_le (Heap.lt_size q) M.new))).trans (M.keep b o q)
    have ob : ObjOk X.prog X.w (upd H1 d (.xd (fs2 v v2))) G' d (.xd (fs2 v v2)) :=
      ⟨_, hns.at (fun o q => (gk d M.dne).trans q), fun f => relO_two rv rv2 f⟩
    have J : L2.Inv X pins σ (upd H1 d (.xd (fs2 v v2))) ⟨G', g, dr, tk', os⟩ := I1.laid (t' := tk') old M.dbig ob
    refine ⟨e, oe, fv, ⟨G', g, dr, tk', os⟩, _, .ref C, some d, rfl, J, fun b o q => ?_, ge, hoe, ⟨hc, hd⟩, hdat, h1, ?_, rfl, I1.bare, raises_own T.exC T.tyC, q1 d (I1.hok.fresh M.dbig)⟩
    · by_cases hb : b = e
      · have q' : G'.get? b = some o := q
        rw [hb, ge] at q'; cases q'
      · exact (gk b hb).symm.trans q
    · rw [upd_ne (Ne.symm M.dne)]
      exact I1.hok.fresh M.new
end
section
variable {X : Cx} {c : Ctx} {W : WX}
def sRaise (x : Str) (m : EM (List Val)) : SM := sBind m fun vs env h => match vs with
  | [v, v2] => .exc ⟨x, [("at", v), ("word", v2)]⟩ env h
  | _ => .stuck
theorem s_raise {x q : Str} {fI : Addr} {a b : Expr} {m : EM (List Val)} {k : Nat} {p pos pos2 : Pos} (hc : X.calm = true) (T : BsTxt X.prog X.K X.mg x q (He.ga X.K x) fI) (hr : Room k X.A) (tk : Takes X W) (he : AV X c W [a, b] m) (hg : Gl X x := by rfl) (hd : (x == ("__debug__" : Str)) = false := by decide)
    (hs : starEach (a :: [b]) X.env = (false, eval a X.env) :: starEach [b] X.env := by rfl) (hpl : (backTo pos (starEach [b] X.env)).any (·.1) = false := by rfl) :
    S X c W (.Raise (some (.Call (.Name x p) [a, b] [] pos)) none pos2) (sRaise x m) :=
  PS.imp (ps_raise hc tk (pmk_bs T hr he hg hd hs hpl)) fun D σ H ⟨ρ, env, h, T0, F⟩ => by
    refine ⟨ρ, env, h, T0, (finS_bind (R := RVals X.K) T0 F).mono fun vs' H1 ⟨vs, h1, ρ1, e1, T1, r1, F1⟩ => ?_⟩
    revert r1 F1
    rcases vs with _ | ⟨v, _ | ⟨v2, _ | ⟨v3, vs⟩⟩⟩
    · exact fun _ F1 => F1.elim
    · exact fun _ F1 => F1.elim
    · intro r1 F1
      cases r1 with
      | cons rv rr => cases rr with
        | cons rv2 rr => cases rr with
          | nil =>
            refine ⟨_, _, rfl, fun d hd => ?_⟩
            exact F1 ρ1 σ _ _ _ ((Ex.upd_new hd).es T1.rs) (T1.step (Ex.upd_new hd) (T1.rs.upd_new hd)) ⟨rfl, .inr ⟨d, _, rfl, upd_same, rfl, .cons (RV.mono T1.rs (Ex.upd_new hd) rv) (.cons (RV.mono T1.rs (Ex.upd_new hd) rv2) .nil)⟩⟩
    · exact fun _ F1 => F1.elim
end
end Two
end Mi

namespace Mi
open PySem PySem.W PySem.Calls PySem.Spec PyProof.Rows PySem.HandSPX L2
namespace Two
def bsB (K : Frag) (file : Str) (x : Str) : Bool :=
  decide (findIn K (.ref (He.ga K x)) "word" = some none) && (clsB K x && (initB K file x && (excInitIn K (He.ga K x) veTail "ValueError.__new__" && (decide (ks_superIn K (He.ga K x) (He.ga K x) "__init__" = some (some (.builtin "ValueError.__init__"))) &&
  (decide (subIn K (.ref (He.ga K x)) (.type "ValueError") = some true) && (decide (mroIn K (He.ga K x) (.ref (He.ga K x)) = some true) && (decide (findIn K (.ref (He.ga K x)) "__setattr__" = some (some (.builtin "object.__setattr__"))) &&
  (decide (findIn K (.ref (He.ga K x)) "at" = some none) && (decide (findIn K (.ref (He.ga K x)) "__init__" = some (some (.ref (inA K x)))) && (decide (typeIn K (.ref (inA K x)) = some (.type "function")) &&
  (keepIn K (.ref (He.ga K x)) && (decide (subIn K (.ref (He.ga K x)) (.type "BaseException") = some true) && decide (typeIn K (.ref (He.ga K x)) = some (.type "type"))))))))))))))
theorem bs_of {P : Program} {K : Frag} {mg : Str → Option Value} {x q : Str} {file : Str} {p1 p2 p3 q1 q2 q3 q4 q4b q5 q6 q7 q8 q9 q10 r7 r8 r9 r10 : Pos} (h : bsB K file x = true) (hs : nsIn K cStatics "thirdparty.any" = some none) (gC : mg x = some (.ref (He.ga K x))) (gS : mg "super" = none)
    (pS : (List.lookup ("super" : Str) P.main.scope.names).isSome = false) (hf : (P.main.file == file) = true) (hr : fnR K x = some (("__init__" : Str), q, iA p1 p2 p3, FuncBody.stmts (iB q1 q2 q3 q4 q4b q5 q6 q7 q8 q9 q10 r7 r8 r9 r10), iS)) (hline : (q3.endLine == q5.line) = true) : BsTxt P K mg x q (He.ga K x) (inA K x) := by
  unfold bsB at h
  obtain ⟨h0, h⟩ := bb h
  obtain ⟨h1, h⟩ := bb h
  obtain ⟨h2, h⟩ := bb h
  obtain ⟨h3, h⟩ := bb h
  obtain ⟨h4, h⟩ := bb h
  obtain ⟨h5, h⟩ := bb h
  obtain ⟨h6, h⟩ := bb h
  obtain ⟨h7, h⟩ := bb h
  obtain ⟨h8, h⟩ := bb h
  obtain ⟨h9, h⟩ := bb h
  obtain ⟨h10, h⟩ := bb h
  obtain ⟨h11, h⟩ := bb h
  obtain ⟨h12, h13⟩ := bb h
  refine ⟨gC, gS, pS, clsB_ok h1, h3, hs, of_decide_eq_true h4, of_decide_eq_true h5, of_decide_eq_true h6, of_decide_eq_true h7, of_decide_eq_true h8, of_decide_eq_true h0, of_decide_eq_true h9, of_decide_eq_true h10, h11, of_decide_eq_true h12, of_decide_eq_true h13, ?_⟩
  unfold fnR at hr
  unfold initB at h2
  split at hr
  · rename_i oc od fd osl e
    rw [e] at h2
    simp only at h2
    split at h2
    · rename_i n cc cda e1 e2
      obtain ⟨a1, h2⟩ := bb h2
      obtain ⟨a2, h2⟩ := bb h2
      obtain ⟨a3, h2⟩ := bb h2
      obtain ⟨a4, h2⟩ := bb h2
      obtain ⟨a5, h2⟩ := bb h2
      obtain ⟨a6, h2⟩ := bb h2
      obtain ⟨a7, a8⟩ := bb h2
      obtain rfl := eq_of_beq a1
      split at a2
      · rename_i cl cld D csl ecc
        obtain rfl := eq_of_beq a2
        split at a3
        · rename_i ccl cdd vs ccs eca
          split at a3
          · rename_i f tf ev
            obtain rfl := eq_of_beq a3
            obtain ⟨b1, b2, b3, b4, b5, b6, b7, b8, b9, b10, b11, b12, b13, b14, b15⟩ := fd
            simp only [Option.some.injEq, Prod.mk.injEq] at hr e1 e2 a4 a5 a6 a7 a8
            obtain ⟨rfl, rfl, rfl, rfl, rfl⟩ := hr
            subst e1; subst e2
            obtain rfl := of_decide_eq_true a5
            obtain rfl := of_decide_eq_true a6
            obtain rfl := eq_of_beq a7
            obtain rfl := eq_of_beq a8
            exact ⟨oc, od, b10, b11, b12, cda, b14, osl, p1, p2, p3, q1, q2, q3, q4, q4b, q5, q6, q7, q8, q9, q10, r7, r8, r9, r10, cc, cl, ccl, cld, cdd, csl, ccs, vs, f, tf, e, a4, ecc, eca, ev, hf, hline⟩
          · cases a3
        · cases a3
      · cases a2
    · cases h2
  · cases hr
end Two
structure Seen2 where
  xs : List Str
  x2 : List Str
  is : List (Str × Str × Bool)
  em : List (Str × Str)
def emB (K : Frag) (p : Str × Str) : Bool := decide (exmOne K (.ref (He.ga K p.1)) (.ref (He.ga K p.2)) = some true)
theorem em_of {K : Frag} {p : Str × Str} (h : emB K p = true) : exmOne K (.ref (He.ga K p.1)) (.ref (He.ga K p.2)) = some true := of_decide_eq_true h
def seeM2 (file : Str) (c : Seen2) (K : Frag) : MV := (decide (nsIn K cStatics "thirdparty.any" = some none) && ((c.xs.all fun x => bsB K file x && exB K x) && ((c.x2.all fun x => Two.bsB K file x && exB K x) && (c.is.all (isB K) && c.em.all (emB K)))), (c.xs ++ c.x2).map (fnR K))
def hookC (n : Nat) (fa : List He.Fa) (fn : List He.DefD) (file : Str) (c : Seen2) (mv : List FnR) : Hook where
  α := He.AlD × MV
  obs := fun s => (He.obsD fa fn (frS s.heap.get? n), seeM2 file c (frS s.heap.get? n))
  val := fun _ => (He.valD fn, true, mv)
  says := fun _ h => ∃ K, K.In h ∧ He.SaysD fa fn K ∧ seeM2 file c K = (true, mv)
  of := fun w s e => ⟨_, He.frG_in, congrArg Prod.fst e, congrArg Prod.snd e⟩
  keeps := fun w h h' ⟨K, k, r⟩ q => ⟨K, k.keeps q, r⟩
def obC (n : Nat) (fa : List He.Fa) (fn : List He.DefD) (file : Str) (c : Seen2) (g : Addr → Option Obj) : He.AlD × MV := (He.obsD fa fn (frS g n), seeM2 file c (frS g n))
theorem obC_eq {n : Nat} {fa : List He.Fa} {fn : List He.DefD} {file : Str} {c : Seen2} {mv : List FnR} {g : Addr → Option Obj} {s : Shared} (h : ∀ a, g a = s.heap.get? a) : obC n fa fn file c g = (hookC n fa fn file c mv).obs s := by
  have e : g = s.heap.get? := funext h
  subst e
  rfl
end Mi

namespace Mi
open PySem PySem.W PySem.Calls PySem.Spec PyProof.Rows PySem.HandSPX L2
def sTry0 (cs : List Str) (mb ms : SM) : SM := fun env h => match mb env h with
  | .exc e env1 h1 => if e.c ∈ cs then (match ms (wipeX env1) h1 with
    | .next env2 h2 => .next (wipeX env2) h2
    | .brk env2 h2 => .brk (wipeX env2) h2
    | .cont env2 h2 => .cont (wipeX env2) h2
    | .ret v h2 => .ret v h2
    | _ => .stuck) else .stuck
  | o => o
section
variable {X : Cx} {c : Ctx} {W : WX}
theorem s_try0 {x : Str} {cv : Value} {body suite : List Stmt} {b₀ : Stmt} {np pos pos' : Pos} {mb ms : SM} (cs : List Str) (tk : Takes X W) (hc : Names X x cv) (hm : ∀ y ∈ cs, exmOne X.K (.ref (He.ga X.K y)) cv = some true)
    (hb : ∀ (W : WX) (pn : List (Addr × Obj)) (xe : Value → Shared → Prop), Takes (X.tr pn xe) W → PassesOwn (model X.prog X.w) X.A X.env xe → SS (X.tr pn xe) c W body mb)
    (hsu : ∀ (a : Addr) (oe : Obj) (cls : Value) (d : Option Addr) (pn : List (Addr × Obj)), Zc cls d oe → (∃ vs, oe.data = .fields vs) → SS (X.suite a ((a, oe) :: pn)) { c with xc := some (a, cls, d) } W0 (b₀ :: suite) ms)
    (hs : X.stack = X.env :: X.outer := by rfl) (hf : X.env.frame = some X.env.locals := by rfl) :
    S X c W (.Try body [.ExceptHandler (some (.Name x np)) none (b₀ :: suite) pos'] [] [] pos) (sTry0 cs mb ms) :=
  PS.imp (ps_try_only (tb := fun W => rdS X.K c W mb) (ts := fun a cls d => rdS X.K { c with xc := some (a, cls, d) } W0 ms) hs hf hc tk hb hsu) fun D σ H ⟨ρ, env, h, T0, F⟩ => by
    refine ⟨ρ, env, h, T0, ?_⟩
    have F : FinS X.K c W D ρ H (match mb env h with
      | .exc e env1 h1 => if e.c ∈ cs then (match ms (wipeX env1) h1 with
        | .next env2 h2 => .next (wipeX env2) h2
        | .brk env2 h2 => .brk (wipeX env2) h2
        | .cont env2 h2 => .cont (wipeX env2) h2
        | .ret v h2 => .ret v h2
        | _ => .stuck) else .stuck
      | o => o) := F
    cases q : mb env h with
    | next e1 h1 => rw [q] at F; exact F
    | ret v h1 => rw [q] at F; exact F
    | brk e1 h1 => rw [q] at F; exact F
    | cont e1 h1 => rw [q] at F; exact F
    | stuck => rw [q] at F; exact F
    | exc e env1 h1 =>
      rw [q] at F
      simp only at F
      intro ρ1 σ1 cls d H1 es1 T1 rx
      by_cases he : e.c ∈ cs
      · rw [if_pos he] at F
        refine ⟨true, ?_, fun _ a ha => ?_, fun z => Bool.noConfusion z⟩
        · rw [rx.1]; exact hm _ he
        · have T2 : ST X.K { c with xc := some (a, cls, d) } ρ1 H1 h1 (wipeX env1) σ1 := T1.wipeX (some (a, cls, d))
          refine ⟨ρ1, _, h1, T2, ?_⟩
          have F2 := F.at es1
          cases q2 : ms (wipeX env1) h1 with
          | next e2 h2 => rw [q2] at F2; exact fun ρ' σ' H' es' T' => F2 ρ' _ H' es' (T'.wipeX c.xc)
          | brk e2 h2 => rw [q2] at F2; exact fun ρ' σ' H' es' T' => F2 ρ' _ H' es' (T'.wipeX c.xc)
          | cont e2 h2 => rw [q2] at F2; exact fun ρ' σ' H' es' T' => F2 ρ' _ H' es' (T'.wipeX c.xc)
          | ret v h2 => rw [q2] at F2; exact fun ρ' x H' ex s r => F2 ρ' x H' ex s r
          | exc e2 e3 h2 => rw [q2] at F2; exact F2.elim
          | stuck => rw [q2] at F2; exact F2.elim
      · rw [if_neg he] at F
        exact F.elim
end
end Mi

set_option Elab.async false
set_option linter.all false
set_option maxRecDepth 100000
set_option maxHeartbeats 2000000
set_option autoImplicit false
namespace Mi
open PySem PySem.W PySem.Calls PySem.Spec PyProof.Rows PySem.HandSPX L2
theorem rev_adjust (n : Nat) : Builtin.Slice.sliceAdjust none none (-1) (n : Int) = ((n : Int) - 1, -1) := by
  unfold Builtin.Slice.sliceAdjust
  have h : ((-1 : Int) < 0) := by decide
  simp only [h, if_true]
theorem rev_places (n : Nat) : Builtin.Slice.slicePlaces ((n : Int) - 1) (-1) (-1) = n := by
  unfold Builtin.Slice.slicePlaces
  have h : ¬ ((-1 : Int) > 0) := by decide
  have e : (- -1 : Int) = 1 := by decide
  simp only [h, if_false, e, Int.ediv_one]
  split <;> omega
theorem fm_congr {α β : Type} {f g : α → Option β} : ∀ {l : List α}, (∀ x ∈ l, f x = g x) → l.filterMap f = l.filterMap g
  | [], _ => rfl
  | x :: l, h => by rw [List.filterMap_cons, List.filterMap_cons, h x List.mem_cons_self, fm_congr fun y hy => h y (List.mem_cons_of_mem _ hy)]
theorem rev_pick (xs : Array Value) : ((List.range xs.size).filterMap fun (m : Nat) => xs[(((xs.size : Int) - 1) + (m : Int) * (-1)).toNat]?).toArray = xs.toList.reverse.toArray := by
  have e : (List.range xs.size).filterMap (fun (m : Nat) => xs[(((xs.size : Int) - 1) + (m : Int) * (-1)).toNat]?) = ((List.range xs.size).map fun k => xs.size - 1 - k).filterMap (xs[·]?) := by
    rw [List.filterMap_map]
    refine fm_congr ?_
    intro k hk
    have := List.mem_range.mp hk
    have q : (((xs.size : Int) - 1) + (k : Int) * (-1)).toNat = xs.size - 1 - k := by omega
    show _ = xs[xs.size - 1 - k]?
    rw [q]
  rw [e, krv_range, List.filterMap_reverse, krv_all]
section
variable {prog : Program} {w : World} {A : Around} {E : Value → Shared → Prop} {s : Shared}
theorem sliceApplied_rev {sl : Addr} {vl vu vs : Value} {n : Nat} {Q : Int × Int × Nat → Shared → Prop} (hs : s.heap.IsSliceOf sl vl vu vs) (pl : IsPart vl none) (pu : IsPart vu none) (ps : IsPart vs (some (-1)))
    (h : Q ((n : Int) - 1, -1, n) s) : wpAny (model prog w) A (Builtin.Slice.sliceApplied (.ref sl) (pure (n : Int))) Q E s := by
  obtain ⟨os, hos, hcs, hds⟩ := id hs
  unfold Builtin.Slice.sliceApplied Builtin.Slice.sliceFields
  refine wpAny_bind (wpAny_bind (wpAny_field hos hds (x := vl) rfl (wpAny_bind (wpAny_field hos hds (x := vu) rfl (wpAny_bind (wpAny_field hos hds (x := vs) rfl (wpAny_pure ?_)))))))
  refine wpAny_bind (HT.slicePart_ ps ?_)
  show wpAny _ _ (if ((-1 : Int) == 0) = true then _ else _) _ _ s
  rw [if_neg (by decide)]
  refine wpAny_bind (HT.slicePart_ pl (wpAny_bind (HT.slicePart_ pu (wpAny_bind (wpAny_pure ?_)))))
  show wpAny _ _ (match Builtin.Slice.sliceAdjust none none (-1) (n : Int) with | (lo, hi) => pure (lo, (-1 : Int), Builtin.Slice.slicePlaces lo hi (-1))) _ _ s
  rw [rev_adjust]
  show wpAny _ _ (pure ((n : Int) - 1, (-1 : Int), Builtin.Slice.slicePlaces ((n : Int) - 1) (-1) (-1))) _ _ s
  rw [rev_places]
  exact wpAny_pure h
theorem getItem_tuple_rev {t sl : Addr} {items : Array Value} {vl vu vs : Value} {Q : Value → Shared → Prop} (ht : IsTup s.heap t items) (hs : s.heap.IsSliceOf sl vl vu vs) (pl : IsPart vl none) (pu : IsPart vu none) (ps : IsPart vs (some (-1)))
    (h : Q (.ref s.heap.objs.size) { s with heap := s.heap.push { cls := .type "tuple", data := .seq items.toList.reverse.toArray } })
    (hsz : items.size ≤ sizeLine) : wpAny (model prog w) A (getItem (.ref t) (.ref sl)) Q E s := by
  have htake : sizeOk (.seq items.toList.reverse.toArray) := by
    show items.toList.reverse.toArray.size ≤ sizeLine
    rw [List.size_toArray, List.length_reverse, Array.length_toList]
    exact hsz
  obtain ⟨os, hos, hcs, hds⟩ := id hs
  have hTs : s.TypeIs (.ref sl) "slice" := ⟨os, hos, hcs⟩
  unfold getItem
  try with_reducible refine wpAny_holding ?_
  first | refine wpAny_bind (wpAny_pure ?_) | skip
  refine wpAny_bind (wpAny_sequenceKey ht.typeIs (by decide) ?_)
  refine wpAny_bind (wpAny_callSpecial?_slot (name := Str.ofString "__getitem__") ht.typeIs PyProof.Rows.slot_tuple_getitem
    (wpAny_call_entry PyProof.Rows.slot_tuple_getitem ht.typeIs entry_tuple_getitem ?_ (args_tuple_getitem _ _)))
  show wpAny _ _ (Builtin.Tuple.tupleItemsOf (.ref t) >>= _) _ _ s
  refine wpAny_bind (tupleItemsOf_ ht ?_)
  refine wpAny_bind (wpAny_typeOf hTs ?_)
  rw [if_pos (by decide)]
  refine wpAny_bind (sliceApplied_rev hs pl pu ps ?_)
  have hno : ¬ ((((items.size : Int) - 1) == 0 && (-1 : Int) == 1 && items.size == items.size) = true) := by
    intro q
    rw [Bool.and_eq_true, Bool.and_eq_true] at q
    exact absurd q.1.2 (by decide)
  show wpAny _ _ (if (((items.size : Int) - 1) == 0 && (-1 : Int) == 1 && items.size == items.size) = true then _ else _) _ _ s
  rw [if_neg hno, rev_pick]
  first
    | exact wpAny_bind (m := Builtin.Tuple.tupleExact _) (wpAny_newObj_type (wpAny_pure ⟨_, rfl, wpAny_pure h⟩) htake)
    | exact wpAny_bind (m := Builtin.Tuple.tupleExact _) (wpAny_newObj_type (wpAny_bind (wpAny_pure (wpAny_pure ⟨_, rfl, wpAny_pure h⟩))) htake)
    | exact wpAny_bind (wpAny_bind (m := Builtin.Tuple.tupleExact _) (wpAny_newObj_type (wpAny_pure (wpAny_pure ⟨_, rfl, wpAny_pure h⟩)) htake))
    | exact wpAny_bind (wpAny_bind (m := Builtin.Tuple.tupleExact _) (wpAny_newObj_type (wpAny_pure ⟨_, rfl, wpAny_pure h⟩) htake))
end
def rRevT (K : PySem.W.Frag) : V → Hp → VK → Prop := fun x H1 Q => ∃ a xs, x = .ref a ∧ SqT K H1 a xs ∧ ∀ p, H1 p = none → Q (.ref p) (upd H1 p (.tup xs.reverse))
section
variable {X : Cx}
theorem pe_revT {e : Expr} {te : TE} {k : Nat} {p1 p2 p3 pos : Pos} (he : PE X e te) : PE X (.Subscript e (.Slice none none (some (.UnaryOp .USub (.Constant (.int 1) k p1) p2)) p3) pos) (fun σ H Q => te σ H fun x H1 => rRevT X.K x H1 Q) := by
  refine ⟨fun pins s σ H Q I h => ?_⟩
  refine Subscript_ (thn (he.run pins s σ H _ I h) fun v s1 ⟨x, H1, I1, r1, q1⟩ => ?_)
  obtain ⟨a, xs, ex, hx, q⟩ := q1
  subst ex
  cases r1
  have hst : PO X (some (.UnaryOp .USub (.Constant (.int 1) k p1) p2)) (tPart (tUn (rU fun i => .int (-i)) (tC (.int 1)))) := po_some (pe_un un_neg pe_int)
  refine wpAny_Slice (thn (po_none.run pins s1 σ H1 (fun o H2 => o = none ∧ H2 = H1) I1 ⟨rfl, rfl⟩) fun vl s2 ⟨l, H2, I2, pl, el, e2⟩ => ?_)
  subst el e2
  refine thn (po_none.run pins s2 σ H2 (fun o H3 => o = none ∧ H3 = H2) I2 ⟨rfl, rfl⟩) fun vu s3 ⟨u, H3, I3, pu, eu, e3⟩ => ?_
  subst eu e3
  refine thn (hst.run pins s3 σ H3 (fun o H4 => o = some (-1) ∧ H4 = H3) I3 ⟨1, rfl, -1, rfl, rfl, rfl⟩) fun vs s4 ⟨o, H4, I4, ps, eo, e4⟩ => ?_
  subst eo e4
  have I5 : L2.Inv X pins σ H4 { s4 with heap := s4.heap.push { cls := .type "slice", data := .fields #[vl, vu, vs] } } := I4.kept (t' := s4.toks) fun b ob q => Heap.get?_push_of_some _ q
  obtain ⟨its, r, ht, hz⟩ := I5.tuple hx
  have hlen := r.length
  show wpAny (model X.prog X.w) X.A (subscriptTail e (.Slice none none (some (.UnaryOp .USub (.Constant (.int 1) k p1) p2)) p3) (.ref a) (.ref s4.heap.objs.size)) (EP X pins σ Q) X.xe { s4 with heap := s4.heap.push { cls := .type "slice", data := .fields #[vl, vu, vs] } }
  refine tail_any (ops := [.ref a, .ref s4.heap.objs.size]) ht.typeIs (PyProof.Rows.slot_tuple_getitem.lookup) ?_ (by with_unfolding_all rfl)
  refine getItem_tuple_rev ht (Heap.IsSliceOf.new _ vl vu vs) pl pu ps ?_ (by rw [List.size_toArray]; omega)
  refine ⟨.ref _, _, I5.laid (t' := s4.toks) (o := .tup xs.reverse) (fun b ob q => Heap.get?_push_of_some _ q) (Nat.le_refl _) ?_, rfl, q _ (I5.hok.fresh (Nat.le_refl _))⟩
  exact ⟨by rw [List.length_reverse]; exact hz, _, r.reverse, IsTup.new _ _⟩
def fRevT (o : Opd) (h : MH) : Res Val := match o with
  | .val (.tup vs) => some (.tup vs.reverse, h)
  | _ => none
theorem g_revT : UnG X (RVal X.K) (rRevT X.K) fRevT := fun ρ H h a x v h' Q S ra e G => by
  unfold fRevT at e
  split at e
  · cases e
    obtain ⟨p, xs, rfl, q, r⟩ := rv_tup ra
    exact ⟨p, xs, rfl, SqT.of q, fun l hl => good_tup S r.reverse G hl⟩
  · cases e
theorem e_revT {c : Ctx} {W : WX} {e : Expr} {m : EM Opd} {k : Nat} {p1 p2 p3 pos : Pos} (he : EO X c W e m) : E X c W (.Subscript e (.Slice none none (some (.UnaryOp .USub (.Constant (.int 1) k p1) p2)) p3) pos) (xUn fRevT m) :=
  PE.imp (pe_revT he) fun σ H Q q => rd_un mon_val g_revT q
def fUpper (a : Opd) (as : List Opd) (h : MH) : Res Val := match a, as with
  | .val (.str s), [] => if s.length ≤ 100000 then some (.str (Txt.upper s), h) else none
  | _, _ => none
theorem g_upper : MtG X (RVal X.K) (fun x xs H Q => ∃ a, x = .str a ∧ xs = [] ∧ a.length ≤ 5592405 ∧ Q (.str (Txt.upper a)) H) fUpper := fun ρ H h a as x xs v h' Q S ra ras e G => by
  unfold fUpper at e
  split at e
  · split at e
    · rename_i hz
      cases e
      exact ⟨_, rv_str ra, ros_nil ras, by omega, G.now S (.str _)⟩
    · cases e
  · cases e
def fBool (as : List Opd) (h : MH) : Res Val := match as with
  | [.val (.int i)] => some (.bl (i != 0), h)
  | [.val (.bl k)] => some (.bl k, h)
  | _ => none
theorem g_bool : CallG X (RVal X.K) (fun xs H Q => (∃ i, xs = [.int i] ∧ Q (.bl (i != 0)) H) ∨ ∃ k, xs = [.bl k] ∧ Q (.bl k) H) fBool := fun ρ H h as xs v h' Q S ra e G => by
  unfold fBool at e
  split at e
  · cases e
    obtain ⟨x, rfl, r⟩ := ros_one ra
    rw [rv_int r]
    exact .inl ⟨_, rfl, G.now S (.bl _)⟩
  · cases e
    obtain ⟨x, rfl, r⟩ := ros_one ra
    have r : RV X.K ρ H (.bl _) x := r
    cases r
    exact .inr ⟨_, rfl, G.now S (.bl _)⟩
  · cases e
end
end Mi

set_option Elab.async false
set_option linter.all false
set_option maxRecDepth 100000
set_option maxHeartbeats 0
namespace HT
open PySem PySem.Spec PyProof.Rows L2 Mi
def top (i : Nat) : Stmt := PySem.Challenge.pw_byendsalone_k33_check_code.main.body.getD i (.Pass ⟨0, 0, 0, 0⟩)
def d_is_number : He.DefD := ⟨("is_number", none), "is_number", "is_number", defArgs (top 7), defBody (top 7), defScope (top 7), [], []⟩
def d_is_asks_of : He.DefD := ⟨("is_asks_of", none), "is_asks_of", "is_asks_of", defArgs (top 9), defBody (top 9), defScope (top 9), [], []⟩
def d_is_asks : He.DefD := ⟨("is_asks", none), "is_asks", "is_asks", defArgs (top 10), defBody (top 10), defScope (top 10), [], []⟩
def d_is_stage : He.DefD := ⟨("is_stage", none), "is_stage", "is_stage", defArgs (top 12), defBody (top 12), defScope (top 12), [], []⟩
def d_check_code : He.DefD := ⟨("check_code", none), "check_code", "check_code", defArgs (top 13), defBody (top 13), defScope (top 13), [], []⟩
def d_is_code : He.DefD := ⟨("is_code", none), "is_code", "is_code", defArgs (top 14), defBody (top 14), defScope (top 14), [], []⟩
def d__law_pan : He.DefD := ⟨("_law_pan", none), "_law_pan", "_law_pan", defArgs (top 16), defBody (top 16), defScope (top 16), [], []⟩
def d__law_grain : He.DefD := ⟨("_law_grain", none), "_law_grain", "_law_grain", defArgs (top 17), defBody (top 17), defScope (top 17), [], []⟩
def d__law_pairs : He.DefD := ⟨("_law_pairs", none), "_law_pairs", "_law_pairs", defArgs (top 18), defBody (top 18), defScope (top 18), [], []⟩
def d__law_stage : He.DefD := ⟨("_law_stage", none), "_law_stage", "_law_stage", defArgs (top 19), defBody (top 19), defScope (top 19), [], []⟩
def d__law_line : He.DefD := ⟨("_law_line", none), "_law_line", "_law_line", defArgs (top 20), defBody (top 20), defScope (top 20), [], []⟩
def d__law_number : He.DefD := ⟨("_law_number", none), "_law_number", "_law_number", defArgs (top 21), defBody (top 21), defScope (top 21), [], []⟩
def d__law_pairs_good : He.DefD := ⟨("_law_pairs_good", none), "_law_pairs_good", "_law_pairs_good", defArgs (top 22), defBody (top 22), defScope (top 22), [], []⟩
def d__law_fault : He.DefD := ⟨("_law_fault", none), "_law_fault", "_law_fault", defArgs (top 23), defBody (top 23), defScope (top 23), [], []⟩
def d__law_told : He.DefD := ⟨("_law_told", none), "_law_told", "_law_told", defArgs (top 24), defBody (top 24), defScope (top 24), [], []⟩
def d__law_even : He.DefD := ⟨("_law_even", none), "_law_even", "_law_even", defArgs (top 25), defBody (top 25), defScope (top 25), [], []⟩
def d__law_asked : He.DefD := ⟨("_law_asked", none), "_law_asked", "_law_asked", defArgs (top 26), defBody (top 26), defScope (top 26), [], []⟩
def d__law_bad_pairs : He.DefD := ⟨("_law_bad_pairs", none), "_law_bad_pairs", "_law_bad_pairs", defArgs (top 27), defBody (top 27), defScope (top 27), [], []⟩
def d__law_bent : He.DefD := ⟨("_law_bent", none), "_law_bent", "_law_bent", defArgs (top 28), defBody (top 28), defScope (top 28), [], []⟩
def d__law_each : He.DefD := ⟨("_law_each", none), "_law_each", "_law_each", defArgs (top 29), defBody (top 29), defScope (top 29), [], []⟩
def d_law : He.DefD := ⟨("law", none), "law", "law", defArgs (top 30), defBody (top 30), defScope (top 30), [], []⟩
def fn : List He.DefD := [d_is_number, d_is_asks_of, d_is_asks, d_is_stage, d_check_code, d_is_code, d__law_pan, d__law_grain, d__law_pairs, d__law_stage, d__law_line, d__law_number, d__law_pairs_good, d__law_fault, d__law_told, d__law_even, d__law_asked, d__law_bad_pairs, d__law_bent, d__law_each, d_law]
def fa : List He.Fa := [.glo "is_number", .glo "is_asks_of", .glo "is_asks", .glo "is_stage", .glo "check_code", .glo "is_code", .glo "_law_pan", .glo "_law_grain", .glo "_law_pairs", .glo "_law_stage", .glo "_law_line", .glo "_law_number", .glo "_law_pairs_good", .glo "_law_fault", .glo "_law_told", .glo "_law_even", .glo "_law_asked", .glo "_law_bad_pairs", .glo "_law_bent", .glo "_law_each", .glo "law", .glo "EndsError", .glo "DataError", .glo "CallError", .glo "TextError", .glo "BadCode", .free "ValueError", .free "abs", .free "bool", .free "int", .free "isinstance", .free "len", .free "list", .free "range", .free "str", .free "super", .free "tuple"]
def seen : Mi.Seen2 := ⟨[], ["BadCode"], [("BadCode", "CallError", false), ("BadCode", "DataError", true), ("BadCode", "TextError", false)], []⟩
def mvs : List Mi.FnR := [some ("__init__", "BadCode.__init__", Two.iA ⟨12, 17, 12, 21⟩ ⟨12, 23, 12, 25⟩ ⟨12, 27, 12, 31⟩, PySem.FuncBody.stmts (Two.iB ⟨13, 8, 13, 13⟩ ⟨13, 8, 13, 15⟩ ⟨13, 8, 13, 24⟩ ⟨13, 25, 13, 27⟩ ⟨13, 29, 13, 33⟩ ⟨13, 8, 13, 34⟩ ⟨13, 8, 13, 34⟩ ⟨14, 8, 14, 12⟩ ⟨14, 8, 14, 15⟩ ⟨14, 18, 14, 20⟩ ⟨14, 8, 14, 20⟩ ⟨15, 8, 15, 12⟩ ⟨15, 8, 15, 17⟩ ⟨15, 20, 15, 24⟩ ⟨15, 8, 15, 24⟩), Two.iS)]
abbrev R : PySem.W.OpenRow := PySem.W.OpenLaw.row PySem.Challenge.rw_byendsalone_k33_check_code
def file : PySem.Str := "/claim/cut.py"
abbrev hk : PySem.W.Hook := Mi.hookC 6 fa fn file seen mvs
def ob (s : PySem.W.SharedT) : He.AlD × Mi.MV := Mi.obC 6 fa fn file seen (HandSHeadRun.getT s)
theorem ob_eq (s : PySem.W.SharedT) : ob s = hk.obs s.abs := Mi.obC_eq (HandSHeadRun.getT_eq s)
def nm0 : List PySem.Str := ["is_number", "is_asks_of", "is_asks", "is_stage", "check_code", "is_code", "_law_pan", "_law_grain", "_law_pairs", "_law_stage", "_law_line", "_law_number", "_law_pairs_good", "_law_fault", "_law_told", "_law_even", "_law_asked", "_law_bad_pairs", "_law_bent", "_law_each", "EndsError", "DataError", "CallError", "TextError", "BadCode"]
def names : List PySem.Str := nm0
theorem run (w : World) : HandSHeadRun.RunEq R (PySem.W.view R.prog [30]) hk ob 4000 names w := by
  intro os
  kernel_rfl
end HT


set_option Elab.async false
set_option linter.all false
set_option maxRecDepth 100000
set_option maxHeartbeats 4000000
set_option autoImplicit false
namespace HT
open PySem PySem.Spec PyProof.Rows L2 Mi
structure Bl (mg : Str → Option Value) : Prop where
  b_ValueError : mg "ValueError" = none
  b_abs : mg "abs" = none
  b_bool : mg "bool" = none
  b_int : mg "int" = none
  b_isinstance : mg "isinstance" = none
  b_len : mg "len" = none
  b_list : mg "list" = none
  b_range : mg "range" = none
  b_str : mg "str" = none
  b_super : mg "super" = none
  b_tuple : mg "tuple" = none
structure Xs (P : Program) (K : PySem.W.Frag) (mg : Str → Option Value) : Prop where
  g_EndsError : mg "EndsError" = some (.ref (He.ga K "EndsError"))
  g_DataError : mg "DataError" = some (.ref (He.ga K "DataError"))
  g_CallError : mg "CallError" = some (.ref (He.ga K "CallError"))
  g_TextError : mg "TextError" = some (.ref (He.ga K "TextError"))
  g_BadCode : mg "BadCode" = some (.ref (He.ga K "BadCode"))
  bs_BadCode : Two.BsTxt P K mg "BadCode" "BadCode.__init__" (He.ga K "BadCode") (inA K "BadCode")
  ex_BadCode : ExT K "BadCode"
  is_BadCode_CallError : PySem.W.kitOne K (.ref (He.ga K "BadCode")) (.ref (He.ga K "CallError")) = some false
  is_BadCode_DataError : PySem.W.kitOne K (.ref (He.ga K "BadCode")) (.ref (He.ga K "DataError")) = some true
  is_BadCode_TextError : PySem.W.kitOne K (.ref (He.ga K "BadCode")) (.ref (He.ga K "TextError")) = some false
@[irreducible] def F_is_number : FM := mFun 1 1 (sRet (xAnd (xIsi "int" (xV (xVar 0))) (xAnd (xNot (xV (xIsi "bool" (xV (xVar 0))))) (xOp fGe (xV (xVar 0)) (xV (xC (.int 0)))))))
theorem N_is_number : FnScope ["thing"] ["thing"] (defScope (top 7)) := ⟨rfl, rfl, rfl, by decide +kernel, rfl, by decide +kernel, by decide +kernel⟩
theorem ok_is_number {P : Program} {w : World} {K : PySem.W.Frag} {mg : Str → Option Value} {base : Heap} {f : Addr} {fd : FuncData} (B : Bl mg) (Z : Xs P K mg) (hm : mg "is_number" = some (.ref f)) (F : FunD K "is_number" "is_number" (defArgs (top 7)) (defBody (top 7)) (defScope (top 7)) [] [] f fd) : Def P w K mg base "is_number" 1 F_is_number := by
  unfold F_is_number
  exact def_ok F N_is_number hm (F.bindsN fun _ _ _ _ _ _ us hl => match us, hl with | [_], _ => rfl) fun cdv A outer s H E c hr tk hp =>
  (ss_one (s_ret (e_and (e_isi okT_int B.b_isinstance B.b_int (o_v (e_var (i := 0)))) (e_and (e_not (o_v (e_isi okT_bool B.b_isinstance B.b_bool (o_v (e_var (i := 0)))))) (e_one (g_cmp mon_val op_ge g_ge (o_v (e_var (i := 0))) (o_v e_int) (nomark _)))))))
@[irreducible] def F_is_asks_of : FM := mFun 4 2 (sSeq (sIf (tNot (tTruth (xV (xIsi "tuple" (xV (xVar 1))))))
  (sRet (xC (.bl false)))
  sNil)
  (sSeq (sSet 2 (xUn fNeg (xV (xC (.int 1)))))
  (sSeq (sFor (xSrc (xV (xVar 1))) (tName 3)
  (sSeq (sIf (tOr (tNot (tTruth (xV (xIsi "tuple" (xV (xVar 3)))))) (tOf (xOp fNe (xV (xCall fLen (aCons (xV (xVar 3)) aNil))) (xV (xC (.int 2))))))
  (sRet (xC (.bl false)))
  sNil)
  (sSeq (sIf (tOr (tNot (tTruth (xV (xFn F_is_number (vCons (xOp fIx (xV (xVar 3)) (xV (xC (.int 0)))) vNil))))) (tNot (tTruth (xV (xFn F_is_number (vCons (xOp fIx (xV (xVar 3)) (xV (xC (.int 1)))) vNil))))))
  (sRet (xC (.bl false)))
  sNil)
  (sSeq (sIf (tOr (tOf (xOp fLe (xV (xOp fIx (xV (xVar 3)) (xV (xC (.int 0))))) (xV (xVar 2)))) (tOr (tOf (xOp fGe (xV (xOp fIx (xV (xVar 3)) (xV (xC (.int 0))))) (xV (xVar 0)))) (tOf (xOp fGt (xV (xOp fIx (xV (xVar 3)) (xV (xC (.int 1))))) (xV (xC (.int 1)))))))
  (sRet (xC (.bl false)))
  sNil)
  (sSet 2 (xOp fIx (xV (xVar 3)) (xV (xC (.int 0)))))))))
  (sRet (xC (.bl true))))))
theorem N_is_asks_of : FnScope ["many", "thing", "last", "ask"] ["many", "thing"] (defScope (top 9)) := ⟨rfl, rfl, rfl, by decide +kernel, rfl, by decide +kernel, by decide +kernel⟩
theorem ok_is_asks_of {P : Program} {w : World} {K : PySem.W.Frag} {mg : Str → Option Value} {base : Heap} {f : Addr} {fd : FuncData} (B : Bl mg) (Z : Xs P K mg) (hm : mg "is_asks_of" = some (.ref f)) (F : FunD K "is_asks_of" "is_asks_of" (defArgs (top 9)) (defBody (top 9)) (defScope (top 9)) [] [] f fd) (D_is_number : Def P w K mg base "is_number" 1 F_is_number) : Def P w K mg base "is_asks_of" 2 F_is_asks_of := by
  unfold F_is_asks_of
  exact def_ok F N_is_asks_of hm (F.bindsN fun _ _ _ _ _ _ us hl => match us, hl with | [_, _], _ => rfl) fun cdv A outer s H E c hr tk hp =>
  (ss_cons (s_if (t_not (t_truth (o_v (e_isi okT_tuple B.b_isinstance B.b_tuple (o_v (e_var (i := 1)))))))
  (ss_one (s_ret e_bl))
  ss_nil)
  (ss_cons (s_set (i := 2) N_is_asks_of.nd (g_un mon_val un_neg g_neg (o_v e_int)))
  (ss_cons (s_for hp rfl (it_v (e_var (i := 1))) (gt_name N_is_asks_of.nd (i := 3)) (fun c =>
  (ss_cons (s_if (t_w (w_or (t_not (t_truth (o_v (e_isi okT_tuple B.b_isinstance B.b_tuple (o_v (e_var (i := 3))))))) (w_or1 (t_cmp (o_ne hr.units) g_ne (o_v (g_callB mon_val c_len g_len B.b_len (ao_cons (o_v (e_var (i := 3))) ao_nil))) (o_v e_int) (nomark _)))))
  (ss_one (s_ret e_bl))
  ss_nil)
  (ss_cons (s_if (t_w (w_or (t_not (t_truth (o_v (e_fn D_is_number (hr.mono (by decide)) tk (av_cons (g_ix mon_val (i_ix hr.units) g_ixA (o_v (e_var (i := 3))) (o_v e_int)) av_nil))))) (w_or1 (t_not (t_truth (o_v (e_fn D_is_number (hr.mono (by decide)) tk (av_cons (g_ix mon_val (i_ix hr.units) g_ixA (o_v (e_var (i := 3))) (o_v e_int)) av_nil))))))))
  (ss_one (s_ret e_bl))
  ss_nil)
  (ss_cons (s_if (t_w (w_or (t_cmp op_le g_le (o_v (g_ix mon_val (i_ix hr.units) g_ixA (o_v (e_var (i := 3))) (o_v e_int))) (o_v (e_var (i := 2))) (nomark _)) (w_or (t_cmp op_ge g_ge (o_v (g_ix mon_val (i_ix hr.units) g_ixA (o_v (e_var (i := 3))) (o_v e_int))) (o_v (e_var (i := 0))) (nomark _)) (w_or1 (t_cmp op_gt g_gt (o_v (g_ix mon_val (i_ix hr.units) g_ixA (o_v (e_var (i := 3))) (o_v e_int))) (o_v e_int) (nomark _))))))
  (ss_one (s_ret e_bl))
  ss_nil)
  (ss_one (s_set (i := 2) N_is_asks_of.nd (g_ix mon_val (i_ix hr.units) g_ixA (o_v (e_var (i := 3))) (o_v e_int)))))))))
  (ss_one (s_ret e_bl)))))
@[irreducible] def F_is_asks : FM := mFun 2 2 (sRet (xFn F_is_asks_of (vCons (xCall fLen (aCons (xV (xOp fIx (xV (xVar 0)) (xV (xC (.int 0))))) aNil)) (vCons (xVar 1) vNil))))
theorem N_is_asks : FnScope ["tour", "thing"] ["tour", "thing"] (defScope (top 10)) := ⟨rfl, rfl, rfl, by decide +kernel, rfl, by decide +kernel, by decide +kernel⟩
theorem ok_is_asks {P : Program} {w : World} {K : PySem.W.Frag} {mg : Str → Option Value} {base : Heap} {f : Addr} {fd : FuncData} (B : Bl mg) (Z : Xs P K mg) (hm : mg "is_asks" = some (.ref f)) (F : FunD K "is_asks" "is_asks" (defArgs (top 10)) (defBody (top 10)) (defScope (top 10)) [] [] f fd) (D_is_asks_of : Def P w K mg base "is_asks_of" 2 F_is_asks_of) : Def P w K mg base "is_asks" 3 F_is_asks := by
  unfold F_is_asks
  exact def_ok F N_is_asks hm (F.bindsN fun _ _ _ _ _ _ us hl => match us, hl with | [_, _], _ => rfl) fun cdv A outer s H E c hr tk hp =>
  (ss_one (s_ret (e_fn D_is_asks_of (hr.mono (by decide)) tk (av_cons (g_callB mon_val c_len g_len B.b_len (ao_cons (o_v (g_ix mon_val (i_ix hr.units) g_ixA (o_v (e_var (i := 0))) (o_v e_int))) ao_nil)) (av_cons (e_var (i := 1)) av_nil)))))
@[irreducible] def F_is_stage : FM := mFun 1 1 (sRet (xAnd (xFn F_is_number (vCons (xVar 0) vNil)) (xOp fLt (xV (xVar 0)) (xV (xC (.int 60))))))
theorem N_is_stage : FnScope ["thing"] ["thing"] (defScope (top 12)) := ⟨rfl, rfl, rfl, by decide +kernel, rfl, by decide +kernel, by decide +kernel⟩
theorem ok_is_stage {P : Program} {w : World} {K : PySem.W.Frag} {mg : Str → Option Value} {base : Heap} {f : Addr} {fd : FuncData} (B : Bl mg) (Z : Xs P K mg) (hm : mg "is_stage" = some (.ref f)) (F : FunD K "is_stage" "is_stage" (defArgs (top 12)) (defBody (top 12)) (defScope (top 12)) [] [] f fd) (D_is_number : Def P w K mg base "is_number" 1 F_is_number) : Def P w K mg base "is_stage" 2 F_is_stage := by
  unfold F_is_stage
  exact def_ok F N_is_stage hm (F.bindsN fun _ _ _ _ _ _ us hl => match us, hl with | [_], _ => rfl) fun cdv A outer s H E c hr tk hp =>
  (ss_one (s_ret (e_and (e_fn D_is_number (hr.mono (by decide)) tk (av_cons (e_var (i := 0)) av_nil)) (e_one (g_cmp mon_val o_lt g_lt (o_v (e_var (i := 0))) (o_v e_int) (nomark _))))))
@[irreducible] def F_check_code : FM := mFun 4 2 (sSeq (sIf (tOr (tNot (tTruth (xV (xIsi "tuple" (xV (xVar 1)))))) (tOf (xOp fGt (xV (xCall fLen (aCons (xV (xVar 1)) aNil))) (xV (xC (.int 1000))))))
  (Two.sRaise "BadCode" (vCons (xUn fNeg (xV (xC (.int 1)))) (vCons (xC (.str "shape")) vNil)))
  sNil)
  (sSeq (sFor (xRng1 (aCons (xV (xCall fLen (aCons (xV (xVar 1)) aNil))) aNil)) (tName 2)
  (sSeq (sSet 3 (xOp fIx (xV (xVar 1)) (xV (xVar 2))))
  (sSeq (sIf (tOr (tNot (tTruth (xV (xIsi "tuple" (xV (xVar 3)))))) (tOf (xOp fNe (xV (xCall fLen (aCons (xV (xVar 3)) aNil))) (xV (xC (.int 4))))))
  (Two.sRaise "BadCode" (vCons (xVar 2) (vCons (xC (.str "word")) vNil)))
  sNil)
  (sSeq (sIf (tOr (tNot (tTruth (xV (xIsi "str" (xV (xOp fIx (xV (xVar 3)) (xV (xC (.int 0))))))))) (tOf (xOp fNotIn (xV (xOp fIx (xV (xVar 3)) (xV (xC (.int 0))))) (xV (xTup (vCons (xC (.str "if")) (vCons (xC (.str "go")) vNil)))))))
  (Two.sRaise "BadCode" (vCons (xVar 2) (vCons (xC (.str "word")) vNil)))
  sNil)
  (sSeq (sIf (tNot (tTruth (xV (xFn F_is_stage (vCons (xOp fIx (xV (xVar 3)) (xV (xC (.int 1)))) vNil)))))
  (Two.sRaise "BadCode" (vCons (xVar 2) (vCons (xC (.str "stage")) vNil)))
  sNil)
  (sSeq (sIf (tNot (tTruth (xV (xFn F_is_asks (vCons (xVar 0) (vCons (xOp fIx (xV (xVar 3)) (xV (xC (.int 2)))) vNil))))))
  (Two.sRaise "BadCode" (vCons (xVar 2) (vCons (xC (.str "asks")) vNil)))
  sNil)
  (sSeq (sIf (tAnd (tOf (xOp fEq (xV (xOp fIx (xV (xVar 3)) (xV (xC (.int 0))))) (xV (xC (.str "go"))))) (tNot (tTruth (xV (xFn F_is_stage (vCons (xOp fIx (xV (xVar 3)) (xV (xC (.int 3)))) vNil))))))
  (Two.sRaise "BadCode" (vCons (xVar 2) (vCons (xC (.str "last")) vNil)))
  sNil)
  (sIf (tAnd (tOf (xOp fEq (xV (xOp fIx (xV (xVar 3)) (xV (xC (.int 0))))) (xV (xC (.str "if"))))) (tOr (tNot (tTruth (xV (xFn F_is_asks (vCons (xVar 0) (vCons (xOp fIx (xV (xVar 3)) (xV (xC (.int 3)))) vNil)))))) (tOf (xOp fEq (xV (xCall fLen (aCons (xV (xOp fIx (xV (xVar 3)) (xV (xC (.int 3))))) aNil))) (xV (xC (.int 0)))))))
  (Two.sRaise "BadCode" (vCons (xVar 2) (vCons (xC (.str "last")) vNil)))
  sNil))))))))
  (sRet (xCall fLen (aCons (xV (xVar 1)) aNil)))))
theorem N_check_code : FnScope ["tour", "thing", "at", "line"] ["tour", "thing"] (defScope (top 13)) := ⟨rfl, rfl, rfl, by decide +kernel, rfl, by decide +kernel, by decide +kernel⟩
theorem okF_check_code {P : Program} {w : World} {K : PySem.W.Frag} {mg : Str → Option Value} {base : Heap} {f : Addr} {fd : FuncData} (B : Bl mg) (Z : Xs P K mg) (hm : mg "check_code" = some (.ref f)) (F : FunD K "check_code" "check_code" (defArgs (top 13)) (defBody (top 13)) (defScope (top 13)) [] [] f fd) (D_is_asks : Def P w K mg base "is_asks" 3 F_is_asks) (D_is_stage : Def P w K mg base "is_stage" 2 F_is_stage) : FnOk P w K mg base (L2.CX P w) 4 f fd ["tour", "thing"] (spF K F_check_code) := by
  unfold F_check_code
  exact def_fn F N_check_code fun cdv A outer s H E c hr tk hp =>
  (ss_cons (s_if (t_w (w_or (t_not (t_truth (o_v (e_isi okT_tuple B.b_isinstance B.b_tuple (o_v (e_var (i := 1))))))) (w_or1 (t_cmp op_gt g_gt (o_v (g_callB mon_val c_len g_len B.b_len (ao_cons (o_v (e_var (i := 1))) ao_nil))) (o_v e_int) (nomark _)))))
  (ss_one (Two.s_raise rfl Z.bs_BadCode hr tk (av_cons (g_un mon_val un_neg g_neg (o_v e_int)) (av_cons e_str av_nil))))
  ss_nil)
  (ss_cons (s_for hp rfl (it_range1 B.b_range (ao_cons (o_v (g_callB mon_val c_len g_len B.b_len (ao_cons (o_v (e_var (i := 1))) ao_nil))) ao_nil)) (gt_name N_check_code.nd (i := 2)) (fun c =>
  (ss_cons (s_set (i := 3) N_check_code.nd (g_ix mon_val (i_ix hr.units) g_ixA (o_v (e_var (i := 1))) (o_v (e_var (i := 2)))))
  (ss_cons (s_if (t_w (w_or (t_not (t_truth (o_v (e_isi okT_tuple B.b_isinstance B.b_tuple (o_v (e_var (i := 3))))))) (w_or1 (t_cmp (o_ne hr.units) g_ne (o_v (g_callB mon_val c_len g_len B.b_len (ao_cons (o_v (e_var (i := 3))) ao_nil))) (o_v e_int) (nomark _)))))
  (ss_one (Two.s_raise rfl Z.bs_BadCode hr tk (av_cons (e_var (i := 2)) (av_cons e_str av_nil))))
  ss_nil)
  (ss_cons (s_if (t_w (w_or (t_not (t_truth (o_v (e_isi okT_str B.b_isinstance B.b_str (o_v (g_ix mon_val (i_ix hr.units) g_ixA (o_v (e_var (i := 3))) (o_v e_int))))))) (w_or1 (t_cmp (o_notIn hr.units) g_notIn (o_v (g_ix mon_val (i_ix hr.units) g_ixA (o_v (e_var (i := 3))) (o_v e_int))) (o_v (e_tup (av_cons e_str (av_cons e_str av_nil)))) (by rfl)))))
  (ss_one (Two.s_raise rfl Z.bs_BadCode hr tk (av_cons (e_var (i := 2)) (av_cons e_str av_nil))))
  ss_nil)
  (ss_cons (s_if (t_not (t_truth (o_v (e_fn D_is_stage (hr.mono (by decide)) tk (av_cons (g_ix mon_val (i_ix hr.units) g_ixA (o_v (e_var (i := 3))) (o_v e_int)) av_nil)))))
  (ss_one (Two.s_raise rfl Z.bs_BadCode hr tk (av_cons (e_var (i := 2)) (av_cons e_str av_nil))))
  ss_nil)
  (ss_cons (s_if (t_not (t_truth (o_v (e_fn D_is_asks (hr.mono (by decide)) tk (av_cons (e_var (i := 0)) (av_cons (g_ix mon_val (i_ix hr.units) g_ixA (o_v (e_var (i := 3))) (o_v e_int)) av_nil))))))
  (ss_one (Two.s_raise rfl Z.bs_BadCode hr tk (av_cons (e_var (i := 2)) (av_cons e_str av_nil))))
  ss_nil)
  (ss_cons (s_if (t_w (w_and (t_cmp (o_eq hr.units) g_eq (o_v (g_ix mon_val (i_ix hr.units) g_ixA (o_v (e_var (i := 3))) (o_v e_int))) (o_v e_str) (nomark _)) (w_and1 (t_not (t_truth (o_v (e_fn D_is_stage (hr.mono (by decide)) tk (av_cons (g_ix mon_val (i_ix hr.units) g_ixA (o_v (e_var (i := 3))) (o_v e_int)) av_nil))))))))
  (ss_one (Two.s_raise rfl Z.bs_BadCode hr tk (av_cons (e_var (i := 2)) (av_cons e_str av_nil))))
  ss_nil)
  (ss_one (s_if (t_w (w_and (t_cmp (o_eq hr.units) g_eq (o_v (g_ix mon_val (i_ix hr.units) g_ixA (o_v (e_var (i := 3))) (o_v e_int))) (o_v e_str) (nomark _)) (w_and1 (t_w (w_or (t_not (t_truth (o_v (e_fn D_is_asks (hr.mono (by decide)) tk (av_cons (e_var (i := 0)) (av_cons (g_ix mon_val (i_ix hr.units) g_ixA (o_v (e_var (i := 3))) (o_v e_int)) av_nil)))))) (w_or1 (t_cmp (o_eq hr.units) g_eq (o_v (g_callB mon_val c_len g_len B.b_len (ao_cons (o_v (g_ix mon_val (i_ix hr.units) g_ixA (o_v (e_var (i := 3))) (o_v e_int))) ao_nil))) (o_v e_int) (nomark _))))))))
  (ss_one (Two.s_raise rfl Z.bs_BadCode hr tk (av_cons (e_var (i := 2)) (av_cons e_str av_nil))))
  ss_nil))))))))))
  (ss_one (s_ret (g_callB mon_val c_len g_len B.b_len (ao_cons (o_v (e_var (i := 1))) ao_nil))))))
theorem ok_check_code {P : Program} {w : World} {K : PySem.W.Frag} {mg : Str → Option Value} {base : Heap} {f : Addr} {fd : FuncData} (B : Bl mg) (Z : Xs P K mg) (hm : mg "check_code" = some (.ref f)) (F : FunD K "check_code" "check_code" (defArgs (top 13)) (defBody (top 13)) (defScope (top 13)) [] [] f fd) (D_is_asks : Def P w K mg base "is_asks" 3 F_is_asks) (D_is_stage : Def P w K mg base "is_stage" 2 F_is_stage) : Def P w K mg base "check_code" 4 F_check_code := ⟨f, fd, ["tour", "thing"], okF_check_code B Z hm F D_is_asks D_is_stage, hm, F.kp, F.bindsN fun _ _ _ _ _ _ us hl => match us, hl with | [_, _], _ => rfl⟩
theorem okK_check_code_0 {P : Program} {w : World} {K : PySem.W.Frag} {mg : Str → Option Value} {base : Heap} {f : Addr} {fd : FuncData} (B : Bl mg) (Z : Xs P K mg) (hm : mg "check_code" = some (.ref f)) (F : FunD K "check_code" "check_code" (defArgs (top 13)) (defBody (top 13)) (defScope (top 13)) [] [] f fd) (D_is_asks : Def P w K mg base "is_asks" 3 F_is_asks) (D_is_stage : Def P w K mg base "is_stage" 2 F_is_stage) : DefK P w K mg base "check_code" 4 F_check_code ["thing", "tour"] [1, 0] := ⟨f, fd, ["tour", "thing"], okF_check_code B Z hm F D_is_asks D_is_stage, hm, F.kp, kb_of F fun _ _ _ _ _ _ ws hl => match ws, hl with | [_, _], _ => rfl⟩
@[irreducible] def F_is_code : FM := mFun 2 2 (sSeq (sTry0 ["BadCode"]
  (sDrop (xFn F_check_code (vCons (xVar 0) (vCons (xVar 1) vNil))))
  (sRet (xC (.bl false))))
  (sRet (xC (.bl true))))
theorem N_is_code : FnScope ["tour", "thing"] ["tour", "thing"] (defScope (top 14)) := ⟨rfl, rfl, rfl, by decide +kernel, rfl, by decide +kernel, by decide +kernel⟩
theorem ok_is_code {P : Program} {w : World} {K : PySem.W.Frag} {mg : Str → Option Value} {base : Heap} {f : Addr} {fd : FuncData} (B : Bl mg) (Z : Xs P K mg) (hm : mg "is_code" = some (.ref f)) (F : FunD K "is_code" "is_code" (defArgs (top 14)) (defBody (top 14)) (defScope (top 14)) [] [] f fd) (D_check_code : Def P w K mg base "check_code" 4 F_check_code) : Def P w K mg base "is_code" 5 F_is_code := by
  unfold F_is_code
  exact def_ok F N_is_code hm (F.bindsN fun _ _ _ _ _ _ us hl => match us, hl with | [_, _], _ => rfl) fun cdv A outer s H E c hr tk hp =>
  (ss_cons (s_try0 ["BadCode"] tk ⟨rfl, by decide, .inl Z.g_BadCode⟩ (fun y hy => List.mem_singleton.mp hy ▸ Z.ex_BadCode.em) (fun W pn xe tk hp =>
  (ss_one (s_drop (e_fn D_check_code (hr.mono (by decide)) tk (av_cons (e_var (i := 0)) (av_cons (e_var (i := 1)) av_nil)))))) (fun a oe cls d pn hz hf =>
  (ss_one (s_ret e_bl))))
  (ss_one (s_ret e_bl)))
@[irreducible] def F__law_pan : FM := mFun 4 1 (sSeq (sOwn 1 (xLst (vCons (xC (.int 33133)) (vCons (xC (.int 0)) (vCons (xC (.int 0)) (vCons (xPut (xDct (.dK []))) vNil))))))
  (sSeq (sFor (xSrc (xSl fSl (xV (xVar 0)) pNone (pSome (xC (.int 58))))) (tName 2)
  (sSeq (sSet 3 (xOp fMod (xV (xCall fAbs (aCons (xV (xCall fInt (aCons (xV (xVar 2)) aNil))) aNil))) (xV (xOp fShl (xV (xC (.int 1))) (xV (xC (.int 1300)))))))
  (sSeq (sOwnSt 1 cellSet (xOp fMod (xV (xCall fInt (aCons (xOp fAdd (xOp fAdd (xOp fMul (xV (xOp fIx (xOwn 1) (xV (xC (.int 0))))) (xV (xC (.int 48271)))) (xV (xOp fMod (xV (xVar 3)) (xV (xC (.int 1000000181)))))) (xV (xC (.int 2)))) aNil))) (xV (xC (.int 2305843009213693613)))) (xC (.int 0)))
  (sIf (tOf (xOp fGe (xV (xVar 3)) (xV (xOp fPow (xV (xC (.int 10))) (xV (xC (.int 18)))))))
  (sOwnSt 1 cellSet (xVar 3) (xC (.int 1)))
  sNil))))
  (sRetOwn 1)))
theorem N__law_pan : FnScope ["script", "pan", "cell", "size"] ["script"] (defScope (top 16)) := ⟨rfl, rfl, rfl, by decide +kernel, rfl, by decide +kernel, by decide +kernel⟩
theorem ok__law_pan {P : Program} {w : World} {K : PySem.W.Frag} {mg : Str → Option Value} {base : Heap} {f : Addr} {fd : FuncData} (B : Bl mg) (Z : Xs P K mg) (hm : mg "_law_pan" = some (.ref f)) (F : FunD K "_law_pan" "_law_pan" (defArgs (top 16)) (defBody (top 16)) (defScope (top 16)) [] [] f fd) : Def P w K mg base "_law_pan" 1 F__law_pan := by
  unfold F__law_pan
  exact def_ok F N__law_pan hm (F.bindsN fun _ _ _ _ _ _ us hl => match us, hl with | [_], _ => rfl) fun cdv A outer s H E c hr tk hp =>
  (ss_cons (s_own (i := 1) N__law_pan.nd (n_lst (av_cons e_int (av_cons e_int (av_cons e_int (av_cons (e_put n_dctK) av_nil))))))
  (ss_cons (s_for hp rfl (it_f (g_sl mon_fr i_sl g_slA (o_v (e_var (i := 0))) op_none (op_some e_int))) (gt_name N__law_pan.nd (i := 2)) (fun c =>
  (ss_cons (s_set (i := 3) N__law_pan.nd (g_op mon_val op_mod g_mod (o_v (g_callB mon_val call_abs g_abs B.b_abs (ao_cons (o_v (g_callTy mon_val call_int1 g_int B.b_int (ao_cons (o_v (e_var (i := 2))) ao_nil))) ao_nil))) (o_v (g_op mon_val op_shl g_shl (o_v e_int) (o_v e_int)))))
  (ss_cons (s_ownSt (i := 1) (p_set hr.units) g_ownSet (g_op mon_val op_mod g_mod (o_v (g_callTy mon_val call_int1 g_int B.b_int (ao_cons (o_f (g_op mon_fr o_add g_add (o_f (g_op mon_fr o_add g_add (o_f (g_op mon_fr o_mul g_mul (o_v (g_ix mon_val (i_ix hr.units) g_ixA (o_own (i := 1)) (o_v e_int))) (o_v e_int))) (o_v (g_op mon_val op_mod g_mod (o_v (e_var (i := 3))) (o_v e_int))))) (o_v e_int))) ao_nil))) (o_v e_int)) e_int)
  (ss_one (s_if (t_cmp op_ge g_ge (o_v (e_var (i := 3))) (o_v (g_op mon_val op_pow g_pow (o_v e_int) (o_v e_int))) (nomark _))
  (ss_one (s_ownSt (i := 1) (p_set hr.units) g_ownSet (e_var (i := 3)) e_int))
  ss_nil))))))
  (ss_one (s_retOwn (i := 1)))))
@[irreducible] def F__law_grain : FM := mFun 6 3 (sSeq (sIf (tOf (xOp fLt (xV (xVar 2)) (xV (xC (.int 2)))))
  (sRet (xC (.int 0)))
  sNil)
  (sSeq (sStore fSet (xPutF (xOp fAdd (xV (xOp fIx (xV (xVar 0)) (xV (xC (.int 2))))) (xV (xC (.int 1))))) (xVar 0) (xC (.int 2)))
  (sSeq (sIf (tOf (xOp fGe (xV (xOp fIx (xV (xVar 0)) (xV (xC (.int 1))))) (xV (xVar 2))))
  (sSeq (sSet 3 (xOp fMod (xV (xCall fInt (aCons (xV (xOp fIx (xV (xVar 0)) (xV (xC (.int 1))))) aNil))) (xV (xVar 2))))
  (sSeq (sStore fSet (xOp fDiv (xV (xOp fIx (xV (xVar 0)) (xV (xC (.int 1))))) (xV (xVar 2))) (xVar 0) (xC (.int 1)))
  (sRet (xVar 3))))
  sNil)
  (sSeq (sStore fSet (xOp fMod (xV (xCall fInt (aCons (xOp fAdd (xOp fAdd (xOp fMul (xV (xOp fIx (xV (xVar 0)) (xV (xC (.int 0))))) (xV (xC (.int 3512401965023503517)))) (xOp fMul (xV (xOp fIx (xV (xVar 0)) (xV (xC (.int 2))))) (xV (xC (.int 101))))) (xV (xC (.int 17)))) aNil))) (xV (xC (.int 2305843009213693613)))) (xVar 0) (xC (.int 0)))
  (sSeq (sIf (tOf (xOp fNotIn (xV (xVar 1)) (xV (xOp fIx (xV (xVar 0)) (xV (xC (.int 3)))))))
  (sStore fSet (xTup (vCons (xOp fMod (xV (xCall fInt (aCons (xV (xOp fShr (xV (xOp fIx (xV (xVar 0)) (xV (xC (.int 0))))) (xV (xC (.int 13))))) aNil))) (xV (xC (.int 16)))) (vCons (xCall fInt (aCons (xV (xOp fShr (xV (xOp fIx (xV (xVar 0)) (xV (xC (.int 0))))) (xV (xC (.int 31))))) aNil)) vNil))) (xOp fIx (xV (xVar 0)) (xV (xC (.int 3)))) (xVar 1))
  sNil)
  (sSeq (sTgt (tTup 2 (tCons (tName 4) (tCons (tName 5) tNil))) (xOp fIx (xV (xOp fIx (xV (xVar 0)) (xV (xC (.int 3))))) (xV (xVar 1))))
  (sSeq (sIf (tOf (xOp fLt (xV (xVar 4)) (xV (xC (.int 3)))))
  (sRet (xOp fIx (xV (xTup (vCons (xC (.int 0)) (vCons (xOp fSub (xV (xVar 2)) (xV (xC (.int 1)))) (vCons (xOp fMod (xV (xCall fInt (aCons (xV (xVar 5)) aNil))) (xV (xVar 2))) vNil))))) (xV (xVar 4))))
  sNil)
  (sRet (xOp fMod (xV (xCall fInt (aCons (xV (xOp fShr (xV (xOp fIx (xV (xVar 0)) (xV (xC (.int 0))))) (xV (xC (.int 21))))) aNil))) (xV (xVar 2)))))))))))
theorem N__law_grain : FnScope ["pan", "place", "many", "told", "habit", "fixed"] ["pan", "place", "many"] (defScope (top 17)) := ⟨rfl, rfl, rfl, by decide +kernel, rfl, by decide +kernel, by decide +kernel⟩
theorem ok__law_grain {P : Program} {w : World} {K : PySem.W.Frag} {mg : Str → Option Value} {base : Heap} {f : Addr} {fd : FuncData} (B : Bl mg) (Z : Xs P K mg) (hm : mg "_law_grain" = some (.ref f)) (F : FunD K "_law_grain" "_law_grain" (defArgs (top 17)) (defBody (top 17)) (defScope (top 17)) [] [] f fd) : Def P w K mg base "_law_grain" 1 F__law_grain := by
  unfold F__law_grain
  exact def_ok F N__law_grain hm (F.bindsN fun _ _ _ _ _ _ us hl => match us, hl with | [_, _, _], _ => rfl) fun cdv A outer s H E c hr tk hp =>
  (ss_cons (s_if (t_cmp o_lt g_lt (o_v (e_var (i := 2))) (o_v e_int) (nomark _))
  (ss_one (s_ret e_int))
  ss_nil)
  (ss_cons (s_store (p_set hr.units) g_set (e_f (g_op mon_fr o_add g_add (o_v (g_ix mon_val (i_ix hr.units) g_ixA (o_v (e_var (i := 0))) (o_v e_int))) (o_v e_int))) (e_var (i := 0)) e_int)
  (ss_cons (s_if (t_cmp op_ge g_ge (o_v (g_ix mon_val (i_ix hr.units) g_ixA (o_v (e_var (i := 0))) (o_v e_int))) (o_v (e_var (i := 2))) (nomark _))
  (ss_cons (s_set (i := 3) N__law_grain.nd (g_op mon_val op_mod g_mod (o_v (g_callTy mon_val call_int1 g_int B.b_int (ao_cons (o_v (g_ix mon_val (i_ix hr.units) g_ixA (o_v (e_var (i := 0))) (o_v e_int))) ao_nil))) (o_v (e_var (i := 2)))))
  (ss_cons (s_store (p_set hr.units) g_set (g_op mon_val op_fdiv g_div (o_v (g_ix mon_val (i_ix hr.units) g_ixA (o_v (e_var (i := 0))) (o_v e_int))) (o_v (e_var (i := 2)))) (e_var (i := 0)) e_int)
  (ss_one (s_ret (e_var (i := 3))))))
  ss_nil)
  (ss_cons (s_store (p_set hr.units) g_set (g_op mon_val op_mod g_mod (o_v (g_callTy mon_val call_int1 g_int B.b_int (ao_cons (o_f (g_op mon_fr o_add g_add (o_f (g_op mon_fr o_add g_add (o_f (g_op mon_fr o_mul g_mul (o_v (g_ix mon_val (i_ix hr.units) g_ixA (o_v (e_var (i := 0))) (o_v e_int))) (o_v e_int))) (o_f (g_op mon_fr o_mul g_mul (o_v (g_ix mon_val (i_ix hr.units) g_ixA (o_v (e_var (i := 0))) (o_v e_int))) (o_v e_int))))) (o_v e_int))) ao_nil))) (o_v e_int)) (e_var (i := 0)) e_int)
  (ss_cons (s_if (t_cmp (o_notIn hr.units) g_notIn (o_v (e_var (i := 1))) (o_v (g_ix mon_val (i_ix hr.units) g_ixA (o_v (e_var (i := 0))) (o_v e_int))) (by rfl))
  (ss_one (s_store (p_set hr.units) g_set (e_tup (av_cons (g_op mon_val op_mod g_mod (o_v (g_callTy mon_val call_int1 g_int B.b_int (ao_cons (o_v (g_op mon_val op_shr g_shr (o_v (g_ix mon_val (i_ix hr.units) g_ixA (o_v (e_var (i := 0))) (o_v e_int))) (o_v e_int))) ao_nil))) (o_v e_int)) (av_cons (g_callTy mon_val call_int1 g_int B.b_int (ao_cons (o_v (g_op mon_val op_shr g_shr (o_v (g_ix mon_val (i_ix hr.units) g_ixA (o_v (e_var (i := 0))) (o_v e_int))) (o_v e_int))) ao_nil)) av_nil))) (g_ix mon_val (i_ix hr.units) g_ixA (o_v (e_var (i := 0))) (o_v e_int)) (e_var (i := 1))))
  ss_nil)
  (ss_cons (s_tgt (g_ix mon_val (i_ix hr.units) g_ixA (o_v (g_ix mon_val (i_ix hr.units) g_ixA (o_v (e_var (i := 0))) (o_v e_int))) (o_v (e_var (i := 1)))) (gt_tup rfl (gts_cons (gt_name N__law_grain.nd (i := 4)) (gts_cons (gt_name N__law_grain.nd (i := 5)) gts_nil))))
  (ss_cons (s_if (t_cmp o_lt g_lt (o_v (e_var (i := 4))) (o_v e_int) (nomark _))
  (ss_one (s_ret (g_ix mon_val (i_ix hr.units) g_ixA (o_v (e_tup (av_cons e_int (av_cons (g_op mon_val op_sub g_sub (o_v (e_var (i := 2))) (o_v e_int)) (av_cons (g_op mon_val op_mod g_mod (o_v (g_callTy mon_val call_int1 g_int B.b_int (ao_cons (o_v (e_var (i := 5))) ao_nil))) (o_v (e_var (i := 2)))) av_nil))))) (o_v (e_var (i := 4))))))
  ss_nil)
  (ss_one (s_ret (g_op mon_val op_mod g_mod (o_v (g_callTy mon_val call_int1 g_int B.b_int (ao_cons (o_v (g_op mon_val op_shr g_shr (o_v (g_ix mon_val (i_ix hr.units) g_ixA (o_v (e_var (i := 0))) (o_v e_int))) (o_v e_int))) ao_nil))) (o_v (e_var (i := 2)))))))))))))
@[irreducible] def F__law_pairs : FM := mFun 5 3 (sSeq (sSet 3 (xFn F__law_grain (vCons (xVar 0) (vCons (xC (.int 1)) (vCons (xVar 1) vNil)))))
  (sRet (xCall fTuple (aCons (xN (xComp (xRng1 (aCons (xV (xVar 1)) aNil)) (tName 4) [4] (tOr (tAnd (tOf (xOp fEq (xV (xVar 4)) (xV (xVar 3)))) (tOf (xOp fGt (xV (xVar 2)) (xV (xC (.int 0)))))) (tOf (xOp fEq (xV (xFn F__law_grain (vCons (xVar 0) (vCons (xC (.int 3)) (vCons (xC (.int 3)) vNil))))) (xV (xC (.int 0)))))) (xTup (vCons (xVar 4) (vCons (xFn F__law_grain (vCons (xVar 0) (vCons (xC (.int 2)) (vCons (xC (.int 2)) vNil)))) vNil))))) aNil))))
theorem N__law_pairs : FnScope ["pan", "many", "least", "first", "one"] ["pan", "many", "least"] (defScope (top 18)) := ⟨rfl, rfl, rfl, by decide +kernel, rfl, by decide +kernel, by decide +kernel⟩
theorem ok__law_pairs {P : Program} {w : World} {K : PySem.W.Frag} {mg : Str → Option Value} {base : Heap} {f : Addr} {fd : FuncData} (B : Bl mg) (Z : Xs P K mg) (hm : mg "_law_pairs" = some (.ref f)) (F : FunD K "_law_pairs" "_law_pairs" (defArgs (top 18)) (defBody (top 18)) (defScope (top 18)) [] [] f fd) (D__law_grain : Def P w K mg base "_law_grain" 1 F__law_grain) : Def P w K mg base "_law_pairs" 2 F__law_pairs := by
  unfold F__law_pairs
  exact def_ok F N__law_pairs hm (F.bindsN fun _ _ _ _ _ _ us hl => match us, hl with | [_, _, _], _ => rfl) fun cdv A outer s H E c hr tk hp =>
  (ss_cons (s_set (i := 3) N__law_pairs.nd (e_fn D__law_grain (hr.mono (by decide)) tk (av_cons (e_var (i := 0)) (av_cons e_int (av_cons (e_var (i := 1)) av_nil)))))
  (ss_one (s_ret (g_callTy mon_val call_tuple_of g_tuple B.b_tuple (ao_cons (o_n (n_comp (own := [("one", 4)]) rfl N__law_pairs.nd (itV_of (it_range1 B.b_range (ao_cons (o_v (e_var (i := 1))) ao_nil))) (show BlkOk ["pan", "many", "least", "first", "one"] (defScope (top 18)) ({ kind := PySem.ScopeKind.function, names := [ (PySem.Str.ofString ".0", PySem.NameKind.local), (PySem.Str.ofString "one", PySem.NameKind.local), (PySem.Str.ofString "_law_grain", PySem.NameKind.globalImplicit), (PySem.Str.ofString "first", PySem.NameKind.free), (PySem.Str.ofString "least", PySem.NameKind.free), (PySem.Str.ofString "pan", PySem.NameKind.free)], isGenerator := false, isCoroutine := false, more := [] : PySem.Scope }) [("one", 4)] from ⟨rfl, by decide +kernel, by decide +kernel, by decide +kernel, by decide +kernel⟩) (by decide) (fun _ _ _ _ _ => (gt_name N__law_pairs.nd (i := 4))) (fun _ _ _ _ _ => (tts_one (t_w (w_or (t_w (w_and (t_cmp (o_eq hr.units) g_eq (o_v (e_var (i := 4))) (o_v (e_var (i := 3))) (nomark _)) (w_and1 (t_cmp op_gt g_gt (o_v (e_var (i := 2))) (o_v e_int) (nomark _))))) (w_or1 (t_cmp (o_eq hr.units) g_eq (o_v (e_fn D__law_grain (hr.mono (by decide)) takes0 (av_cons (e_var (i := 0)) (av_cons e_int (av_cons e_int av_nil))))) (o_v e_int) (nomark _))))))) (fun _ _ _ _ _ => (e_tup (av_cons (e_var (i := 4)) (av_cons (e_fn D__law_grain (hr.mono (by decide)) takes0 (av_cons (e_var (i := 0)) (av_cons e_int (av_cons e_int av_nil)))) av_nil)))))) ao_nil)))))
@[irreducible] def F__law_stage : FM := mFun 1 1 (sRet (xOp fIx (xV (xTup (vCons (xC (.int 0)) (vCons (xC (.int 59)) (vCons (xC (.int 1)) (vCons (xFn F__law_grain (vCons (xVar 0) (vCons (xC (.int 4)) (vCons (xC (.int 60)) vNil)))) vNil)))))) (xV (xFn F__law_grain (vCons (xVar 0) (vCons (xC (.int 5)) (vCons (xC (.int 4)) vNil)))))))
theorem N__law_stage : FnScope ["pan"] ["pan"] (defScope (top 19)) := ⟨rfl, rfl, rfl, by decide +kernel, rfl, by decide +kernel, by decide +kernel⟩
theorem ok__law_stage {P : Program} {w : World} {K : PySem.W.Frag} {mg : Str → Option Value} {base : Heap} {f : Addr} {fd : FuncData} (B : Bl mg) (Z : Xs P K mg) (hm : mg "_law_stage" = some (.ref f)) (F : FunD K "_law_stage" "_law_stage" (defArgs (top 19)) (defBody (top 19)) (defScope (top 19)) [] [] f fd) (D__law_grain : Def P w K mg base "_law_grain" 1 F__law_grain) : Def P w K mg base "_law_stage" 2 F__law_stage := by
  unfold F__law_stage
  exact def_ok F N__law_stage hm (F.bindsN fun _ _ _ _ _ _ us hl => match us, hl with | [_], _ => rfl) fun cdv A outer s H E c hr tk hp =>
  (ss_one (s_ret (g_ix mon_val (i_ix hr.units) g_ixA (o_v (e_tup (av_cons e_int (av_cons e_int (av_cons e_int (av_cons (e_fn D__law_grain (hr.mono (by decide)) tk (av_cons (e_var (i := 0)) (av_cons e_int (av_cons e_int av_nil)))) av_nil)))))) (o_v (e_fn D__law_grain (hr.mono (by decide)) tk (av_cons (e_var (i := 0)) (av_cons e_int (av_cons e_int av_nil))))))))
@[irreducible] def F__law_line : FM := mFun 3 2 (sSeq (sSet 2 (xFn F__law_pairs (vCons (xVar 0) (vCons (xVar 1) (vCons (xC (.int 0)) vNil)))))
  (sSeq (sIf (tOf (xOp fEq (xV (xFn F__law_grain (vCons (xVar 0) (vCons (xC (.int 6)) (vCons (xC (.int 3)) vNil))))) (xV (xC (.int 0)))))
  (sRet (xTup (vCons (xC (.str "go")) (vCons (xFn F__law_stage (vCons (xVar 0) vNil)) (vCons (xVar 2) (vCons (xFn F__law_stage (vCons (xVar 0) vNil)) vNil))))))
  sNil)
  (sRet (xTup (vCons (xC (.str "if")) (vCons (xFn F__law_stage (vCons (xVar 0) vNil)) (vCons (xVar 2) (vCons (xFn F__law_pairs (vCons (xVar 0) (vCons (xVar 1) (vCons (xC (.int 1)) vNil)))) vNil))))))))
theorem N__law_line : FnScope ["pan", "many", "asks"] ["pan", "many"] (defScope (top 20)) := ⟨rfl, rfl, rfl, by decide +kernel, rfl, by decide +kernel, by decide +kernel⟩
theorem ok__law_line {P : Program} {w : World} {K : PySem.W.Frag} {mg : Str → Option Value} {base : Heap} {f : Addr} {fd : FuncData} (B : Bl mg) (Z : Xs P K mg) (hm : mg "_law_line" = some (.ref f)) (F : FunD K "_law_line" "_law_line" (defArgs (top 20)) (defBody (top 20)) (defScope (top 20)) [] [] f fd) (D__law_pairs : Def P w K mg base "_law_pairs" 2 F__law_pairs) (D__law_stage : Def P w K mg base "_law_stage" 2 F__law_stage) (D__law_grain : Def P w K mg base "_law_grain" 1 F__law_grain) : Def P w K mg base "_law_line" 3 F__law_line := by
  unfold F__law_line
  exact def_ok F N__law_line hm (F.bindsN fun _ _ _ _ _ _ us hl => match us, hl with | [_, _], _ => rfl) fun cdv A outer s H E c hr tk hp =>
  (ss_cons (s_set (i := 2) N__law_line.nd (e_fn D__law_pairs (hr.mono (by decide)) tk (av_cons (e_var (i := 0)) (av_cons (e_var (i := 1)) (av_cons e_int av_nil)))))
  (ss_cons (s_if (t_cmp (o_eq hr.units) g_eq (o_v (e_fn D__law_grain (hr.mono (by decide)) tk (av_cons (e_var (i := 0)) (av_cons e_int (av_cons e_int av_nil))))) (o_v e_int) (nomark _))
  (ss_one (s_ret (e_tup (av_cons e_str (av_cons (e_fn D__law_stage (hr.mono (by decide)) tk (av_cons (e_var (i := 0)) av_nil)) (av_cons (e_var (i := 2)) (av_cons (e_fn D__law_stage (hr.mono (by decide)) tk (av_cons (e_var (i := 0)) av_nil)) av_nil)))))))
  ss_nil)
  (ss_one (s_ret (e_tup (av_cons e_str (av_cons (e_fn D__law_stage (hr.mono (by decide)) tk (av_cons (e_var (i := 0)) av_nil)) (av_cons (e_var (i := 2)) (av_cons (e_fn D__law_pairs (hr.mono (by decide)) tk (av_cons (e_var (i := 0)) (av_cons (e_var (i := 1)) (av_cons e_int av_nil)))) av_nil)))))))))
@[irreducible] def F__law_number : FM := mFun 2 2 (sRet (xAnd (xIsi "int" (xV (xVar 0))) (xAnd (xNot (xV (xIsi "bool" (xV (xVar 0))))) (xChain fLe fLe (xV (xC (.int 0))) (xV (xVar 0)) (xV (xVar 1))))))
theorem N__law_number : FnScope ["thing", "most"] ["thing", "most"] (defScope (top 21)) := ⟨rfl, rfl, rfl, by decide +kernel, rfl, by decide +kernel, by decide +kernel⟩
theorem ok__law_number {P : Program} {w : World} {K : PySem.W.Frag} {mg : Str → Option Value} {base : Heap} {f : Addr} {fd : FuncData} (B : Bl mg) (Z : Xs P K mg) (hm : mg "_law_number" = some (.ref f)) (F : FunD K "_law_number" "_law_number" (defArgs (top 21)) (defBody (top 21)) (defScope (top 21)) [] [] f fd) : Def P w K mg base "_law_number" 1 F__law_number := by
  unfold F__law_number
  exact def_ok F N__law_number hm (F.bindsN fun _ _ _ _ _ _ us hl => match us, hl with | [_, _], _ => rfl) fun cdv A outer s H E c hr tk hp =>
  (ss_one (s_ret (e_and (e_isi okT_int B.b_isinstance B.b_int (o_v (e_var (i := 0)))) (e_and (e_not (o_v (e_isi okT_bool B.b_isinstance B.b_bool (o_v (e_var (i := 0)))))) (e_one (e_chain op_le g_le op_le g_le (o_v e_int) (o_v (e_var (i := 0))) (o_v (e_var (i := 1)))))))))
@[irreducible] def F__law_pairs_good : FM := mFun 4 2 (sSeq (sIf (tNot (tTruth (xV (xIsi "tuple" (xV (xVar 1))))))
  (sRet (xC (.bl false)))
  sNil)
  (sSeq (sSet 2 (xUn fNeg (xV (xC (.int 1)))))
  (sSeq (sFor (xSrc (xV (xVar 1))) (tName 3)
  (sSeq (sIf (tOr (tNot (tTruth (xV (xIsi "tuple" (xV (xVar 3)))))) (tOr (tOf (xOp fNe (xV (xCall fLen (aCons (xV (xVar 3)) aNil))) (xV (xC (.int 2))))) (tOr (tNot (tTruth (xV (xFn F__law_number (vCons (xOp fIx (xV (xVar 3)) (xV (xC (.int 0)))) (vCons (xOp fSub (xV (xVar 0)) (xV (xC (.int 1)))) vNil)))))) (tOr (tNot (tTruth (xV (xFn F__law_number (vCons (xOp fIx (xV (xVar 3)) (xV (xC (.int 1)))) (vCons (xC (.int 1)) vNil)))))) (tOf (xOp fLe (xV (xOp fIx (xV (xVar 3)) (xV (xC (.int 0))))) (xV (xVar 2))))))))
  (sRet (xC (.bl false)))
  sNil)
  (sSet 2 (xOp fIx (xV (xVar 3)) (xV (xC (.int 0)))))))
  (sRet (xC (.bl true))))))
theorem N__law_pairs_good : FnScope ["many", "thing", "last", "pair"] ["many", "thing"] (defScope (top 22)) := ⟨rfl, rfl, rfl, by decide +kernel, rfl, by decide +kernel, by decide +kernel⟩
theorem ok__law_pairs_good {P : Program} {w : World} {K : PySem.W.Frag} {mg : Str → Option Value} {base : Heap} {f : Addr} {fd : FuncData} (B : Bl mg) (Z : Xs P K mg) (hm : mg "_law_pairs_good" = some (.ref f)) (F : FunD K "_law_pairs_good" "_law_pairs_good" (defArgs (top 22)) (defBody (top 22)) (defScope (top 22)) [] [] f fd) (D__law_number : Def P w K mg base "_law_number" 1 F__law_number) : Def P w K mg base "_law_pairs_good" 2 F__law_pairs_good := by
  unfold F__law_pairs_good
  exact def_ok F N__law_pairs_good hm (F.bindsN fun _ _ _ _ _ _ us hl => match us, hl with | [_, _], _ => rfl) fun cdv A outer s H E c hr tk hp =>
  (ss_cons (s_if (t_not (t_truth (o_v (e_isi okT_tuple B.b_isinstance B.b_tuple (o_v (e_var (i := 1)))))))
  (ss_one (s_ret e_bl))
  ss_nil)
  (ss_cons (s_set (i := 2) N__law_pairs_good.nd (g_un mon_val un_neg g_neg (o_v e_int)))
  (ss_cons (s_for hp rfl (it_v (e_var (i := 1))) (gt_name N__law_pairs_good.nd (i := 3)) (fun c =>
  (ss_cons (s_if (t_w (w_or (t_not (t_truth (o_v (e_isi okT_tuple B.b_isinstance B.b_tuple (o_v (e_var (i := 3))))))) (w_or (t_cmp (o_ne hr.units) g_ne (o_v (g_callB mon_val c_len g_len B.b_len (ao_cons (o_v (e_var (i := 3))) ao_nil))) (o_v e_int) (nomark _)) (w_or (t_not (t_truth (o_v (e_fn D__law_number (hr.mono (by decide)) tk (av_cons (g_ix mon_val (i_ix hr.units) g_ixA (o_v (e_var (i := 3))) (o_v e_int)) (av_cons (g_op mon_val op_sub g_sub (o_v (e_var (i := 0))) (o_v e_int)) av_nil)))))) (w_or (t_not (t_truth (o_v (e_fn D__law_number (hr.mono (by decide)) tk (av_cons (g_ix mon_val (i_ix hr.units) g_ixA (o_v (e_var (i := 3))) (o_v e_int)) (av_cons e_int av_nil)))))) (w_or1 (t_cmp op_le g_le (o_v (g_ix mon_val (i_ix hr.units) g_ixA (o_v (e_var (i := 3))) (o_v e_int))) (o_v (e_var (i := 2))) (nomark _))))))))
  (ss_one (s_ret e_bl))
  ss_nil)
  (ss_one (s_set (i := 2) N__law_pairs_good.nd (g_ix mon_val (i_ix hr.units) g_ixA (o_v (e_var (i := 3))) (o_v e_int)))))))
  (ss_one (s_ret e_bl)))))
@[irreducible] def F__law_fault : FM := mFun 4 2 (sSeq (sIf (tOr (tNot (tTruth (xV (xIsi "tuple" (xV (xVar 1)))))) (tOf (xOp fGt (xV (xCall fLen (aCons (xV (xVar 1)) aNil))) (xV (xC (.int 1000))))))
  (sRet (xTup (vCons (xUn fNeg (xV (xC (.int 1)))) (vCons (xC (.str "shape")) vNil))))
  sNil)
  (sSeq (sFor (xRng1 (aCons (xV (xCall fLen (aCons (xV (xVar 1)) aNil))) aNil)) (tName 2)
  (sSeq (sSet 3 (xOp fIx (xV (xVar 1)) (xV (xVar 2))))
  (sSeq (sIf (tOr (tNot (tTruth (xV (xIsi "tuple" (xV (xVar 3)))))) (tOr (tOf (xOp fNe (xV (xCall fLen (aCons (xV (xVar 3)) aNil))) (xV (xC (.int 4))))) (tOr (tNot (tTruth (xV (xIsi "str" (xV (xOp fIx (xV (xVar 3)) (xV (xC (.int 0))))))))) (tOf (xOp fNotIn (xV (xOp fIx (xV (xVar 3)) (xV (xC (.int 0))))) (xV (xTup (vCons (xC (.str "if")) (vCons (xC (.str "go")) vNil)))))))))
  (sRet (xTup (vCons (xVar 2) (vCons (xC (.str "word")) vNil))))
  sNil)
  (sSeq (sIf (tNot (tTruth (xV (xFn F__law_number (vCons (xOp fIx (xV (xVar 3)) (xV (xC (.int 1)))) (vCons (xC (.int 59)) vNil))))))
  (sRet (xTup (vCons (xVar 2) (vCons (xC (.str "stage")) vNil))))
  sNil)
  (sSeq (sIf (tNot (tTruth (xV (xFn F__law_pairs_good (vCons (xVar 0) (vCons (xOp fIx (xV (xVar 3)) (xV (xC (.int 2)))) vNil))))))
  (sRet (xTup (vCons (xVar 2) (vCons (xC (.str "asks")) vNil))))
  sNil)
  (sIf (tOr (tAnd (tOf (xOp fEq (xV (xOp fIx (xV (xVar 3)) (xV (xC (.int 0))))) (xV (xC (.str "go"))))) (tNot (tTruth (xV (xFn F__law_number (vCons (xOp fIx (xV (xVar 3)) (xV (xC (.int 3)))) (vCons (xC (.int 59)) vNil))))))) (tAnd (tOf (xOp fEq (xV (xOp fIx (xV (xVar 3)) (xV (xC (.int 0))))) (xV (xC (.str "if"))))) (tOr (tNot (tTruth (xV (xFn F__law_pairs_good (vCons (xVar 0) (vCons (xOp fIx (xV (xVar 3)) (xV (xC (.int 3)))) vNil)))))) (tOf (xOp fEq (xV (xCall fLen (aCons (xV (xOp fIx (xV (xVar 3)) (xV (xC (.int 3))))) aNil))) (xV (xC (.int 0))))))))
  (sRet (xTup (vCons (xVar 2) (vCons (xC (.str "last")) vNil))))
  sNil))))))
  (sRet (xC .non))))
theorem N__law_fault : FnScope ["many", "thing", "at", "line"] ["many", "thing"] (defScope (top 23)) := ⟨rfl, rfl, rfl, by decide +kernel, rfl, by decide +kernel, by decide +kernel⟩
theorem ok__law_fault {P : Program} {w : World} {K : PySem.W.Frag} {mg : Str → Option Value} {base : Heap} {f : Addr} {fd : FuncData} (B : Bl mg) (Z : Xs P K mg) (hm : mg "_law_fault" = some (.ref f)) (F : FunD K "_law_fault" "_law_fault" (defArgs (top 23)) (defBody (top 23)) (defScope (top 23)) [] [] f fd) (D__law_number : Def P w K mg base "_law_number" 1 F__law_number) (D__law_pairs_good : Def P w K mg base "_law_pairs_good" 2 F__law_pairs_good) : Def P w K mg base "_law_fault" 3 F__law_fault := by
  unfold F__law_fault
  exact def_ok F N__law_fault hm (F.bindsN fun _ _ _ _ _ _ us hl => match us, hl with | [_, _], _ => rfl) fun cdv A outer s H E c hr tk hp =>
  (ss_cons (s_if (t_w (w_or (t_not (t_truth (o_v (e_isi okT_tuple B.b_isinstance B.b_tuple (o_v (e_var (i := 1))))))) (w_or1 (t_cmp op_gt g_gt (o_v (g_callB mon_val c_len g_len B.b_len (ao_cons (o_v (e_var (i := 1))) ao_nil))) (o_v e_int) (nomark _)))))
  (ss_one (s_ret (e_tup (av_cons (g_un mon_val un_neg g_neg (o_v e_int)) (av_cons e_str av_nil)))))
  ss_nil)
  (ss_cons (s_for hp rfl (it_range1 B.b_range (ao_cons (o_v (g_callB mon_val c_len g_len B.b_len (ao_cons (o_v (e_var (i := 1))) ao_nil))) ao_nil)) (gt_name N__law_fault.nd (i := 2)) (fun c =>
  (ss_cons (s_set (i := 3) N__law_fault.nd (g_ix mon_val (i_ix hr.units) g_ixA (o_v (e_var (i := 1))) (o_v (e_var (i := 2)))))
  (ss_cons (s_if (t_w (w_or (t_not (t_truth (o_v (e_isi okT_tuple B.b_isinstance B.b_tuple (o_v (e_var (i := 3))))))) (w_or (t_cmp (o_ne hr.units) g_ne (o_v (g_callB mon_val c_len g_len B.b_len (ao_cons (o_v (e_var (i := 3))) ao_nil))) (o_v e_int) (nomark _)) (w_or (t_not (t_truth (o_v (e_isi okT_str B.b_isinstance B.b_str (o_v (g_ix mon_val (i_ix hr.units) g_ixA (o_v (e_var (i := 3))) (o_v e_int))))))) (w_or1 (t_cmp (o_notIn hr.units) g_notIn (o_v (g_ix mon_val (i_ix hr.units) g_ixA (o_v (e_var (i := 3))) (o_v e_int))) (o_v (e_tup (av_cons e_str (av_cons e_str av_nil)))) (by rfl)))))))
  (ss_one (s_ret (e_tup (av_cons (e_var (i := 2)) (av_cons e_str av_nil)))))
  ss_nil)
  (ss_cons (s_if (t_not (t_truth (o_v (e_fn D__law_number (hr.mono (by decide)) tk (av_cons (g_ix mon_val (i_ix hr.units) g_ixA (o_v (e_var (i := 3))) (o_v e_int)) (av_cons e_int av_nil))))))
  (ss_one (s_ret (e_tup (av_cons (e_var (i := 2)) (av_cons e_str av_nil)))))
  ss_nil)
  (ss_cons (s_if (t_not (t_truth (o_v (e_fn D__law_pairs_good (hr.mono (by decide)) tk (av_cons (e_var (i := 0)) (av_cons (g_ix mon_val (i_ix hr.units) g_ixA (o_v (e_var (i := 3))) (o_v e_int)) av_nil))))))
  (ss_one (s_ret (e_tup (av_cons (e_var (i := 2)) (av_cons e_str av_nil)))))
  ss_nil)
  (ss_one (s_if (t_w (w_or (t_w (w_and (t_cmp (o_eq hr.units) g_eq (o_v (g_ix mon_val (i_ix hr.units) g_ixA (o_v (e_var (i := 3))) (o_v e_int))) (o_v e_str) (nomark _)) (w_and1 (t_not (t_truth (o_v (e_fn D__law_number (hr.mono (by decide)) tk (av_cons (g_ix mon_val (i_ix hr.units) g_ixA (o_v (e_var (i := 3))) (o_v e_int)) (av_cons e_int av_nil))))))))) (w_or1 (t_w (w_and (t_cmp (o_eq hr.units) g_eq (o_v (g_ix mon_val (i_ix hr.units) g_ixA (o_v (e_var (i := 3))) (o_v e_int))) (o_v e_str) (nomark _)) (w_and1 (t_w (w_or (t_not (t_truth (o_v (e_fn D__law_pairs_good (hr.mono (by decide)) tk (av_cons (e_var (i := 0)) (av_cons (g_ix mon_val (i_ix hr.units) g_ixA (o_v (e_var (i := 3))) (o_v e_int)) av_nil)))))) (w_or1 (t_cmp (o_eq hr.units) g_eq (o_v (g_callB mon_val c_len g_len B.b_len (ao_cons (o_v (g_ix mon_val (i_ix hr.units) g_ixA (o_v (e_var (i := 3))) (o_v e_int))) ao_nil))) (o_v e_int) (nomark _)))))))))))
  (ss_one (s_ret (e_tup (av_cons (e_var (i := 2)) (av_cons e_str av_nil)))))
  ss_nil))))))))
  (ss_one (s_ret e_non))))
@[irreducible] def F__law_told : FM := mFun 3 2 (sTry ["BadCode"] 2
  (sRet (xTup (vCons (xC (.str "told")) (vCons (xFn F_check_code (vCons (xVar 0) (vCons (xVar 1) vNil))) vNil))))
  (sSeq (sIf (tOr (tNot (tTruth (xV (xIsE 2 "BadCode" true)))) (tOr (tTruth (xV (xIsE 2 "BadCode" false))) (tTruth (xV (xIsE 2 "BadCode" false)))))
  (sRet (xTup (vCons (xC (.str "other")) vNil)))
  sNil)
  (sRet (xTup (vCons (xC (.str "bad")) (vCons (xField 2 "BadCode" "at") (vCons (xField 2 "BadCode" "word") vNil)))))))
theorem N__law_told : FnScope ["tour", "thing", "error"] ["tour", "thing"] (defScope (top 24)) := ⟨rfl, rfl, rfl, by decide +kernel, rfl, by decide +kernel, by decide +kernel⟩
theorem ok__law_told {P : Program} {w : World} {K : PySem.W.Frag} {mg : Str → Option Value} {base : Heap} {f : Addr} {fd : FuncData} (B : Bl mg) (Z : Xs P K mg) (hm : mg "_law_told" = some (.ref f)) (F : FunD K "_law_told" "_law_told" (defArgs (top 24)) (defBody (top 24)) (defScope (top 24)) [] [] f fd) (D_check_code : Def P w K mg base "check_code" 4 F_check_code) : Def P w K mg base "_law_told" 5 F__law_told := by
  unfold F__law_told
  exact def_ok F N__law_told hm (F.bindsN fun _ _ _ _ _ _ us hl => match us, hl with | [_, _], _ => rfl) fun cdv A outer s H E c hr tk hp =>
  (ss_one (s_tryAs (i := 2) ["BadCode"] N__law_told.nd ⟨rfl, by decide, .inl Z.g_BadCode⟩ (fun y hy => List.mem_singleton.mp hy ▸ Z.ex_BadCode.em) (fun W pn xe tk hp =>
  (ss_one (s_ret (e_tup (av_cons e_str (av_cons (e_fn D_check_code (hr.mono (by decide)) tk (av_cons (e_var (i := 0)) (av_cons (e_var (i := 1)) av_nil))) av_nil)))))) (fun a oe cls d pn hz hf =>
  (ss_cons (s_if (t_w (w_or (t_not (t_truth (o_v (e_isE (i := 2) Z.ex_BadCode.ec Z.ex_BadCode.cl Z.is_BadCode_DataError Z.g_DataError B.b_isinstance hz hf)))) (w_or (t_truth (o_v (e_isE (i := 2) Z.ex_BadCode.ec Z.ex_BadCode.cl Z.is_BadCode_CallError Z.g_CallError B.b_isinstance hz hf))) (w_or1 (t_truth (o_v (e_isE (i := 2) Z.ex_BadCode.ec Z.ex_BadCode.cl Z.is_BadCode_TextError Z.g_TextError B.b_isinstance hz hf)))))))
  (ss_one (s_ret (e_tup (av_cons e_str av_nil))))
  ss_nil)
  (ss_one (s_ret (e_tup (av_cons e_str (av_cons (e_field (i := 2) Z.ex_BadCode.xf Z.bs_BadCode.noN hz hf) (av_cons (e_field (i := 2) Z.ex_BadCode.xf Z.bs_BadCode.noN2 hz hf) av_nil))))))))))
@[irreducible] def G__law_even (F__law_even : FM) : FM := mFun 3 2 (sSeq (sIf (tTruth (xV (xIsi "tuple" (xV (xVar 1)))))
  (sRet (xAnd (xIsi "tuple" (xV (xVar 0))) (xAnd (xOp fEq (xV (xCall fLen (aCons (xV (xVar 0)) aNil))) (xV (xCall fLen (aCons (xV (xVar 1)) aNil)))) (xOp fEq (xV (xCall fLen (aCons (xN (xComp (xRng1 (aCons (xV (xCall fLen (aCons (xV (xVar 1)) aNil))) aNil)) (tName 2) [2] (tNot (tTruth (xV (xFn F__law_even (vCons (xOp fIx (xV (xVar 0)) (xV (xVar 2))) (vCons (xOp fIx (xV (xVar 1)) (xV (xVar 2))) vNil)))))) (xVar 2))) aNil))) (xV (xC (.int 0)))))))
  sNil)
  (sSeq (sIf (tTruth (xV (xIsi "str" (xV (xVar 1)))))
  (sRet (xAnd (xIsi "str" (xV (xVar 0))) (xOp fEq (xV (xVar 0)) (xV (xVar 1)))))
  sNil)
  (sRet (xAnd (xIsi "int" (xV (xVar 0))) (xAnd (xNot (xV (xIsi "bool" (xV (xVar 0))))) (xOp fEq (xV (xVar 0)) (xV (xVar 1))))))))
theorem N__law_even : FnScope ["told", "due", "at"] ["told", "due"] (defScope (top 25)) := ⟨rfl, rfl, rfl, by decide +kernel, rfl, by decide +kernel, by decide +kernel⟩
theorem okG__law_even {P : Program} {w : World} {K : PySem.W.Frag} {mg : Str → Option Value} {base : Heap} {f : Addr} {fd : FuncData} (B : Bl mg) (Z : Xs P K mg) (hm : mg "_law_even" = some (.ref f)) (F : FunD K "_law_even" "_law_even" (defArgs (top 25)) (defBody (top 25)) (defScope (top 25)) [] [] f fd) {k : Nat} (hk : 0 ≤ k) {F__law_even : FM} (D__law_even : Def P w K mg base "_law_even" k F__law_even) : Def P w K mg base "_law_even" (k + 1) (G__law_even F__law_even) := by
  unfold G__law_even
  exact def_ok F N__law_even hm (F.bindsN fun _ _ _ _ _ _ us hl => match us, hl with | [_, _], _ => rfl) fun cdv A outer s H E c hr tk hp =>
  (ss_cons (s_if (t_truth (o_v (e_isi okT_tuple B.b_isinstance B.b_tuple (o_v (e_var (i := 1))))))
  (ss_one (s_ret (e_and (e_isi okT_tuple B.b_isinstance B.b_tuple (o_v (e_var (i := 0)))) (e_and (g_cmp mon_val (o_eq hr.units) g_eq (o_v (g_callB mon_val c_len g_len B.b_len (ao_cons (o_v (e_var (i := 0))) ao_nil))) (o_v (g_callB mon_val c_len g_len B.b_len (ao_cons (o_v (e_var (i := 1))) ao_nil))) (nomark _)) (e_one (g_cmp mon_val (o_eq hr.units) g_eq (o_v (g_callB mon_val c_len g_len B.b_len (ao_cons (o_n (n_comp (own := [("at", 2)]) rfl N__law_even.nd (itV_of (it_range1 B.b_range (ao_cons (o_v (g_callB mon_val c_len g_len B.b_len (ao_cons (o_v (e_var (i := 1))) ao_nil))) ao_nil))) (show BlkOk ["told", "due", "at"] (defScope (top 25)) ({ kind := PySem.ScopeKind.function, names := [ (PySem.Str.ofString ".0", PySem.NameKind.local), (PySem.Str.ofString "at", PySem.NameKind.local), (PySem.Str.ofString "_law_even", PySem.NameKind.globalImplicit), (PySem.Str.ofString "due", PySem.NameKind.free), (PySem.Str.ofString "told", PySem.NameKind.free)], isGenerator := false, isCoroutine := false, more := [] : PySem.Scope }) [("at", 2)] from ⟨rfl, by decide +kernel, by decide +kernel, by decide +kernel, by decide +kernel⟩) (by decide) (fun _ _ _ _ _ => (gt_name N__law_even.nd (i := 2))) (fun _ _ _ _ _ => (tts_one (t_not (t_truth (o_v (e_fn D__law_even hr takes0 (av_cons (g_ix mon_val (i_ix hr.units) g_ixA (o_v (e_var (i := 0))) (o_v (e_var (i := 2)))) (av_cons (g_ix mon_val (i_ix hr.units) g_ixA (o_v (e_var (i := 1))) (o_v (e_var (i := 2)))) av_nil)))))))) (fun _ _ _ _ _ => (e_var (i := 2))))) ao_nil))) (o_v e_int) (nomark _)))))))
  ss_nil)
  (ss_cons (s_if (t_truth (o_v (e_isi okT_str B.b_isinstance B.b_str (o_v (e_var (i := 1))))))
  (ss_one (s_ret (e_and (e_isi okT_str B.b_isinstance B.b_str (o_v (e_var (i := 0)))) (e_one (g_cmp mon_val (o_eq hr.units) g_eq (o_v (e_var (i := 0))) (o_v (e_var (i := 1))) (nomark _))))))
  ss_nil)
  (ss_one (s_ret (e_and (e_isi okT_int B.b_isinstance B.b_int (o_v (e_var (i := 0)))) (e_and (e_not (o_v (e_isi okT_bool B.b_isinstance B.b_bool (o_v (e_var (i := 0)))))) (e_one (g_cmp mon_val (o_eq hr.units) g_eq (o_v (e_var (i := 0))) (o_v (e_var (i := 1))) (nomark _)))))))))
def R__law_even : Nat → FM
  | 0 => fun _ _ => .stuck
  | n + 1 => G__law_even (R__law_even n)
theorem okR__law_even {P : Program} {w : World} {K : PySem.W.Frag} {mg : Str → Option Value} {base : Heap} {f : Addr} {fd : FuncData} (B : Bl mg) (Z : Xs P K mg) (hm : mg "_law_even" = some (.ref f)) (F : FunD K "_law_even" "_law_even" (defArgs (top 25)) (defBody (top 25)) (defScope (top 25)) [] [] f fd) : ∀ n : Nat, Def P w K mg base "_law_even" (0 + 1 + n) (R__law_even n)
  | 0 => def_none (ps := ["told", "due"]) F hm (F.bindsN fun _ _ _ _ _ _ us hl => match us, hl with | [_, _], _ => rfl)
  | n + 1 => okG__law_even B Z hm F (k := 0 + 1 + n) (by omega) (okR__law_even B Z hm F n)
@[irreducible] def F__law_even : FM := R__law_even 6
theorem ok__law_even {P : Program} {w : World} {K : PySem.W.Frag} {mg : Str → Option Value} {base : Heap} {f : Addr} {fd : FuncData} (B : Bl mg) (Z : Xs P K mg) (hm : mg "_law_even" = some (.ref f)) (F : FunD K "_law_even" "_law_even" (defArgs (top 25)) (defBody (top 25)) (defScope (top 25)) [] [] f fd) : Def P w K mg base "_law_even" 7 F__law_even := by
  unfold F__law_even
  exact okR__law_even B Z hm F 6
@[irreducible] def F__law_asked : FM := mFun 5 2 (sSeq (sSet 2 (xFn F__law_fault (vCons (xCall fLen (aCons (xV (xOp fIx (xV (xVar 0)) (xV (xC (.int 0))))) aNil)) (vCons (xVar 1) vNil))))
  (sSeq (sSet 3 (xIf (tOf (xOp fIs (xV (xVar 2)) (xV (xC .non)))) (xTup (vCons (xC (.str "told")) (vCons (xCall fLen (aCons (xV (xVar 1)) aNil)) vNil))) (xPutF (xOp fAdd (xV (xTup (vCons (xC (.str "bad")) vNil))) (xV (xVar 2))))))
  (sSeq (sSet 4 (xFn F_is_code (vCons (xVar 0) (vCons (xVar 1) vNil))))
  (sRet (xAnd (xFn F__law_even (vCons (xFn F__law_told (vCons (xVar 0) (vCons (xVar 1) vNil))) (vCons (xVar 3) vNil))) (xAnd (xIsi "bool" (xV (xVar 4))) (xOp fEq (xV (xVar 4)) (xV (xOp fIs (xV (xVar 2)) (xV (xC .non)))))))))))
theorem N__law_asked : FnScope ["tour", "thing", "fault", "due", "told"] ["tour", "thing"] (defScope (top 26)) := ⟨rfl, rfl, rfl, by decide +kernel, rfl, by decide +kernel, by decide +kernel⟩
theorem ok__law_asked {P : Program} {w : World} {K : PySem.W.Frag} {mg : Str → Option Value} {base : Heap} {f : Addr} {fd : FuncData} (B : Bl mg) (Z : Xs P K mg) (hm : mg "_law_asked" = some (.ref f)) (F : FunD K "_law_asked" "_law_asked" (defArgs (top 26)) (defBody (top 26)) (defScope (top 26)) [] [] f fd) (D__law_told : Def P w K mg base "_law_told" 5 F__law_told) (D__law_even : Def P w K mg base "_law_even" 7 F__law_even) (D_is_code : Def P w K mg base "is_code" 5 F_is_code) (D__law_fault : Def P w K mg base "_law_fault" 3 F__law_fault) : Def P w K mg base "_law_asked" 8 F__law_asked := by
  unfold F__law_asked
  exact def_ok F N__law_asked hm (F.bindsN fun _ _ _ _ _ _ us hl => match us, hl with | [_, _], _ => rfl) fun cdv A outer s H E c hr tk hp =>
  (ss_cons (s_set (i := 2) N__law_asked.nd (e_fn D__law_fault (hr.mono (by decide)) tk (av_cons (g_callB mon_val c_len g_len B.b_len (ao_cons (o_v (g_ix mon_val (i_ix hr.units) g_ixA (o_v (e_var (i := 0))) (o_v e_int))) ao_nil)) (av_cons (e_var (i := 1)) av_nil))))
  (ss_cons (s_set (i := 3) N__law_asked.nd (e_if (t_cmp op_isN g_is (o_v (e_var (i := 2))) (o_v e_non) (nomark _)) (e_tup (av_cons e_str (av_cons (g_callB mon_val c_len g_len B.b_len (ao_cons (o_v (e_var (i := 1))) ao_nil)) av_nil))) (e_f (g_op mon_fr o_add g_add (o_v (e_tup (av_cons e_str av_nil))) (o_v (e_var (i := 2)))))))
  (ss_cons (s_set (i := 4) N__law_asked.nd (e_fn D_is_code (hr.mono (by decide)) tk (av_cons (e_var (i := 0)) (av_cons (e_var (i := 1)) av_nil))))
  (ss_one (s_ret (e_and (e_fn D__law_even (hr.mono (by decide)) tk (av_cons (e_fn D__law_told (hr.mono (by decide)) tk (av_cons (e_var (i := 0)) (av_cons (e_var (i := 1)) av_nil))) (av_cons (e_var (i := 3)) av_nil))) (e_and (e_isi okT_bool B.b_isinstance B.b_bool (o_v (e_var (i := 4)))) (e_one (g_cmp mon_val (o_eq hr.units) g_eq (o_v (e_var (i := 4))) (o_v (g_cmp mon_val op_isN g_is (o_v (e_var (i := 2))) (o_v e_non) (nomark _))) (nomark _))))))))))
@[irreducible] def F__law_bad_pairs : FM := mFun 9 3 (sSeq (sSet 3 (xFn F__law_grain (vCons (xVar 0) (vCons (xC (.int 7)) (vCons (xC (.int 10)) vNil)))))
  (sSeq (sSet 4 (xFn F__law_grain (vCons (xVar 0) (vCons (xC (.int 8)) (vCons (xCall fLen (aCons (xV (xVar 2)) aNil)) vNil)))))
  (sSeq (sTgt (tTup 2 (tCons (tName 5) (tCons (tName 6) tNil))) (xIf (tOf (xOp fGt (xV (xCall fLen (aCons (xV (xVar 2)) aNil))) (xV (xC (.int 0))))) (xOp fIx (xV (xVar 2)) (xV (xVar 4))) (xTup (vCons (xC (.int 0)) (vCons (xC (.int 0)) vNil)))))
  (sSeq (sSet 7 (xOp fIx (xN (xLst (vCons (xTup (vCons (xVar 1) (vCons (xVar 6) vNil))) (vCons (xTup (vCons (xVar 5) (vCons (xC (.int 2)) vNil))) (vCons (xTup (vCons (xVar 5) (vCons (xCall fBool (aCons (xV (xVar 6)) aNil)) vNil))) (vCons (xIf (tOf (xOp fLt (xV (xVar 5)) (xV (xC (.int 2))))) (xTup (vCons (xCall fBool (aCons (xV (xVar 5)) aNil)) (vCons (xVar 6) vNil))) (xTup (vCons (xUn fNeg (xV (xC (.int 1)))) (vCons (xVar 6) vNil)))) (vCons (xPut (xLst (vCons (xVar 5) (vCons (xVar 6) vNil)))) (vCons (xTup (vCons (xVar 5) vNil)) (vCons (xTup (vCons (xVar 5) (vCons (xVar 6) (vCons (xC (.int 0)) vNil)))) (vCons (xVar 5) (vCons (xTup (vCons (xVar 5) (vCons (xUn fNeg (xV (xC (.int 1)))) vNil))) (vCons (xC .non) vNil)))))))))))) (xV (xVar 3))))
  (sSeq (sSet 8 (xFn F__law_grain (vCons (xVar 0) (vCons (xC (.int 9)) (vCons (xC (.int 5)) vNil)))))
  (sSeq (sIf (tAnd (tOf (xOp fEq (xV (xVar 8)) (xV (xC (.int 0))))) (tOf (xOp fGt (xV (xCall fLen (aCons (xV (xVar 2)) aNil))) (xV (xC (.int 0))))))
  (sRet (xPutF (xOp fAdd (xV (xVar 2)) (xSl fSl (xV (xVar 2)) (pSome (xUn fNeg (xV (xC (.int 1))))) pNone))))
  sNil)
  (sSeq (sIf (tAnd (tOf (xOp fEq (xV (xVar 8)) (xV (xC (.int 1))))) (tOf (xOp fGt (xV (xCall fLen (aCons (xV (xVar 2)) aNil))) (xV (xC (.int 1))))))
  (sRet (xUn fRevT (xV (xVar 2))))
  sNil)
  (sSeq (sIf (tOf (xOp fEq (xV (xVar 8)) (xV (xC (.int 2)))))
  (sRet (xOp fIx (xV (xTup (vCons (xPut (xCall fList (aCons (xV (xVar 2)) aNil))) (vCons (xC .non) (vCons (xC (.str "")) (vCons (xC (.int 0)) vNil)))))) (xV (xFn F__law_grain (vCons (xVar 0) (vCons (xC (.int 10)) (vCons (xC (.int 4)) vNil)))))))
  sNil)
  (sRet (xPutF (xOp fAdd (xOp fAdd (xSl fSl (xV (xVar 2)) pNone (pSome (xVar 4))) (xV (xTup (vCons (xVar 7) vNil)))) (xSl fSl (xV (xVar 2)) (pSome (xPutF (xOp fAdd (xV (xVar 4)) (xV (xC (.int 1)))))) pNone))))))))))))
theorem N__law_bad_pairs : FnScope ["pan", "many", "pairs", "kind", "at", "one", "end", "odd", "way"] ["pan", "many", "pairs"] (defScope (top 27)) := ⟨rfl, rfl, rfl, by decide +kernel, rfl, by decide +kernel, by decide +kernel⟩
theorem ok__law_bad_pairs {P : Program} {w : World} {K : PySem.W.Frag} {mg : Str → Option Value} {base : Heap} {f : Addr} {fd : FuncData} (B : Bl mg) (Z : Xs P K mg) (hm : mg "_law_bad_pairs" = some (.ref f)) (F : FunD K "_law_bad_pairs" "_law_bad_pairs" (defArgs (top 27)) (defBody (top 27)) (defScope (top 27)) [] [] f fd) (D__law_grain : Def P w K mg base "_law_grain" 1 F__law_grain) : Def P w K mg base "_law_bad_pairs" 2 F__law_bad_pairs := by
  unfold F__law_bad_pairs
  exact def_ok F N__law_bad_pairs hm (F.bindsN fun _ _ _ _ _ _ us hl => match us, hl with | [_, _, _], _ => rfl) fun cdv A outer s H E c hr tk hp =>
  (ss_cons (s_set (i := 3) N__law_bad_pairs.nd (e_fn D__law_grain (hr.mono (by decide)) tk (av_cons (e_var (i := 0)) (av_cons e_int (av_cons e_int av_nil)))))
  (ss_cons (s_set (i := 4) N__law_bad_pairs.nd (e_fn D__law_grain (hr.mono (by decide)) tk (av_cons (e_var (i := 0)) (av_cons e_int (av_cons (g_callB mon_val c_len g_len B.b_len (ao_cons (o_v (e_var (i := 2))) ao_nil)) av_nil)))))
  (ss_cons (s_tgt (e_if (t_cmp op_gt g_gt (o_v (g_callB mon_val c_len g_len B.b_len (ao_cons (o_v (e_var (i := 2))) ao_nil))) (o_v e_int) (nomark _)) (g_ix mon_val (i_ix hr.units) g_ixA (o_v (e_var (i := 2))) (o_v (e_var (i := 4)))) (e_tup (av_cons e_int (av_cons e_int av_nil)))) (gt_tup rfl (gts_cons (gt_name N__law_bad_pairs.nd (i := 5)) (gts_cons (gt_name N__law_bad_pairs.nd (i := 6)) gts_nil))))
  (ss_cons (s_set (i := 7) N__law_bad_pairs.nd (g_ix mon_val (i_ix hr.units) g_ixA (o_n (n_lst (av_cons (e_tup (av_cons (e_var (i := 1)) (av_cons (e_var (i := 6)) av_nil))) (av_cons (e_tup (av_cons (e_var (i := 5)) (av_cons e_int av_nil))) (av_cons (e_tup (av_cons (e_var (i := 5)) (av_cons (g_callTy mon_val call_bool1 g_bool B.b_bool (ao_cons (o_v (e_var (i := 6))) ao_nil)) av_nil))) (av_cons (e_if (t_cmp o_lt g_lt (o_v (e_var (i := 5))) (o_v e_int) (nomark _)) (e_tup (av_cons (g_callTy mon_val call_bool1 g_bool B.b_bool (ao_cons (o_v (e_var (i := 5))) ao_nil)) (av_cons (e_var (i := 6)) av_nil))) (e_tup (av_cons (g_un mon_val un_neg g_neg (o_v e_int)) (av_cons (e_var (i := 6)) av_nil)))) (av_cons (e_put (n_lst (av_cons (e_var (i := 5)) (av_cons (e_var (i := 6)) av_nil)))) (av_cons (e_tup (av_cons (e_var (i := 5)) av_nil)) (av_cons (e_tup (av_cons (e_var (i := 5)) (av_cons (e_var (i := 6)) (av_cons e_int av_nil)))) (av_cons (e_var (i := 5)) (av_cons (e_tup (av_cons (e_var (i := 5)) (av_cons (g_un mon_val un_neg g_neg (o_v e_int)) av_nil))) (av_cons e_non av_nil)))))))))))) (o_v (e_var (i := 3)))))
  (ss_cons (s_set (i := 8) N__law_bad_pairs.nd (e_fn D__law_grain (hr.mono (by decide)) tk (av_cons (e_var (i := 0)) (av_cons e_int (av_cons e_int av_nil)))))
  (ss_cons (s_if (t_w (w_and (t_cmp (o_eq hr.units) g_eq (o_v (e_var (i := 8))) (o_v e_int) (nomark _)) (w_and1 (t_cmp op_gt g_gt (o_v (g_callB mon_val c_len g_len B.b_len (ao_cons (o_v (e_var (i := 2))) ao_nil))) (o_v e_int) (nomark _)))))
  (ss_one (s_ret (e_f (g_op mon_fr o_add g_add (o_v (e_var (i := 2))) (o_f (g_sl mon_fr i_sl g_slA (o_v (e_var (i := 2))) (op_some (g_un mon_val un_neg g_neg (o_v e_int))) op_none))))))
  ss_nil)
  (ss_cons (s_if (t_w (w_and (t_cmp (o_eq hr.units) g_eq (o_v (e_var (i := 8))) (o_v e_int) (nomark _)) (w_and1 (t_cmp op_gt g_gt (o_v (g_callB mon_val c_len g_len B.b_len (ao_cons (o_v (e_var (i := 2))) ao_nil))) (o_v e_int) (nomark _)))))
  (ss_one (s_ret (e_revT (o_v (e_var (i := 2))))))
  ss_nil)
  (ss_cons (s_if (t_cmp (o_eq hr.units) g_eq (o_v (e_var (i := 8))) (o_v e_int) (nomark _))
  (ss_one (s_ret (g_ix mon_val (i_ix hr.units) g_ixA (o_v (e_tup (av_cons (e_put (g_callTy mon_new (c_list rfl) g_list B.b_list (ao_cons (o_v (e_var (i := 2))) ao_nil))) (av_cons e_non (av_cons e_str (av_cons e_int av_nil)))))) (o_v (e_fn D__law_grain (hr.mono (by decide)) tk (av_cons (e_var (i := 0)) (av_cons e_int (av_cons e_int av_nil))))))))
  ss_nil)
  (ss_one (s_ret (e_f (g_op mon_fr o_add g_add (o_f (g_op mon_fr o_add g_add (o_f (g_sl mon_fr i_sl g_slA (o_v (e_var (i := 2))) op_none (op_some (e_var (i := 4))))) (o_v (e_tup (av_cons (e_var (i := 7)) av_nil))))) (o_f (g_sl mon_fr i_sl g_slA (o_v (e_var (i := 2))) (op_some (e_f (g_op mon_fr o_add g_add (o_v (e_var (i := 4))) (o_v e_int)))) op_none))))))))))))))
@[irreducible] def F__law_bent : FM := mFun 8 4 (sSeq (sTgt (tTup 4 (tCons (tName 4) (tCons (tName 5) (tCons (tName 6) (tCons (tName 7) tNil))))) (xVar 2))
  (sSeq (sIf (tOf (xOp fEq (xV (xVar 3)) (xV (xC (.int 0)))))
  (sRet (xOp fIx (xV (xTup (vCons (xTup (vCons (xMt "str" fUpper (xV (xVar 4)) aNil) (vCons (xVar 5) (vCons (xVar 6) (vCons (xVar 7) vNil))))) (vCons (xTup (vCons (xVar 5) (vCons (xVar 4) (vCons (xVar 6) (vCons (xVar 7) vNil))))) (vCons (xPut (xCall fList (aCons (xV (xVar 2)) aNil))) (vCons (xPutF (xSl fSl (xV (xVar 2)) pNone (pSome (xC (.int 3))))) (vCons (xPutF (xOp fAdd (xV (xVar 2)) (xV (xTup (vCons (xC (.int 0)) vNil))))) (vCons (xC .non) (vCons (xVar 4) (vCons (xTup (vCons (xC (.str "do")) (vCons (xVar 5) (vCons (xVar 6) (vCons (xVar 7) vNil))))) (vCons (xTup (vCons (xC .non) (vCons (xVar 5) (vCons (xVar 6) (vCons (xVar 7) vNil))))) (vCons (xTup vNil) vNil)))))))))))) (xV (xFn F__law_grain (vCons (xVar 0) (vCons (xC (.int 11)) (vCons (xC (.int 10)) vNil)))))))
  sNil)
  (sSeq (sIf (tOf (xOp fEq (xV (xVar 3)) (xV (xC (.int 1)))))
  (sRet (xTup (vCons (xVar 4) (vCons (xOp fIx (xV (xTup (vCons (xC (.int 60)) (vCons (xUn fNeg (xV (xC (.int 1)))) (vCons (xC (.bl true)) (vCons (xC .non) (vCons (xC (.str "0")) (vCons (xTup (vCons (xVar 5) vNil)) (vCons (xOp fPow (xV (xC (.int 10))) (xV (xC (.int 50)))) (vCons (xC (.bl false)) vNil)))))))))) (xV (xFn F__law_grain (vCons (xVar 0) (vCons (xC (.int 12)) (vCons (xC (.int 8)) vNil)))))) (vCons (xVar 6) (vCons (xVar 7) vNil))))))
  sNil)
  (sSeq (sIf (tOf (xOp fEq (xV (xVar 3)) (xV (xC (.int 2)))))
  (sRet (xTup (vCons (xVar 4) (vCons (xVar 5) (vCons (xFn F__law_bad_pairs (vCons (xVar 0) (vCons (xVar 1) (vCons (xVar 6) vNil)))) (vCons (xVar 7) vNil))))))
  sNil)
  (sSeq (sIf (tOf (xOp fEq (xV (xVar 4)) (xV (xC (.str "go")))))
  (sRet (xTup (vCons (xVar 4) (vCons (xVar 5) (vCons (xVar 6) (vCons (xOp fIx (xV (xTup (vCons (xC (.int 60)) (vCons (xUn fNeg (xV (xC (.int 1)))) (vCons (xC (.bl true)) (vCons (xC .non) (vCons (xTup (vCons (xTup (vCons (xC (.int 0)) (vCons (xC (.int 1)) vNil))) vNil)) (vCons (xTup vNil) (vCons (xC (.str "1")) (vCons (xOp fPow (xV (xC (.int 10))) (xV (xC (.int 30)))) vNil)))))))))) (xV (xFn F__law_grain (vCons (xVar 0) (vCons (xC (.int 13)) (vCons (xC (.int 8)) vNil)))))) vNil))))))
  sNil)
  (sRet (xTup (vCons (xVar 4) (vCons (xVar 5) (vCons (xVar 6) (vCons (xOp fIx (xV (xTup (vCons (xTup vNil) (vCons (xC (.int 0)) (vCons (xC .non) (vCons (xFn F__law_bad_pairs (vCons (xVar 0) (vCons (xVar 1) (vCons (xVar 7) vNil)))) (vCons (xPut (xCall fList (aCons (xV (xVar 7)) aNil))) (vCons (xFn F__law_bad_pairs (vCons (xVar 0) (vCons (xVar 1) (vCons (xVar 7) vNil)))) vNil)))))))) (xV (xFn F__law_grain (vCons (xVar 0) (vCons (xC (.int 14)) (vCons (xC (.int 6)) vNil)))))) vNil)))))))))))
theorem N__law_bent : FnScope ["pan", "many", "line", "kind", "word", "stage", "asks", "last"] ["pan", "many", "line", "kind"] (defScope (top 28)) := ⟨rfl, rfl, rfl, by decide +kernel, rfl, by decide +kernel, by decide +kernel⟩
theorem ok__law_bent {P : Program} {w : World} {K : PySem.W.Frag} {mg : Str → Option Value} {base : Heap} {f : Addr} {fd : FuncData} (B : Bl mg) (Z : Xs P K mg) (hm : mg "_law_bent" = some (.ref f)) (F : FunD K "_law_bent" "_law_bent" (defArgs (top 28)) (defBody (top 28)) (defScope (top 28)) [] [] f fd) (D__law_bad_pairs : Def P w K mg base "_law_bad_pairs" 2 F__law_bad_pairs) (D__law_grain : Def P w K mg base "_law_grain" 1 F__law_grain) : Def P w K mg base "_law_bent" 3 F__law_bent := by
  unfold F__law_bent
  exact def_ok F N__law_bent hm (F.bindsN fun _ _ _ _ _ _ us hl => match us, hl with | [_, _, _, _], _ => rfl) fun cdv A outer s H E c hr tk hp =>
  (ss_cons (s_tgt (e_var (i := 2)) (gt_tup rfl (gts_cons (gt_name N__law_bent.nd (i := 4)) (gts_cons (gt_name N__law_bent.nd (i := 5)) (gts_cons (gt_name N__law_bent.nd (i := 6)) (gts_cons (gt_name N__law_bent.nd (i := 7)) gts_nil))))))
  (ss_cons (s_if (t_cmp (o_eq hr.units) g_eq (o_v (e_var (i := 3))) (o_v e_int) (nomark _))
  (ss_one (s_ret (g_ix mon_val (i_ix hr.units) g_ixA (o_v (e_tup (av_cons (e_tup (av_cons (g_mt0 mon_val PySem.F.plainAttrs_str PySem.F.slot_str_upper PySem.F.type_str_upper mt_upper g_upper (o_v (e_var (i := 4)))) (av_cons (e_var (i := 5)) (av_cons (e_var (i := 6)) (av_cons (e_var (i := 7)) av_nil))))) (av_cons (e_tup (av_cons (e_var (i := 5)) (av_cons (e_var (i := 4)) (av_cons (e_var (i := 6)) (av_cons (e_var (i := 7)) av_nil))))) (av_cons (e_put (g_callTy mon_new (c_list rfl) g_list B.b_list (ao_cons (o_v (e_var (i := 2))) ao_nil))) (av_cons (e_f (g_sl mon_fr i_sl g_slA (o_v (e_var (i := 2))) op_none (op_some e_int))) (av_cons (e_f (g_op mon_fr o_add g_add (o_v (e_var (i := 2))) (o_v (e_tup (av_cons e_int av_nil))))) (av_cons e_non (av_cons (e_var (i := 4)) (av_cons (e_tup (av_cons e_str (av_cons (e_var (i := 5)) (av_cons (e_var (i := 6)) (av_cons (e_var (i := 7)) av_nil))))) (av_cons (e_tup (av_cons e_non (av_cons (e_var (i := 5)) (av_cons (e_var (i := 6)) (av_cons (e_var (i := 7)) av_nil))))) (av_cons (e_tup av_nil) av_nil)))))))))))) (o_v (e_fn D__law_grain (hr.mono (by decide)) tk (av_cons (e_var (i := 0)) (av_cons e_int (av_cons e_int av_nil))))))))
  ss_nil)
  (ss_cons (s_if (t_cmp (o_eq hr.units) g_eq (o_v (e_var (i := 3))) (o_v e_int) (nomark _))
  (ss_one (s_ret (e_tup (av_cons (e_var (i := 4)) (av_cons (g_ix mon_val (i_ix hr.units) g_ixA (o_v (e_tup (av_cons e_int (av_cons (g_un mon_val un_neg g_neg (o_v e_int)) (av_cons e_bl (av_cons e_non (av_cons e_str (av_cons (e_tup (av_cons (e_var (i := 5)) av_nil)) (av_cons (g_op mon_val op_pow g_pow (o_v e_int) (o_v e_int)) (av_cons e_bl av_nil)))))))))) (o_v (e_fn D__law_grain (hr.mono (by decide)) tk (av_cons (e_var (i := 0)) (av_cons e_int (av_cons e_int av_nil)))))) (av_cons (e_var (i := 6)) (av_cons (e_var (i := 7)) av_nil)))))))
  ss_nil)
  (ss_cons (s_if (t_cmp (o_eq hr.units) g_eq (o_v (e_var (i := 3))) (o_v e_int) (nomark _))
  (ss_one (s_ret (e_tup (av_cons (e_var (i := 4)) (av_cons (e_var (i := 5)) (av_cons (e_fn D__law_bad_pairs (hr.mono (by decide)) tk (av_cons (e_var (i := 0)) (av_cons (e_var (i := 1)) (av_cons (e_var (i := 6)) av_nil)))) (av_cons (e_var (i := 7)) av_nil)))))))
  ss_nil)
  (ss_cons (s_if (t_cmp (o_eq hr.units) g_eq (o_v (e_var (i := 4))) (o_v e_str) (nomark _))
  (ss_one (s_ret (e_tup (av_cons (e_var (i := 4)) (av_cons (e_var (i := 5)) (av_cons (e_var (i := 6)) (av_cons (g_ix mon_val (i_ix hr.units) g_ixA (o_v (e_tup (av_cons e_int (av_cons (g_un mon_val un_neg g_neg (o_v e_int)) (av_cons e_bl (av_cons e_non (av_cons (e_tup (av_cons (e_tup (av_cons e_int (av_cons e_int av_nil))) av_nil)) (av_cons (e_tup av_nil) (av_cons e_str (av_cons (g_op mon_val op_pow g_pow (o_v e_int) (o_v e_int)) av_nil)))))))))) (o_v (e_fn D__law_grain (hr.mono (by decide)) tk (av_cons (e_var (i := 0)) (av_cons e_int (av_cons e_int av_nil)))))) av_nil)))))))
  ss_nil)
  (ss_one (s_ret (e_tup (av_cons (e_var (i := 4)) (av_cons (e_var (i := 5)) (av_cons (e_var (i := 6)) (av_cons (g_ix mon_val (i_ix hr.units) g_ixA (o_v (e_tup (av_cons (e_tup av_nil) (av_cons e_int (av_cons e_non (av_cons (e_fn D__law_bad_pairs (hr.mono (by decide)) tk (av_cons (e_var (i := 0)) (av_cons (e_var (i := 1)) (av_cons (e_var (i := 7)) av_nil)))) (av_cons (e_put (g_callTy mon_new (c_list rfl) g_list B.b_list (ao_cons (o_v (e_var (i := 7))) ao_nil))) (av_cons (e_fn D__law_bad_pairs (hr.mono (by decide)) tk (av_cons (e_var (i := 0)) (av_cons (e_var (i := 1)) (av_cons (e_var (i := 7)) av_nil)))) av_nil)))))))) (o_v (e_fn D__law_grain (hr.mono (by decide)) tk (av_cons (e_var (i := 0)) (av_cons e_int (av_cons e_int av_nil)))))) av_nil))))))))))))
@[irreducible] def F__law_each : FM := mFun 10 4 (sSeq (sPar 4 5 (vCons (xTup (vCons (xTup (vCons (xC (.int 0)) (vCons (xFn F__law_grain (vCons (xVar 0) (vCons (xC (.int 23)) (vCons (xC (.int 2)) vNil)))) vNil))) vNil)) (vCons (xOp fSub (xV (xVar 2)) (xV (xC (.int 1)))) vNil)))
  (sSeq (sOwn 6 (xLst (vCons (xTup (vCons (xC (.str "if")) (vCons (xC (.int 0)) (vCons (xTup vNil) (vCons (xTup vNil) vNil))))) (vCons (xTup (vCons (xC (.str "if")) (vCons (xC (.int 0)) (vCons (xTup (vCons (xTup (vCons (xVar 2) (vCons (xC (.int 0)) vNil))) vNil)) (vCons (xVar 4) vNil))))) (vCons (xTup (vCons (xC (.str "if")) (vCons (xC (.int 0)) (vCons (xTup (vCons (xTup (vCons (xC (.int 0)) (vCons (xC (.int 0)) vNil))) (vCons (xTup (vCons (xC (.int 0)) (vCons (xC (.int 1)) vNil))) vNil))) (vCons (xVar 4) vNil))))) (vCons (xTup (vCons (xC (.str "if")) (vCons (xC (.int 0)) (vCons (xTup vNil) (vCons (xTup (vCons (xTup (vCons (xC (.int 0)) (vCons (xC (.int 1)) vNil))) (vCons (xTup (vCons (xC (.int 0)) (vCons (xC (.int 0)) vNil))) vNil))) vNil))))) (vCons (xTup (vCons (xC (.str "if")) (vCons (xC (.int 0)) (vCons (xTup vNil) (vCons (xTup (vCons (xTup (vCons (xC (.int 0)) (vCons (xC (.int 1)) vNil))) (vCons (xTup (vCons (xC (.int 0)) (vCons (xC (.int 1)) vNil))) vNil))) vNil))))) vNil)))))))
  (sSeq (sOwn 6 (xCellOf (xOp fAdd (xOwn 6) (xN (xLst (vCons (xTup (vCons (xC (.str "go")) (vCons (xC (.int 0)) (vCons (xTup vNil) (vCons (xC (.int 60)) vNil))))) (vCons (xTup (vCons (xC (.str "go")) (vCons (xC (.int 59)) (vCons (xTup (vCons (xTup (vCons (xVar 2) (vCons (xC (.int 1)) vNil))) vNil)) (vCons (xC (.int 59)) vNil))))) (vCons (xTup (vCons (xC (.str "if")) (vCons (xC (.int 60)) (vCons (xTup vNil) (vCons (xVar 4) vNil))))) (vCons (xTup (vCons (xC (.str "go")) (vCons (xC (.int 60)) (vCons (xTup vNil) (vCons (xC (.int 0)) vNil))))) (vCons (xTup (vCons (xC (.str "if")) (vCons (xC (.int 0)) (vCons (xTup (vCons (xTup (vCons (xVar 5) (vCons (xC (.int 2)) vNil))) vNil)) (vCons (xVar 4) vNil))))) (vCons (xTup (vCons (xC (.str "go")) (vCons (xC (.int 1)) (vCons (xTup vNil) (vCons (xTup (vCons (xTup (vCons (xC (.int 0)) (vCons (xC (.int 1)) vNil))) vNil)) vNil))))) (vCons (xTup (vCons (xC (.str "if")) (vCons (xC (.int 1)) (vCons (xTup vNil) (vCons (xC (.int 1)) vNil))))) vNil))))))))))))
  (sSeq (sIf (tOf (xOp fGt (xV (xVar 2)) (xV (xC (.int 1)))))
  (sOwn 6 (xCellOf (xOp fAdd (xOwn 6) (xN (xLst (vCons (xTup (vCons (xC (.str "if")) (vCons (xC (.int 0)) (vCons (xTup (vCons (xTup (vCons (xVar 5) (vCons (xC (.int 0)) vNil))) (vCons (xTup (vCons (xC (.int 0)) (vCons (xC (.int 0)) vNil))) vNil))) (vCons (xVar 4) vNil))))) (vCons (xTup (vCons (xC (.str "if")) (vCons (xC (.int 0)) (vCons (xTup vNil) (vCons (xTup (vCons (xTup (vCons (xVar 5) (vCons (xC (.int 1)) vNil))) (vCons (xTup (vCons (xC (.int 0)) (vCons (xC (.int 1)) vNil))) vNil))) vNil))))) (vCons (xTup (vCons (xC (.str "go")) (vCons (xC (.int 0)) (vCons (xTup (vCons (xTup (vCons (xC (.int 1)) (vCons (xC (.int 1)) vNil))) (vCons (xTup (vCons (xC (.int 0)) (vCons (xC (.int 1)) vNil))) vNil))) (vCons (xC (.int 0)) vNil))))) vNil))))))))
  sNil)
  (sSeq (sForOwn 6 (tName 7)
  (sIf (tOr (tOf (xOp fIs (xV (xFn F__law_fault (vCons (xVar 2) (vCons (xTup (vCons (xVar 7) vNil)) vNil)))) (xV (xC .non)))) (tNot (tTruth (xV (xFn F__law_asked (vCons (xVar 1) (vCons (xPutF (xOp fAdd (xV (xVar 3)) (xV (xTup (vCons (xVar 7) vNil))))) vNil)))))))
  (sRet (xC (.bl false)))
  sNil))
  (sSeq (sOwn 8 (xLst (vCons (xTup (vCons (xC (.str "if")) (vCons (xC (.int 59)) (vCons (xTup (vCons (xTup (vCons (xVar 5) (vCons (xC (.int 1)) vNil))) vNil)) (vCons (xTup (vCons (xTup (vCons (xVar 5) (vCons (xC (.int 0)) vNil))) vNil)) vNil))))) (vCons (xTup (vCons (xC (.str "go")) (vCons (xC (.int 59)) (vCons (xCall fTuple (aCons (xN (xComp (xRng1 (aCons (xV (xVar 2)) aNil)) (tName 9) [9] tTrue (xTup (vCons (xVar 9) (vCons (xC (.int 1)) vNil))))) aNil)) (vCons (xC (.int 59)) vNil))))) (vCons (xTup (vCons (xC (.str "if")) (vCons (xC (.int 0)) (vCons (xCall fTuple (aCons (xN (xComp (xRng1 (aCons (xV (xVar 2)) aNil)) (tName 9) [9] tTrue (xTup (vCons (xVar 9) (vCons (xC (.int 0)) vNil))))) aNil)) (vCons (xCall fTuple (aCons (xN (xComp (xRng1 (aCons (xV (xVar 2)) aNil)) (tName 9) [9] tTrue (xTup (vCons (xVar 9) (vCons (xC (.int 1)) vNil))))) aNil)) vNil))))) vNil)))))
  (sRet (xOp fEq (xV (xCall fLen (aCons (xN (xComp (xSrc (xOwn 8)) (tName 7) [7] (tNot (tTruth (xV (xFn F__law_asked (vCons (xVar 1) (vCons (xPutF (xOp fAdd (xV (xVar 3)) (xV (xTup (vCons (xVar 7) vNil))))) vNil)))))) (xC (.int 1)))) aNil))) (xV (xC (.int 0)))))))))))
theorem N__law_each : FnScope ["pan", "tour", "many", "code", "move", "top", "lines", "line", "good", "one"] ["pan", "tour", "many", "code"] (defScope (top 29)) := ⟨rfl, rfl, rfl, by decide +kernel, rfl, by decide +kernel, by decide +kernel⟩
theorem ok__law_each {P : Program} {w : World} {K : PySem.W.Frag} {mg : Str → Option Value} {base : Heap} {f : Addr} {fd : FuncData} (B : Bl mg) (Z : Xs P K mg) (hm : mg "_law_each" = some (.ref f)) (F : FunD K "_law_each" "_law_each" (defArgs (top 29)) (defBody (top 29)) (defScope (top 29)) [] [] f fd) (D__law_asked : Def P w K mg base "_law_asked" 8 F__law_asked) (D__law_fault : Def P w K mg base "_law_fault" 3 F__law_fault) (D__law_grain : Def P w K mg base "_law_grain" 1 F__law_grain) : Def P w K mg base "_law_each" 9 F__law_each := by
  unfold F__law_each
  exact def_ok F N__law_each hm (F.bindsN fun _ _ _ _ _ _ us hl => match us, hl with | [_, _, _, _], _ => rfl) fun cdv A outer s H E c hr tk hp =>
  (ss_cons (s_par (i := 4) (j := 5) rfl N__law_each.nd (by decide) (av_cons (e_tup (av_cons (e_tup (av_cons e_int (av_cons (e_fn D__law_grain (hr.mono (by decide)) tk (av_cons (e_var (i := 0)) (av_cons e_int (av_cons e_int av_nil)))) av_nil))) av_nil)) (av_cons (g_op mon_val op_sub g_sub (o_v (e_var (i := 2))) (o_v e_int)) av_nil)))
  (ss_cons (s_own (i := 6) N__law_each.nd (n_lst (av_cons (e_tup (av_cons e_str (av_cons e_int (av_cons (e_tup av_nil) (av_cons (e_tup av_nil) av_nil))))) (av_cons (e_tup (av_cons e_str (av_cons e_int (av_cons (e_tup (av_cons (e_tup (av_cons (e_var (i := 2)) (av_cons e_int av_nil))) av_nil)) (av_cons (e_var (i := 4)) av_nil))))) (av_cons (e_tup (av_cons e_str (av_cons e_int (av_cons (e_tup (av_cons (e_tup (av_cons e_int (av_cons e_int av_nil))) (av_cons (e_tup (av_cons e_int (av_cons e_int av_nil))) av_nil))) (av_cons (e_var (i := 4)) av_nil))))) (av_cons (e_tup (av_cons e_str (av_cons e_int (av_cons (e_tup av_nil) (av_cons (e_tup (av_cons (e_tup (av_cons e_int (av_cons e_int av_nil))) (av_cons (e_tup (av_cons e_int (av_cons e_int av_nil))) av_nil))) av_nil))))) (av_cons (e_tup (av_cons e_str (av_cons e_int (av_cons (e_tup av_nil) (av_cons (e_tup (av_cons (e_tup (av_cons e_int (av_cons e_int av_nil))) (av_cons (e_tup (av_cons e_int (av_cons e_int av_nil))) av_nil))) av_nil))))) av_nil)))))))
  (ss_cons (s_own (i := 6) N__law_each.nd (n_f (g_op mon_fr o_add g_add (o_own (i := 6)) (o_n (n_lst (av_cons (e_tup (av_cons e_str (av_cons e_int (av_cons (e_tup av_nil) (av_cons e_int av_nil))))) (av_cons (e_tup (av_cons e_str (av_cons e_int (av_cons (e_tup (av_cons (e_tup (av_cons (e_var (i := 2)) (av_cons e_int av_nil))) av_nil)) (av_cons e_int av_nil))))) (av_cons (e_tup (av_cons e_str (av_cons e_int (av_cons (e_tup av_nil) (av_cons (e_var (i := 4)) av_nil))))) (av_cons (e_tup (av_cons e_str (av_cons e_int (av_cons (e_tup av_nil) (av_cons e_int av_nil))))) (av_cons (e_tup (av_cons e_str (av_cons e_int (av_cons (e_tup (av_cons (e_tup (av_cons (e_var (i := 5)) (av_cons e_int av_nil))) av_nil)) (av_cons (e_var (i := 4)) av_nil))))) (av_cons (e_tup (av_cons e_str (av_cons e_int (av_cons (e_tup av_nil) (av_cons (e_tup (av_cons (e_tup (av_cons e_int (av_cons e_int av_nil))) av_nil)) av_nil))))) (av_cons (e_tup (av_cons e_str (av_cons e_int (av_cons (e_tup av_nil) (av_cons e_int av_nil))))) av_nil))))))))))))
  (ss_cons (s_if (t_cmp op_gt g_gt (o_v (e_var (i := 2))) (o_v e_int) (nomark _))
  (ss_one (s_own (i := 6) N__law_each.nd (n_f (g_op mon_fr o_add g_add (o_own (i := 6)) (o_n (n_lst (av_cons (e_tup (av_cons e_str (av_cons e_int (av_cons (e_tup (av_cons (e_tup (av_cons (e_var (i := 5)) (av_cons e_int av_nil))) (av_cons (e_tup (av_cons e_int (av_cons e_int av_nil))) av_nil))) (av_cons (e_var (i := 4)) av_nil))))) (av_cons (e_tup (av_cons e_str (av_cons e_int (av_cons (e_tup av_nil) (av_cons (e_tup (av_cons (e_tup (av_cons (e_var (i := 5)) (av_cons e_int av_nil))) (av_cons (e_tup (av_cons e_int (av_cons e_int av_nil))) av_nil))) av_nil))))) (av_cons (e_tup (av_cons e_str (av_cons e_int (av_cons (e_tup (av_cons (e_tup (av_cons e_int (av_cons e_int av_nil))) (av_cons (e_tup (av_cons e_int (av_cons e_int av_nil))) av_nil))) (av_cons e_int av_nil))))) av_nil)))))))))
  ss_nil)
  (ss_cons (s_forOwn (i := 6) hp rfl (gt_name N__law_each.nd (i := 7)) (fun c =>
  (ss_one (s_if (t_w (w_or (t_cmp op_isN g_is (o_v (e_fn D__law_fault (hr.mono (by decide)) tk (av_cons (e_var (i := 2)) (av_cons (e_tup (av_cons (e_var (i := 7)) av_nil)) av_nil)))) (o_v e_non) (nomark _)) (w_or1 (t_not (t_truth (o_v (e_fn D__law_asked (hr.mono (by decide)) tk (av_cons (e_var (i := 1)) (av_cons (e_f (g_op mon_fr o_add g_add (o_v (e_var (i := 3))) (o_v (e_tup (av_cons (e_var (i := 7)) av_nil))))) av_nil)))))))))
  (ss_one (s_ret e_bl))
  ss_nil))))
  (ss_cons (s_own (i := 8) N__law_each.nd (n_lst (av_cons (e_tup (av_cons e_str (av_cons e_int (av_cons (e_tup (av_cons (e_tup (av_cons (e_var (i := 5)) (av_cons e_int av_nil))) av_nil)) (av_cons (e_tup (av_cons (e_tup (av_cons (e_var (i := 5)) (av_cons e_int av_nil))) av_nil)) av_nil))))) (av_cons (e_tup (av_cons e_str (av_cons e_int (av_cons (g_callTy mon_val call_tuple_of g_tuple B.b_tuple (ao_cons (o_n (n_comp (own := [("one", 9)]) rfl N__law_each.nd (itV_of (it_range1 B.b_range (ao_cons (o_v (e_var (i := 2))) ao_nil))) (show BlkOk ["pan", "tour", "many", "code", "move", "top", "lines", "line", "good", "one"] (defScope (top 29)) ({ kind := PySem.ScopeKind.function, names := [(PySem.Str.ofString ".0", PySem.NameKind.local), (PySem.Str.ofString "one", PySem.NameKind.local)], isGenerator := false, isCoroutine := false, more := [] : PySem.Scope }) [("one", 9)] from ⟨rfl, by decide +kernel, by decide +kernel, by decide +kernel, by decide +kernel⟩) (by decide) (fun _ _ _ _ _ => (gt_name N__law_each.nd (i := 9))) (fun _ _ _ _ _ => tts_nil) (fun _ _ _ _ _ => (e_tup (av_cons (e_var (i := 9)) (av_cons e_int av_nil)))))) ao_nil)) (av_cons e_int av_nil))))) (av_cons (e_tup (av_cons e_str (av_cons e_int (av_cons (g_callTy mon_val call_tuple_of g_tuple B.b_tuple (ao_cons (o_n (n_comp (own := [("one", 9)]) rfl N__law_each.nd (itV_of (it_range1 B.b_range (ao_cons (o_v (e_var (i := 2))) ao_nil))) (show BlkOk ["pan", "tour", "many", "code", "move", "top", "lines", "line", "good", "one"] (defScope (top 29)) ({ kind := PySem.ScopeKind.function, names := [(PySem.Str.ofString ".0", PySem.NameKind.local), (PySem.Str.ofString "one", PySem.NameKind.local)], isGenerator := false, isCoroutine := false, more := [] : PySem.Scope }) [("one", 9)] from ⟨rfl, by decide +kernel, by decide +kernel, by decide +kernel, by decide +kernel⟩) (by decide) (fun _ _ _ _ _ => (gt_name N__law_each.nd (i := 9))) (fun _ _ _ _ _ => tts_nil) (fun _ _ _ _ _ => (e_tup (av_cons (e_var (i := 9)) (av_cons e_int av_nil)))))) ao_nil)) (av_cons (g_callTy mon_val call_tuple_of g_tuple B.b_tuple (ao_cons (o_n (n_comp (own := [("one", 9)]) rfl N__law_each.nd (itV_of (it_range1 B.b_range (ao_cons (o_v (e_var (i := 2))) ao_nil))) (show BlkOk ["pan", "tour", "many", "code", "move", "top", "lines", "line", "good", "one"] (defScope (top 29)) ({ kind := PySem.ScopeKind.function, names := [(PySem.Str.ofString ".0", PySem.NameKind.local), (PySem.Str.ofString "one", PySem.NameKind.local)], isGenerator := false, isCoroutine := false, more := [] : PySem.Scope }) [("one", 9)] from ⟨rfl, by decide +kernel, by decide +kernel, by decide +kernel, by decide +kernel⟩) (by decide) (fun _ _ _ _ _ => (gt_name N__law_each.nd (i := 9))) (fun _ _ _ _ _ => tts_nil) (fun _ _ _ _ _ => (e_tup (av_cons (e_var (i := 9)) (av_cons e_int av_nil)))))) ao_nil)) av_nil))))) av_nil)))))
  (ss_one (s_ret (g_cmp mon_val (o_eq hr.units) g_eq (o_v (g_callB mon_val c_len g_len B.b_len (ao_cons (o_n (n_comp (own := [("line", 7)]) rfl N__law_each.nd (iv_o (o_own (i := 8))) (show BlkOk ["pan", "tour", "many", "code", "move", "top", "lines", "line", "good", "one"] (defScope (top 29)) ({ kind := PySem.ScopeKind.function, names := [ (PySem.Str.ofString ".0", PySem.NameKind.local), (PySem.Str.ofString "line", PySem.NameKind.local), (PySem.Str.ofString "_law_asked", PySem.NameKind.globalImplicit), (PySem.Str.ofString "code", PySem.NameKind.free), (PySem.Str.ofString "tour", PySem.NameKind.free)], isGenerator := false, isCoroutine := false, more := [] : PySem.Scope }) [("line", 7)] from ⟨rfl, by decide +kernel, by decide +kernel, by decide +kernel, by decide +kernel⟩) (by decide) (fun _ _ _ _ _ => (gt_name N__law_each.nd (i := 7))) (fun _ _ _ _ _ => (tts_one (t_not (t_truth (o_v (e_fn D__law_asked (hr.mono (by decide)) takes0 (av_cons (e_var (i := 1)) (av_cons (e_f (g_op mon_fr o_add g_add (o_v (e_var (i := 3))) (o_v (e_tup (av_cons (e_var (i := 7)) av_nil))))) av_nil)))))))) (fun _ _ _ _ _ => e_int))) ao_nil))) (o_v e_int) (nomark _))))))))))
@[irreducible] def F_law : FM := mFun 16 1 (sSeq (sSet 1 (xFn F__law_pan (vCons (xVar 0) vNil)))
  (sSeq (sSet 2 (xTup (vCons (xC (.str "a")) (vCons (xC (.str "b")) (vCons (xC (.str "c1")) (vCons (xC (.str "cylinde0")) (vCons (xC (.str "homes")) (vCons (xC (.str "part2")) (vCons (xC (.str "q")) (vCons (xC (.str "zz")) vNil))))))))))
  (sSeq (sFor (xRng1 (aCons (xV (xC (.int 2))) aNil)) (tName 3)
  (sSeq (sSet 4 (xPutF (xOp fAdd (xV (xC (.int 1))) (xV (xFn F__law_grain (vCons (xVar 1) (vCons (xC (.int 15)) (vCons (xC (.int 8)) vNil))))))))
  (sSeq (sSet 5 (xTR1 (xVar 4)))
  (sSeq (sSet 6 (xTup (vCons (xPutF (xSl fSl (xV (xVar 2)) pNone (pSome (xVar 4)))) (vCons (xCall fTuple (aCons (xN (xComp (xRng1 (aCons (xV (xVar 4)) aNil)) (tName 7) [7] tTrue (xFn F__law_grain (vCons (xVar 1) (vCons (xC (.int 16)) (vCons (xC (.int 2)) vNil)))))) aNil)) (vCons (xTup (vCons (xVar 5) (vCons (xVar 5) vNil))) vNil)))))
  (sSeq (sSet 8 (xCall fTuple (aCons (xN (xComp (xRng1 (aCons (xOp fAdd (xV (xC (.int 1))) (xV (xFn F__law_grain (vCons (xVar 1) (vCons (xC (.int 17)) (vCons (xC (.int 9)) vNil)))))) aNil)) (tName 9) [9] tTrue (xFn F__law_line (vCons (xVar 1) (vCons (xVar 4) vNil))))) aNil)))
  (sSeq (sIf (tOr (tNot (tTruth (xV (xFn F__law_asked (vCons (xVar 6) (vCons (xVar 8) vNil)))))) (tOr (tNot (tTruth (xV (xFn F__law_asked (vCons (xVar 6) (vCons (xTup vNil) vNil)))))) (tNot (tTruth (xV (xFn F__law_even (vCons (xFnK F_check_code 2 [1, 0] (vCons (xVar 8) (vCons (xVar 6) vNil))) (vCons (xCall fLen (aCons (xV (xVar 8)) aNil)) vNil))))))))
  (sRet (xC (.bl false)))
  sNil)
  (sSeq (sIf (tNot (tTruth (xV (xFn F__law_each (vCons (xVar 1) (vCons (xVar 6) (vCons (xVar 4) (vCons (xVar 8) vNil))))))))
  (sRet (xC (.bl false)))
  sNil)
  (sSeq (sFor (xRng1 (aCons (xV (xC (.int 4))) aNil)) (tName 10)
  (sSeq (sSet 11 (xFn F__law_grain (vCons (xVar 1) (vCons (xC (.int 18)) (vCons (xCall fLen (aCons (xV (xVar 8)) aNil)) vNil)))))
  (sSeq (sSet 12 (xPutF (xOp fAdd (xOp fAdd (xSl fSl (xV (xVar 8)) pNone (pSome (xVar 11))) (xV (xTup (vCons (xFn F__law_bent (vCons (xVar 1) (vCons (xVar 4) (vCons (xOp fIx (xV (xVar 8)) (xV (xVar 11))) (vCons (xVar 10) vNil))))) vNil)))) (xSl fSl (xV (xVar 8)) (pSome (xPutF (xOp fAdd (xV (xVar 11)) (xV (xC (.int 1)))))) pNone))))
  (sSeq (sIf (tNot (tTruth (xV (xFn F__law_asked (vCons (xVar 6) (vCons (xVar 12) vNil))))))
  (sRet (xC (.bl false)))
  sNil)
  (sSeq (sSet 13 (xFn F__law_grain (vCons (xVar 1) (vCons (xC (.int 19)) (vCons (xCall fLen (aCons (xV (xVar 8)) aNil)) vNil)))))
  (sSeq (sIf (tAnd (tTruth (xV (xIsi "tuple" (xV (xOp fIx (xV (xVar 12)) (xV (xVar 13))))))) (tAnd (tOf (xOp fEq (xV (xCall fLen (aCons (xV (xOp fIx (xV (xVar 12)) (xV (xVar 13)))) aNil))) (xV (xC (.int 4))))) (tOf (xOp fEq (xV (xOp fIx (xV (xVar 12)) (xV (xVar 13)))) (xV (xOp fIx (xV (xVar 8)) (xV (xVar 13))))))))
  (sSet 12 (xPutF (xOp fAdd (xOp fAdd (xSl fSl (xV (xVar 12)) pNone (pSome (xVar 13))) (xV (xTup (vCons (xFn F__law_bent (vCons (xVar 1) (vCons (xVar 4) (vCons (xOp fIx (xV (xVar 8)) (xV (xVar 13))) (vCons (xFn F__law_grain (vCons (xVar 1) (vCons (xC (.int 20)) (vCons (xC (.int 4)) vNil)))) vNil))))) vNil)))) (xSl fSl (xV (xVar 12)) (pSome (xPutF (xOp fAdd (xV (xVar 13)) (xV (xC (.int 1)))))) pNone))))
  (sIf (tOf (xOp fGt (xV (xVar 10)) (xV (xC (.int 0)))))
  (sSet 12 (xPutF (xOp fAdd (xOp fAdd (xSl fSl (xV (xVar 12)) pNone (pSome (xVar 11))) (xV (xTup (vCons (xIf (tOf (xOp fNe (xV (xVar 10)) (xV (xC (.int 3))))) (xFn F__law_bent (vCons (xVar 1) (vCons (xVar 4) (vCons (xOp fIx (xV (xVar 12)) (xV (xVar 11))) (vCons (xOp fSub (xV (xVar 10)) (xV (xC (.int 1)))) vNil))))) (xTup (vCons (xOp fIx (xV (xOp fIx (xV (xVar 8)) (xV (xVar 11)))) (xV (xC (.int 0)))) (vCons (xC (.int 60)) (vCons (xC .non) (vCons (xC .non) vNil)))))) vNil)))) (xSl fSl (xV (xVar 12)) (pSome (xPutF (xOp fAdd (xV (xVar 11)) (xV (xC (.int 1)))))) pNone))))
  sNil))
  (sIf (tNot (tTruth (xV (xFn F__law_asked (vCons (xVar 6) (vCons (xVar 12) vNil))))))
  (sRet (xC (.bl false)))
  sNil)))))))
  (sSeq (sIf (tAnd (tOf (xOp fLt (xV (xVar 4)) (xV (xC (.int 8))))) (tNot (tTruth (xV (xFn F__law_asked (vCons (xVar 6) (vCons (xPutF (xOp fAdd (xV (xVar 8)) (xV (xTup (vCons (xTup (vCons (xC (.str "if")) (vCons (xC (.int 0)) (vCons (xTup vNil) (vCons (xTup (vCons (xTup (vCons (xVar 4) (vCons (xC (.int 0)) vNil))) vNil)) vNil))))) vNil))))) vNil)))))))
  (sRet (xC (.bl false)))
  sNil)
  (sSeq (sIf (tNot (tTruth (xV (xFn F__law_asked (vCons (xVar 6) (vCons (xPutF (xOp fAdd (xV (xVar 8)) (xV (xTup (vCons (xTup (vCons (xC (.str "if")) (vCons (xC (.int 59)) (vCons (xTup vNil) (vCons (xTup (vCons (xTup (vCons (xOp fSub (xV (xVar 4)) (xV (xC (.int 1)))) (vCons (xC (.int 1)) vNil))) vNil)) vNil))))) vNil))))) vNil))))))
  (sRet (xC (.bl false)))
  sNil)
  (sFor (xSrc (xV (xTup (vCons (xC .non) (vCons (xPut (xCall fList (aCons (xV (xVar 8)) aNil))) (vCons (xC (.str "if")) (vCons (xC (.int 0)) (vCons (xC (.bl true)) (vCons (xTup (vCons (xVar 8) vNil)) (vCons (xPutF (xOp fAdd (xV (xVar 8)) (xV (xTup (vCons (xC .non) vNil))))) (vCons (xPut (xLst (vCons (xVar 8) (vCons (xTup vNil) vNil)))) vNil))))))))))) (tName 14)
  (sIf (tNot (tTruth (xV (xFn F__law_asked (vCons (xVar 6) (vCons (xVar 14) vNil))))))
  (sRet (xC (.bl false)))
  sNil))))))))))))
  (sSeq (sIf (tOf (xOp fNe (xV (xFn F__law_grain (vCons (xVar 1) (vCons (xC (.int 21)) (vCons (xC (.int 13)) vNil))))) (xV (xC (.int 6)))))
  (sRet (xC (.bl true)))
  sNil)
  (sSeq (sSet 15 (xPutF (xSl fSl (xOp fMul (xV (xVar 8)) (xV (xC (.int 1000)))) pNone (pSome (xC (.int 1000))))))
  (sRet (xAnd (xFn F__law_asked (vCons (xVar 6) (vCons (xVar 15) vNil))) (xAnd (xFn F__law_asked (vCons (xVar 6) (vCons (xPutF (xOp fAdd (xV (xVar 15)) (xSl fSl (xV (xVar 8)) pNone (pSome (xC (.int 1)))))) vNil))) (xFn F__law_asked (vCons (xVar 6) (vCons (xPutF (xOp fAdd (xSl fSl (xV (xVar 15)) pNone (pSome (xUn fNeg (xV (xC (.int 1)))))) (xV (xTup (vCons (xFn F__law_bent (vCons (xVar 1) (vCons (xVar 4) (vCons (xOp fIx (xV (xVar 15)) (xV (xUn fNeg (xV (xC (.int 1)))))) (vCons (xFn F__law_grain (vCons (xVar 1) (vCons (xC (.int 22)) (vCons (xC (.int 4)) vNil)))) vNil))))) vNil))))) vNil)))))))))))
theorem N_law : FnScope ["script", "pan", "names", "lap", "many", "whole", "tour", "one", "code", "step", "kind", "at", "bent", "other", "thing", "great"] ["script"] (defScope (top 30)) := ⟨rfl, rfl, rfl, by decide +kernel, rfl, by decide +kernel, by decide +kernel⟩
theorem ok_law {P : Program} {w : World} {K : PySem.W.Frag} {mg : Str → Option Value} {base : Heap} {f : Addr} {fd : FuncData} (B : Bl mg) (Z : Xs P K mg) (F : FunD K "law" "law" (defArgs (top 30)) (defBody (top 30)) (defScope (top 30)) [] [] f fd) (D__law_asked : Def P w K mg base "_law_asked" 8 F__law_asked) (D__law_grain : Def P w K mg base "_law_grain" 1 F__law_grain) (D__law_bent : Def P w K mg base "_law_bent" 3 F__law_bent) (D__law_each : Def P w K mg base "_law_each" 9 F__law_each) (D_check_code : Def P w K mg base "check_code" 4 F_check_code) (D__law_even : Def P w K mg base "_law_even" 7 F__law_even) (D__law_line : Def P w K mg base "_law_line" 3 F__law_line) (D__law_pan : Def P w K mg base "_law_pan" 1 F__law_pan) (DK_check_code_0 : DefK P w K mg base "check_code" 4 F_check_code ["thing", "tour"] [1, 0]) : FnOk P w K mg base (L2.CX P w) 10 f fd ["script"] (spF K F_law) := by
  unfold F_law
  exact def_fn F N_law fun cdv A outer s H E c hr tk hp =>
  (ss_cons (s_set (i := 1) N_law.nd (e_fn D__law_pan (hr.mono (by decide)) tk (av_cons (e_var (i := 0)) av_nil)))
  (ss_cons (s_set (i := 2) N_law.nd (e_tup (av_cons e_str (av_cons e_str (av_cons e_str (av_cons e_str (av_cons e_str (av_cons e_str (av_cons e_str (av_cons e_str av_nil))))))))))
  (ss_cons (s_for hp rfl (it_range1 B.b_range (ao_cons (o_v e_int) ao_nil)) (gt_name N_law.nd (i := 3)) (fun c =>
  (ss_cons (s_set (i := 4) N_law.nd (e_f (g_op mon_fr o_add g_add (o_v e_int) (o_v (e_fn D__law_grain (hr.mono (by decide)) tk (av_cons (e_var (i := 1)) (av_cons e_int (av_cons e_int av_nil))))))))
  (ss_cons (s_set (i := 5) N_law.nd (e_tr1 B.b_tuple B.b_range (e_var (i := 4))))
  (ss_cons (s_set (i := 6) N_law.nd (e_tup (av_cons (e_f (g_sl mon_fr i_sl g_slA (o_v (e_var (i := 2))) op_none (op_some (e_var (i := 4))))) (av_cons (g_callTy mon_val call_tuple_of g_tuple B.b_tuple (ao_cons (o_n (n_comp (own := [("one", 7)]) rfl N_law.nd (itV_of (it_range1 B.b_range (ao_cons (o_v (e_var (i := 4))) ao_nil))) (show BlkOk ["script", "pan", "names", "lap", "many", "whole", "tour", "one", "code", "step", "kind", "at", "bent", "other", "thing", "great"] (defScope (top 30)) ({ kind := PySem.ScopeKind.function, names := [ (PySem.Str.ofString ".0", PySem.NameKind.local), (PySem.Str.ofString "one", PySem.NameKind.local), (PySem.Str.ofString "_law_grain", PySem.NameKind.globalImplicit), (PySem.Str.ofString "pan", PySem.NameKind.free)], isGenerator := false, isCoroutine := false, more := [] : PySem.Scope }) [("one", 7)] from ⟨rfl, by decide +kernel, by decide +kernel, by decide +kernel, by decide +kernel⟩) (by decide) (fun _ _ _ _ _ => (gt_name N_law.nd (i := 7))) (fun _ _ _ _ _ => tts_nil) (fun _ _ _ _ _ => (e_fn D__law_grain (hr.mono (by decide)) takes0 (av_cons (e_var (i := 1)) (av_cons e_int (av_cons e_int av_nil))))))) ao_nil)) (av_cons (e_tup (av_cons (e_var (i := 5)) (av_cons (e_var (i := 5)) av_nil))) av_nil)))))
  (ss_cons (s_set (i := 8) N_law.nd (g_callTy mon_val call_tuple_of g_tuple B.b_tuple (ao_cons (o_n (n_comp (own := [("step", 9)]) rfl N_law.nd (itV_of (it_range1 B.b_range (ao_cons (o_f (g_op mon_fr o_add g_add (o_v e_int) (o_v (e_fn D__law_grain (hr.mono (by decide)) tk (av_cons (e_var (i := 1)) (av_cons e_int (av_cons e_int av_nil))))))) ao_nil))) (show BlkOk ["script", "pan", "names", "lap", "many", "whole", "tour", "one", "code", "step", "kind", "at", "bent", "other", "thing", "great"] (defScope (top 30)) ({ kind := PySem.ScopeKind.function, names := [ (PySem.Str.ofString ".0", PySem.NameKind.local), (PySem.Str.ofString "step", PySem.NameKind.local), (PySem.Str.ofString "_law_line", PySem.NameKind.globalImplicit), (PySem.Str.ofString "many", PySem.NameKind.free), (PySem.Str.ofString "pan", PySem.NameKind.free)], isGenerator := false, isCoroutine := false, more := [] : PySem.Scope }) [("step", 9)] from ⟨rfl, by decide +kernel, by decide +kernel, by decide +kernel, by decide +kernel⟩) (by decide) (fun _ _ _ _ _ => (gt_name N_law.nd (i := 9))) (fun _ _ _ _ _ => tts_nil) (fun _ _ _ _ _ => (e_fn D__law_line (hr.mono (by decide)) takes0 (av_cons (e_var (i := 1)) (av_cons (e_var (i := 4)) av_nil)))))) ao_nil)))
  (ss_cons (s_if (t_w (w_or (t_not (t_truth (o_v (e_fn D__law_asked (hr.mono (by decide)) tk (av_cons (e_var (i := 6)) (av_cons (e_var (i := 8)) av_nil)))))) (w_or (t_not (t_truth (o_v (e_fn D__law_asked (hr.mono (by decide)) tk (av_cons (e_var (i := 6)) (av_cons (e_tup av_nil) av_nil)))))) (w_or1 (t_not (t_truth (o_v (e_fn D__law_even (hr.mono (by decide)) tk (av_cons (e_fnK0 DK_check_code_0 (hr.mono (by decide)) tk (ak_cons (e_var (i := 8)) (ak_cons (e_var (i := 6)) ak_nil))) (av_cons (g_callB mon_val c_len g_len B.b_len (ao_cons (o_v (e_var (i := 8))) ao_nil)) av_nil))))))))))
  (ss_one (s_ret e_bl))
  ss_nil)
  (ss_cons (s_if (t_not (t_truth (o_v (e_fn D__law_each (hr.mono (by decide)) tk (av_cons (e_var (i := 1)) (av_cons (e_var (i := 6)) (av_cons (e_var (i := 4)) (av_cons (e_var (i := 8)) av_nil))))))))
  (ss_one (s_ret e_bl))
  ss_nil)
  (ss_cons (s_for hp rfl (it_range1 B.b_range (ao_cons (o_v e_int) ao_nil)) (gt_name N_law.nd (i := 10)) (fun c =>
  (ss_cons (s_set (i := 11) N_law.nd (e_fn D__law_grain (hr.mono (by decide)) tk (av_cons (e_var (i := 1)) (av_cons e_int (av_cons (g_callB mon_val c_len g_len B.b_len (ao_cons (o_v (e_var (i := 8))) ao_nil)) av_nil)))))
  (ss_cons (s_set (i := 12) N_law.nd (e_f (g_op mon_fr o_add g_add (o_f (g_op mon_fr o_add g_add (o_f (g_sl mon_fr i_sl g_slA (o_v (e_var (i := 8))) op_none (op_some (e_var (i := 11))))) (o_v (e_tup (av_cons (e_fn D__law_bent (hr.mono (by decide)) tk (av_cons (e_var (i := 1)) (av_cons (e_var (i := 4)) (av_cons (g_ix mon_val (i_ix hr.units) g_ixA (o_v (e_var (i := 8))) (o_v (e_var (i := 11)))) (av_cons (e_var (i := 10)) av_nil))))) av_nil))))) (o_f (g_sl mon_fr i_sl g_slA (o_v (e_var (i := 8))) (op_some (e_f (g_op mon_fr o_add g_add (o_v (e_var (i := 11))) (o_v e_int)))) op_none)))))
  (ss_cons (s_if (t_not (t_truth (o_v (e_fn D__law_asked (hr.mono (by decide)) tk (av_cons (e_var (i := 6)) (av_cons (e_var (i := 12)) av_nil))))))
  (ss_one (s_ret e_bl))
  ss_nil)
  (ss_cons (s_set (i := 13) N_law.nd (e_fn D__law_grain (hr.mono (by decide)) tk (av_cons (e_var (i := 1)) (av_cons e_int (av_cons (g_callB mon_val c_len g_len B.b_len (ao_cons (o_v (e_var (i := 8))) ao_nil)) av_nil)))))
  (ss_cons (s_if (t_w (w_and (t_truth (o_v (e_isi okT_tuple B.b_isinstance B.b_tuple (o_v (g_ix mon_val (i_ix hr.units) g_ixA (o_v (e_var (i := 12))) (o_v (e_var (i := 13)))))))) (w_and (t_cmp (o_eq hr.units) g_eq (o_v (g_callB mon_val c_len g_len B.b_len (ao_cons (o_v (g_ix mon_val (i_ix hr.units) g_ixA (o_v (e_var (i := 12))) (o_v (e_var (i := 13))))) ao_nil))) (o_v e_int) (nomark _)) (w_and1 (t_cmp (o_eq hr.units) g_eq (o_v (g_ix mon_val (i_ix hr.units) g_ixA (o_v (e_var (i := 12))) (o_v (e_var (i := 13))))) (o_v (g_ix mon_val (i_ix hr.units) g_ixA (o_v (e_var (i := 8))) (o_v (e_var (i := 13))))) (nomark _))))))
  (ss_one (s_set (i := 12) N_law.nd (e_f (g_op mon_fr o_add g_add (o_f (g_op mon_fr o_add g_add (o_f (g_sl mon_fr i_sl g_slA (o_v (e_var (i := 12))) op_none (op_some (e_var (i := 13))))) (o_v (e_tup (av_cons (e_fn D__law_bent (hr.mono (by decide)) tk (av_cons (e_var (i := 1)) (av_cons (e_var (i := 4)) (av_cons (g_ix mon_val (i_ix hr.units) g_ixA (o_v (e_var (i := 8))) (o_v (e_var (i := 13)))) (av_cons (e_fn D__law_grain (hr.mono (by decide)) tk (av_cons (e_var (i := 1)) (av_cons e_int (av_cons e_int av_nil)))) av_nil))))) av_nil))))) (o_f (g_sl mon_fr i_sl g_slA (o_v (e_var (i := 12))) (op_some (e_f (g_op mon_fr o_add g_add (o_v (e_var (i := 13))) (o_v e_int)))) op_none))))))
  (ss_one (s_if (t_cmp op_gt g_gt (o_v (e_var (i := 10))) (o_v e_int) (nomark _))
  (ss_one (s_set (i := 12) N_law.nd (e_f (g_op mon_fr o_add g_add (o_f (g_op mon_fr o_add g_add (o_f (g_sl mon_fr i_sl g_slA (o_v (e_var (i := 12))) op_none (op_some (e_var (i := 11))))) (o_v (e_tup (av_cons (e_if (t_cmp (o_ne hr.units) g_ne (o_v (e_var (i := 10))) (o_v e_int) (nomark _)) (e_fn D__law_bent (hr.mono (by decide)) tk (av_cons (e_var (i := 1)) (av_cons (e_var (i := 4)) (av_cons (g_ix mon_val (i_ix hr.units) g_ixA (o_v (e_var (i := 12))) (o_v (e_var (i := 11)))) (av_cons (g_op mon_val op_sub g_sub (o_v (e_var (i := 10))) (o_v e_int)) av_nil))))) (e_tup (av_cons (g_ix mon_val (i_ix hr.units) g_ixA (o_v (g_ix mon_val (i_ix hr.units) g_ixA (o_v (e_var (i := 8))) (o_v (e_var (i := 11))))) (o_v e_int)) (av_cons e_int (av_cons e_non (av_cons e_non av_nil)))))) av_nil))))) (o_f (g_sl mon_fr i_sl g_slA (o_v (e_var (i := 12))) (op_some (e_f (g_op mon_fr o_add g_add (o_v (e_var (i := 11))) (o_v e_int)))) op_none))))))
  ss_nil)))
  (ss_one (s_if (t_not (t_truth (o_v (e_fn D__law_asked (hr.mono (by decide)) tk (av_cons (e_var (i := 6)) (av_cons (e_var (i := 12)) av_nil))))))
  (ss_one (s_ret e_bl))
  ss_nil)))))))))
  (ss_cons (s_if (t_w (w_and (t_cmp o_lt g_lt (o_v (e_var (i := 4))) (o_v e_int) (nomark _)) (w_and1 (t_not (t_truth (o_v (e_fn D__law_asked (hr.mono (by decide)) tk (av_cons (e_var (i := 6)) (av_cons (e_f (g_op mon_fr o_add g_add (o_v (e_var (i := 8))) (o_v (e_tup (av_cons (e_tup (av_cons e_str (av_cons e_int (av_cons (e_tup av_nil) (av_cons (e_tup (av_cons (e_tup (av_cons (e_var (i := 4)) (av_cons e_int av_nil))) av_nil)) av_nil))))) av_nil))))) av_nil)))))))))
  (ss_one (s_ret e_bl))
  ss_nil)
  (ss_cons (s_if (t_not (t_truth (o_v (e_fn D__law_asked (hr.mono (by decide)) tk (av_cons (e_var (i := 6)) (av_cons (e_f (g_op mon_fr o_add g_add (o_v (e_var (i := 8))) (o_v (e_tup (av_cons (e_tup (av_cons e_str (av_cons e_int (av_cons (e_tup av_nil) (av_cons (e_tup (av_cons (e_tup (av_cons (g_op mon_val op_sub g_sub (o_v (e_var (i := 4))) (o_v e_int)) (av_cons e_int av_nil))) av_nil)) av_nil))))) av_nil))))) av_nil))))))
  (ss_one (s_ret e_bl))
  ss_nil)
  (ss_one (s_for hp rfl (it_v (e_tup (av_cons e_non (av_cons (e_put (g_callTy mon_new (c_list rfl) g_list B.b_list (ao_cons (o_v (e_var (i := 8))) ao_nil))) (av_cons e_str (av_cons e_int (av_cons e_bl (av_cons (e_tup (av_cons (e_var (i := 8)) av_nil)) (av_cons (e_f (g_op mon_fr o_add g_add (o_v (e_var (i := 8))) (o_v (e_tup (av_cons e_non av_nil))))) (av_cons (e_put (n_lst (av_cons (e_var (i := 8)) (av_cons (e_tup av_nil) av_nil)))) av_nil)))))))))) (gt_name N_law.nd (i := 14)) (fun c =>
  (ss_one (s_if (t_not (t_truth (o_v (e_fn D__law_asked (hr.mono (by decide)) tk (av_cons (e_var (i := 6)) (av_cons (e_var (i := 14)) av_nil))))))
  (ss_one (s_ret e_bl))
  ss_nil))))))))))))))))
  (ss_cons (s_if (t_cmp (o_ne hr.units) g_ne (o_v (e_fn D__law_grain (hr.mono (by decide)) tk (av_cons (e_var (i := 1)) (av_cons e_int (av_cons e_int av_nil))))) (o_v e_int) (nomark _))
  (ss_one (s_ret e_bl))
  ss_nil)
  (ss_cons (s_set (i := 15) N_law.nd (e_f (g_sl mon_fr i_sl g_slA (o_f (g_op mon_fr o_mul g_mul (o_v (e_var (i := 8))) (o_v e_int))) op_none (op_some e_int))))
  (ss_one (s_ret (e_and (e_fn D__law_asked (hr.mono (by decide)) tk (av_cons (e_var (i := 6)) (av_cons (e_var (i := 15)) av_nil))) (e_and (e_fn D__law_asked (hr.mono (by decide)) tk (av_cons (e_var (i := 6)) (av_cons (e_f (g_op mon_fr o_add g_add (o_v (e_var (i := 15))) (o_f (g_sl mon_fr i_sl g_slA (o_v (e_var (i := 8))) op_none (op_some e_int))))) av_nil))) (e_one (e_fn D__law_asked (hr.mono (by decide)) tk (av_cons (e_var (i := 6)) (av_cons (e_f (g_op mon_fr o_add g_add (o_f (g_sl mon_fr i_sl g_slA (o_v (e_var (i := 15))) op_none (op_some (g_un mon_val un_neg g_neg (o_v e_int))))) (o_v (e_tup (av_cons (e_fn D__law_bent (hr.mono (by decide)) tk (av_cons (e_var (i := 1)) (av_cons (e_var (i := 4)) (av_cons (g_ix mon_val (i_ix hr.units) g_ixA (o_v (e_var (i := 15))) (o_v (g_un mon_val un_neg g_neg (o_v e_int)))) (av_cons (e_fn D__law_grain (hr.mono (by decide)) tk (av_cons (e_var (i := 1)) (av_cons e_int (av_cons e_int av_nil)))) av_nil))))) av_nil))))) av_nil)))))))))))))
theorem all_ok {P : Program} {w : World} {K : PySem.W.Frag} {h : Heap} {mg : Str → Option Value} {base : Heap} {f : Addr} {fd : FuncData} (X : K.In h) (G : h.Ns mainGlobals mg) (c : He.SaysD fa fn K) (m : seeM2 file seen K = (true, mvs)) (hP : (List.lookup ("super" : Str) P.main.scope.names).isSome = false) (hF : (P.main.file == file) = true) (F : FunD K "law" "law" (defArgs (top 30)) (defBody (top 30)) (defScope (top 30)) [] [] f fd) : FnOk P w K mg base (L2.CX P w) 10 f fd ["script"] (spF K F_law) := by
  have B : Bl mg := ⟨He.free_ok X G (c.fact 26 (f := .free "ValueError") rfl), He.free_ok X G (c.fact 27 (f := .free "abs") rfl), He.free_ok X G (c.fact 28 (f := .free "bool") rfl), He.free_ok X G (c.fact 29 (f := .free "int") rfl), He.free_ok X G (c.fact 30 (f := .free "isinstance") rfl), He.free_ok X G (c.fact 31 (f := .free "len") rfl), He.free_ok X G (c.fact 32 (f := .free "list") rfl), He.free_ok X G (c.fact 33 (f := .free "range") rfl), He.free_ok X G (c.fact 34 (f := .free "str") rfl), He.free_ok X G (c.fact 35 (f := .free "super") rfl), He.free_ok X G (c.fact 36 (f := .free "tuple") rfl)⟩
  obtain ⟨m1, m2⟩ := Prod.mk.inj m
  obtain ⟨m3, m4⟩ := bb m1
  obtain ⟨m5, m6⟩ := bb m4
  obtain ⟨m7, m8⟩ := bb m6
  obtain ⟨m9, m10⟩ := bb m8
  have hs := of_decide_eq_true m3
  have Z : Xs P K mg := ⟨He.glo_ok X G (c.fact 21 (f := .glo "EndsError") rfl), He.glo_ok X G (c.fact 22 (f := .glo "DataError") rfl), He.glo_ok X G (c.fact 23 (f := .glo "CallError") rfl), He.glo_ok X G (c.fact 24 (f := .glo "TextError") rfl), He.glo_ok X G (c.fact 25 (f := .glo "BadCode") rfl), Two.bs_of (bb (List.all_eq_true.mp m7 "BadCode" (by decide))).1 hs (He.glo_ok X G (c.fact 25 (f := .glo "BadCode") rfl)) B.b_super hP hF (congrArg (fun l => l.getD 0 none) m2) rfl, ex_of (bb (List.all_eq_true.mp m7 "BadCode" (by decide))).2, is_of (List.all_eq_true.mp m9 ("BadCode", "CallError", false) (by decide)), is_of (List.all_eq_true.mp m9 ("BadCode", "DataError", true) (by decide)), is_of (List.all_eq_true.mp m9 ("BadCode", "TextError", false) (by decide))⟩
  obtain ⟨fd_is_number, T_is_number⟩ := c.def_ 0 (d := d_is_number) rfl
  have D_is_number : Def P w K mg base "is_number" 1 F_is_number := ok_is_number B Z (He.glo_ok X G (c.fact 0 (f := .glo "is_number") rfl)) T_is_number
  obtain ⟨fd_is_asks_of, T_is_asks_of⟩ := c.def_ 1 (d := d_is_asks_of) rfl
  have D_is_asks_of : Def P w K mg base "is_asks_of" 2 F_is_asks_of := ok_is_asks_of B Z (He.glo_ok X G (c.fact 1 (f := .glo "is_asks_of") rfl)) T_is_asks_of D_is_number
  obtain ⟨fd_is_asks, T_is_asks⟩ := c.def_ 2 (d := d_is_asks) rfl
  have D_is_asks : Def P w K mg base "is_asks" 3 F_is_asks := ok_is_asks B Z (He.glo_ok X G (c.fact 2 (f := .glo "is_asks") rfl)) T_is_asks D_is_asks_of
  obtain ⟨fd_is_stage, T_is_stage⟩ := c.def_ 3 (d := d_is_stage) rfl
  have D_is_stage : Def P w K mg base "is_stage" 2 F_is_stage := ok_is_stage B Z (He.glo_ok X G (c.fact 3 (f := .glo "is_stage") rfl)) T_is_stage D_is_number
  obtain ⟨fd_check_code, T_check_code⟩ := c.def_ 4 (d := d_check_code) rfl
  have D_check_code : Def P w K mg base "check_code" 4 F_check_code := ok_check_code B Z (He.glo_ok X G (c.fact 4 (f := .glo "check_code") rfl)) T_check_code D_is_asks D_is_stage
  have DK_check_code_0 : DefK P w K mg base "check_code" 4 F_check_code ["thing", "tour"] [1, 0] := okK_check_code_0 B Z (He.glo_ok X G (c.fact 4 (f := .glo "check_code") rfl)) T_check_code D_is_asks D_is_stage
  obtain ⟨fd_is_code, T_is_code⟩ := c.def_ 5 (d := d_is_code) rfl
  have D_is_code : Def P w K mg base "is_code" 5 F_is_code := ok_is_code B Z (He.glo_ok X G (c.fact 5 (f := .glo "is_code") rfl)) T_is_code D_check_code
  obtain ⟨fd__law_pan, T__law_pan⟩ := c.def_ 6 (d := d__law_pan) rfl
  have D__law_pan : Def P w K mg base "_law_pan" 1 F__law_pan := ok__law_pan B Z (He.glo_ok X G (c.fact 6 (f := .glo "_law_pan") rfl)) T__law_pan
  obtain ⟨fd__law_grain, T__law_grain⟩ := c.def_ 7 (d := d__law_grain) rfl
  have D__law_grain : Def P w K mg base "_law_grain" 1 F__law_grain := ok__law_grain B Z (He.glo_ok X G (c.fact 7 (f := .glo "_law_grain") rfl)) T__law_grain
  obtain ⟨fd__law_pairs, T__law_pairs⟩ := c.def_ 8 (d := d__law_pairs) rfl
  have D__law_pairs : Def P w K mg base "_law_pairs" 2 F__law_pairs := ok__law_pairs B Z (He.glo_ok X G (c.fact 8 (f := .glo "_law_pairs") rfl)) T__law_pairs D__law_grain
  obtain ⟨fd__law_stage, T__law_stage⟩ := c.def_ 9 (d := d__law_stage) rfl
  have D__law_stage : Def P w K mg base "_law_stage" 2 F__law_stage := ok__law_stage B Z (He.glo_ok X G (c.fact 9 (f := .glo "_law_stage") rfl)) T__law_stage D__law_grain
  obtain ⟨fd__law_line, T__law_line⟩ := c.def_ 10 (d := d__law_line) rfl
  have D__law_line : Def P w K mg base "_law_line" 3 F__law_line := ok__law_line B Z (He.glo_ok X G (c.fact 10 (f := .glo "_law_line") rfl)) T__law_line D__law_pairs D__law_stage D__law_grain
  obtain ⟨fd__law_number, T__law_number⟩ := c.def_ 11 (d := d__law_number) rfl
  have D__law_number : Def P w K mg base "_law_number" 1 F__law_number := ok__law_number B Z (He.glo_ok X G (c.fact 11 (f := .glo "_law_number") rfl)) T__law_number
  obtain ⟨fd__law_pairs_good, T__law_pairs_good⟩ := c.def_ 12 (d := d__law_pairs_good) rfl
  have D__law_pairs_good : Def P w K mg base "_law_pairs_good" 2 F__law_pairs_good := ok__law_pairs_good B Z (He.glo_ok X G (c.fact 12 (f := .glo "_law_pairs_good") rfl)) T__law_pairs_good D__law_number
  obtain ⟨fd__law_fault, T__law_fault⟩ := c.def_ 13 (d := d__law_fault) rfl
  have D__law_fault : Def P w K mg base "_law_fault" 3 F__law_fault := ok__law_fault B Z (He.glo_ok X G (c.fact 13 (f := .glo "_law_fault") rfl)) T__law_fault D__law_number D__law_pairs_good
  obtain ⟨fd__law_told, T__law_told⟩ := c.def_ 14 (d := d__law_told) rfl
  have D__law_told : Def P w K mg base "_law_told" 5 F__law_told := ok__law_told B Z (He.glo_ok X G (c.fact 14 (f := .glo "_law_told") rfl)) T__law_told D_check_code
  obtain ⟨fd__law_even, T__law_even⟩ := c.def_ 15 (d := d__law_even) rfl
  have D__law_even : Def P w K mg base "_law_even" 7 F__law_even := ok__law_even B Z (He.glo_ok X G (c.fact 15 (f := .glo "_law_even") rfl)) T__law_even
  obtain ⟨fd__law_asked, T__law_asked⟩ := c.def_ 16 (d := d__law_asked) rfl
  have D__law_asked : Def P w K mg base "_law_asked" 8 F__law_asked := ok__law_asked B Z (He.glo_ok X G (c.fact 16 (f := .glo "_law_asked") rfl)) T__law_asked D__law_told D__law_even D_is_code D__law_fault
  obtain ⟨fd__law_bad_pairs, T__law_bad_pairs⟩ := c.def_ 17 (d := d__law_bad_pairs) rfl
  have D__law_bad_pairs : Def P w K mg base "_law_bad_pairs" 2 F__law_bad_pairs := ok__law_bad_pairs B Z (He.glo_ok X G (c.fact 17 (f := .glo "_law_bad_pairs") rfl)) T__law_bad_pairs D__law_grain
  obtain ⟨fd__law_bent, T__law_bent⟩ := c.def_ 18 (d := d__law_bent) rfl
  have D__law_bent : Def P w K mg base "_law_bent" 3 F__law_bent := ok__law_bent B Z (He.glo_ok X G (c.fact 18 (f := .glo "_law_bent") rfl)) T__law_bent D__law_bad_pairs D__law_grain
  obtain ⟨fd__law_each, T__law_each⟩ := c.def_ 19 (d := d__law_each) rfl
  have D__law_each : Def P w K mg base "_law_each" 9 F__law_each := ok__law_each B Z (He.glo_ok X G (c.fact 19 (f := .glo "_law_each") rfl)) T__law_each D__law_asked D__law_fault D__law_grain
  exact ok_law B Z F D__law_asked D__law_grain D__law_bent D__law_each D_check_code D__law_even D__law_line D__law_pan DK_check_code_0
theorem facts {P : Program} {w : World} {K : PySem.W.Frag} {h : Heap} {mg : Str → Option Value} {f : Addr} (X : K.In h) (G : h.Ns mainGlobals mg) (hfa : mg ("law" : Str) = some (.ref f)) (c : He.SaysD fa fn K) (m : seeM2 file seen K = (true, mvs)) (hP : (List.lookup ("super" : Str) P.main.scope.names).isSome = false) (hF : (P.main.file == file) = true) :
    ∃ fd : FuncData, (∀ (s : Shared) (v : Value), BindsTo s fd ⟨[v], []⟩ [("script", v)]) ∧ ∀ base : Heap, K.In base → base.Ns mainGlobals mg → FnOk P w K mg base (L2.CX P w) 10 f fd ["script"] (spF K F_law) := by
  obtain ⟨fd, F⟩ := c.def_ 20 (d := d_law) rfl
  have e := hfa.symm.trans (He.glo_ok X G (c.fact 20 (f := .glo "law") rfl))
  cases e
  have b := FunD.bindsA (ps := ["script"]) F fun _ _ _ _ _ _ us hl => match us, hl with | [_], _ => rfl
  exact ⟨fd, fun s v => b s [v] rfl, fun base _ _ => all_ok X G c m hP hF F⟩
end HT

set_option Elab.async false
set_option linter.all false
set_option maxRecDepth 100000
set_option maxHeartbeats 2000000
set_option autoImplicit false
namespace Mi
namespace Raw
open PySem PySem.Spec PyProof.Rows L2

def OK {α : Type} (o : Out α) (Q : α → MH → Prop) : Prop := match o with
  | .ok a h => Q a h
  | _ => False
def RK {γ : Type} (r : Res γ) (Q : γ → MH → Prop) : Prop := match r with
  | some (v, h) => Q v h
  | none => False
structure Po where
  n : ME → MH → Prop
  r : Val → MH → Prop
  b : ME → MH → Prop
  c : ME → MH → Prop
def SN (o : SOut) (P : Po) : Prop := match o with
  | .next e h => P.n e h
  | .ret v h => P.r v h
  | .brk e h => P.b e h
  | .cont e h => P.c e h
  | _ => False
theorem OK.mono {α : Type} {o : Out α} {Q Q' : α → MH → Prop} (h : OK o Q) (i : ∀ a h, Q a h → Q' a h) : OK o Q' := by cases o <;> first | exact i _ _ h | exact h
theorem OK.get {α : Type} {o : Out α} {Q : α → MH → Prop} (h : OK o Q) : ∃ a h', o = .ok a h' ∧ Q a h' := by
  cases o with
  | ok a h' => exact ⟨a, h', rfl, h⟩
  | _ => exact h.elim
theorem SN.mono {o : SOut} {P P' : Po} (h : SN o P) (n : ∀ e h, P.n e h → P'.n e h) (r : ∀ e h, P.r e h → P'.r e h) (b : ∀ e h, P.b e h → P'.b e h) (c : ∀ e h, P.c e h → P'.c e h) : SN o P' := by
  cases o with
  | next => exact n _ _ h
  | ret => exact r _ _ h
  | brk => exact b _ _ h
  | cont => exact c _ _ h
  | _ => exact h.elim
@[simp] theorem ok_ok {α : Type} (a : α) (h : MH) (Q : α → MH → Prop) : OK (.ok a h) Q ↔ Q a h := Iff.rfl
@[simp] theorem ok_stuck {α : Type} (Q : α → MH → Prop) : OK (.stuck) Q ↔ False := Iff.rfl
@[simp] theorem sn_next (e : ME) (h : MH) (P : Po) : SN (.next e h) P ↔ P.n e h := Iff.rfl
@[simp] theorem sn_ret (v : Val) (h : MH) (P : Po) : SN (.ret v h) P ↔ P.r v h := Iff.rfl
@[simp] theorem sn_brk (e : ME) (h : MH) (P : Po) : SN (.brk e h) P ↔ P.b e h := Iff.rfl
@[simp] theorem sn_cont (e : ME) (h : MH) (P : Po) : SN (.cont e h) P ↔ P.c e h := Iff.rfl
@[simp] theorem sn_stuck (P : Po) : SN .stuck P ↔ False := Iff.rfl
@[simp] theorem rk_some {γ : Type} (v : γ) (h : MH) (Q : γ → MH → Prop) : RK (some (v, h)) Q ↔ Q v h := Iff.rfl
@[simp] theorem rk_none {γ : Type} (Q : γ → MH → Prop) : RK (none : Res γ) Q ↔ False := Iff.rfl
theorem ok_bind {α β : Type} (o : Out α) (f : α → MH → Out β) (Q : β → MH → Prop) : OK (o.bind f) Q ↔ OK o fun a h => OK (f a h) Q := by cases o <;> rfl
theorem ok_bindN {α β : Type} (o : Out α) (f : α → MH → Out β) (Q : β → MH → Prop) : OK (o.bindN f) Q ↔ OK o fun a h => OK (f a h) Q := by cases o <;> rfl
theorem ok_lift {γ : Type} (r : Res γ) (Q : γ → MH → Prop) : OK (lift r) Q ↔ RK r Q := by
  cases r with
  | none => rfl
  | some p => rfl
section
variable {env : ME} {h : MH} {α γ : Type}
@[simp] theorem ok_var (i : Nat) (Q : Val → MH → Prop) : OK (xVar i env h) Q ↔ ∃ v, env[i]? = some (.val v) ∧ Q v h := by
  unfold xVar
  split
  · rename_i v e
    rw [e]
    simp
  · rename_i e
    simp only [ok_stuck, false_iff]
    rintro ⟨v, e2, _⟩
    exact e v e2
@[simp] theorem ok_own (i : Nat) (Q : Opd → MH → Prop) : OK (xOwn i env h) Q ↔ ∃ v, env[i]? = some (.own v) ∧ Q (.cell v) h := by
  unfold xOwn
  split
  · rename_i v e
    rw [e]
    simp
  · rename_i e
    simp only [ok_stuck, false_iff]
    rintro ⟨v, e2, _⟩
    exact e v e2
@[simp] theorem ok_c (v : Val) (Q : Val → MH → Prop) : OK (xC v env h) Q ↔ Q v h := Iff.rfl
@[simp] theorem ok_v (m : EM Val) (Q : Opd → MH → Prop) : OK (xV m env h) Q ↔ OK (m env h) fun v h => Q (.val v) h := ok_bind ..
@[simp] theorem ok_n (m : EM Cell) (Q : Opd → MH → Prop) : OK (xN m env h) Q ↔ OK (m env h) fun v h => Q (.cell v) h := ok_bind ..
@[simp] theorem ok_put (m : EM Cell) (Q : Val → MH → Prop) : OK (xPut m env h) Q ↔ OK (m env h) fun k h1 => Q (.ref h1.length) (h1 ++ [k]) := ok_bind ..
def putQ (Q : Val → MH → Prop) (o : Opd) (h : MH) : Prop := match o with
  | .val v => Q v h
  | .cell k => Q (.ref h.length) (h ++ [k])
@[simp] theorem putQ_v (Q : Val → MH → Prop) (v : Val) : putQ Q (.val v) h ↔ Q v h := Iff.rfl
@[simp] theorem putQ_c (Q : Val → MH → Prop) (k : Cell) : putQ Q (.cell k) h ↔ Q (.ref h.length) (h ++ [k]) := Iff.rfl
@[simp] theorem ok_putF (m : EM Opd) (Q : Val → MH → Prop) : OK (xPutF m env h) Q ↔ OK (m env h) fun o h1 => putQ Q o h1 := by
  unfold xPutF
  rw [ok_bind]
  have e : ∀ o h1, OK (match o with | .val v => Out.ok v h1 | .cell k => .ok (.ref h1.length) (h1 ++ [k])) Q ↔ putQ Q o h1 := fun o h1 => by cases o <;> rfl
  cases m env h <;> first | exact e _ _ | rfl
def cellQ (Q : Cell → MH → Prop) (o : Opd) (h : MH) : Prop := match o with
  | .val v => False
  | .cell k => Q k h
@[simp] theorem cellQ_v (Q : Cell → MH → Prop) (v : Val) : cellQ Q (.val v) h ↔ False := Iff.rfl
@[simp] theorem cellQ_c (Q : Cell → MH → Prop) (k : Cell) : cellQ Q (.cell k) h ↔ Q k h := Iff.rfl
@[simp] theorem ok_cellOf (m : EM Opd) (Q : Cell → MH → Prop) : OK (xCellOf m env h) Q ↔ OK (m env h) fun o h1 => cellQ Q o h1 := by
  unfold xCellOf
  rw [ok_bind]
  have e : ∀ (o : Opd) h1, OK (match o.cellOf with | some b => Out.ok b h1 | none => .stuck) Q ↔ cellQ Q o h1 := fun o h1 => by cases o <;> rfl
  cases m env h <;> first | exact e _ _ | rfl
@[simp] theorem ok_op (f : Opd → Opd → MH → Res γ) (ma mb : EM Opd) (Q : γ → MH → Prop) : OK (xOp f ma mb env h) Q ↔ OK (ma env h) fun a h1 => OK (mb env h1) fun b h2 => RK (f a b h2) Q := by
  unfold xOp; simp only [ok_bind, ok_lift]
@[simp] theorem ok_un (f : Opd → MH → Res γ) (ma : EM Opd) (Q : γ → MH → Prop) : OK (xUn f ma env h) Q ↔ OK (ma env h) fun a h1 => RK (f a h1) Q := by
  unfold xUn; simp only [ok_bind, ok_lift]
@[simp] theorem ok_call (f : List Opd → MH → Res γ) (ma : EM (List Opd)) (Q : γ → MH → Prop) : OK (xCall f ma env h) Q ↔ OK (ma env h) fun a h1 => RK (f a h1) Q := by
  unfold xCall; simp only [ok_bind, ok_lift]
@[simp] theorem ok_fn (F : FM) (m : EM (List Val)) (Q : Val → MH → Prop) : OK (xFn F m env h) Q ↔ OK (m env h) fun a h1 => OK (F a h1) Q := ok_bind ..
@[simp] theorem ok_aNil (Q : List Opd → MH → Prop) : OK (aNil env h) Q ↔ Q [] h := Iff.rfl
@[simp] theorem ok_aCons (ma : EM Opd) (mr : EM (List Opd)) (Q : List Opd → MH → Prop) : OK (aCons ma mr env h) Q ↔ OK (ma env h) fun a h1 => OK (mr env h1) fun as h2 => Q (a :: as) h2 := by
  unfold aCons; simp only [ok_bind, ok_ok]
@[simp] theorem ok_vNil (Q : List Val → MH → Prop) : OK (vNil env h) Q ↔ Q [] h := Iff.rfl
@[simp] theorem ok_vCons (ma : EM Val) (mr : EM (List Val)) (Q : List Val → MH → Prop) : OK (vCons ma mr env h) Q ↔ OK (ma env h) fun a h1 => OK (mr env h1) fun as h2 => Q (a :: as) h2 := by
  unfold vCons; simp only [ok_bind, ok_ok]
theorem ok_ite {p : Prop} [Decidable p] {a b : Out α} (Q : α → MH → Prop) : OK (if p then a else b) Q ↔ if p then OK a Q else OK b Q := by split <;> rfl
@[simp] theorem ok_tup (m : EM (List Val)) (Q : Val → MH → Prop) : OK (xTup m env h) Q ↔ OK (m env h) fun vs h1 => vs.length ≤ 10000 ∧ Q (.tup vs) h1 := by
  unfold xTup
  rw [ok_bind]
  cases m env h with
  | ok vs h1 =>
    simp only [ok_ok]
    split
    · rename_i hz; simp [hz]
    · rename_i hz; simp [hz]
  | _ => rfl
@[simp] theorem ok_lst (m : EM (List Val)) (Q : Cell → MH → Prop) : OK (xLst m env h) Q ↔ OK (m env h) fun vs h1 => vs.length ≤ 10000 ∧ Q (.lst vs) h1 := by
  unfold xLst
  rw [ok_bind]
  cases m env h with
  | ok vs h1 =>
    simp only [ok_ok]
    split
    · rename_i hz; simp [hz]
    · rename_i hz; simp [hz]
  | _ => rfl
@[simp] theorem ok_dct (c : Cell) (Q : Cell → MH → Prop) : OK (xDct c env h) Q ↔ Q c h := Iff.rfl
@[simp] theorem ok_pNone (Q : Option Int → MH → Prop) : OK (pNone env h) Q ↔ Q none h := Iff.rfl
@[simp] theorem ok_pSome (m : EM Val) (Q : Option Int → MH → Prop) : OK (pSome m env h) Q ↔ OK (m env h) fun v h1 => ∃ i, v = .int i ∧ Q (some i) h1 := by
  unfold pSome
  rw [ok_bind]
  cases m env h with
  | ok v h1 => cases v <;> simp
  | _ => rfl
@[simp] theorem ok_sl (f : Opd → Option Int → Option Int → MH → Res γ) (ma : EM Opd) (ml mh : EM (Option Int)) (Q : γ → MH → Prop) : OK (xSl f ma ml mh env h) Q ↔ OK (ma env h) fun a h1 => OK (ml env h1) fun lo h2 => OK (mh env h2) fun hi h3 => RK (f a lo hi h3) Q := by
  unfold xSl; simp only [ok_bind, ok_lift]
@[simp] theorem ok_if (t : EM Bool) (m1 m2 : EM Val) (Q : Val → MH → Prop) : OK (xIf t m1 m2 env h) Q ↔ OK (t env h) fun k h1 => if k = true then OK (m1 env h1) Q else OK (m2 env h1) Q := by
  unfold xIf; simp only [ok_bind, ok_ite]
@[simp] theorem ok_isi (T : String) (m : EM Opd) (Q : Val → MH → Prop) : OK (xIsi T m env h) Q ↔ OK (m env h) fun o h1 => ∃ n, tyName o h1 = some n ∧ Q (.bl (isTy T n)) h1 := by
  unfold xIsi
  rw [ok_bind]
  cases m env h with
  | ok v h1 =>
    simp only [ok_ok]
    split
    · rename_i n e; rw [e]; simp
    · rename_i e; rw [e]; simp
  | _ => rfl
@[simp] theorem ok_lr1 (m : EM Val) (Q : Cell → MH → Prop) : OK (xLR1 m env h) Q ↔ OK (m env h) fun v h1 => ∃ n, v = .int n ∧ rgB 0 n = true ∧ Q (.lst (rngV 0 n.toNat)) h1 := by
  unfold xLR1
  rw [ok_bind]
  cases m env h with
  | ok v h1 =>
    cases v <;> simp [ok_ite]
  | _ => rfl
def blQ (Q : Bool → MH → Prop) (v : Val) (h : MH) : Prop := match v with
  | .bl b => Q b h
  | _ => False
@[simp] theorem blQ_bl (Q : Bool → MH → Prop) (b : Bool) : blQ Q (.bl b) h ↔ Q b h := Iff.rfl
def trQ (Q : Bool → MH → Prop) (r : Option Bool) (h : MH) : Prop := match r with
  | some b => Q b h
  | none => False
@[simp] theorem trQ_some (Q : Bool → MH → Prop) (b : Bool) : trQ Q (some b) h ↔ Q b h := Iff.rfl
@[simp] theorem trQ_none (Q : Bool → MH → Prop) : trQ Q none h ↔ False := Iff.rfl
@[simp] theorem ok_tOf (m : EM Val) (Q : Bool → MH → Prop) : OK (tOf m env h) Q ↔ OK (m env h) fun v h1 => blQ Q v h1 := by
  unfold tOf
  rw [ok_bind]
  cases m env h with
  | ok v h1 => cases v <;> rfl
  | _ => rfl
@[simp] theorem ok_truth (m : EM Opd) (Q : Bool → MH → Prop) : OK (tTruth m env h) Q ↔ OK (m env h) fun o h1 => trQ Q (truth o h1) h1 := by
  unfold tTruth
  rw [ok_bind]
  cases m env h with
  | ok v h1 =>
    simp only [ok_ok]
    cases truth v h1 <;> rfl
  | _ => rfl
@[simp] theorem ok_tAnd (a b : EM Bool) (Q : Bool → MH → Prop) : OK (tAnd a b env h) Q ↔ OK (a env h) fun k h1 => if k = true then OK (b env h1) Q else Q false h1 := by
  unfold tAnd; simp only [ok_bind, ok_ite, ok_ok]
@[simp] theorem ok_tOr (a b : EM Bool) (Q : Bool → MH → Prop) : OK (tOr a b env h) Q ↔ OK (a env h) fun k h1 => if k = true then Q true h1 else OK (b env h1) Q := by
  unfold tOr; simp only [ok_bind, ok_ite, ok_ok]
@[simp] theorem ok_tNot (a : EM Bool) (Q : Bool → MH → Prop) : OK (tNot a env h) Q ↔ OK (a env h) fun k h1 => Q (!k) h1 := ok_bind ..
@[simp] theorem ok_tTrue (Q : Bool → MH → Prop) : OK (tTrue env h) Q ↔ Q true h := Iff.rfl
@[simp] theorem ok_xAnd (a b : EM Val) (Q : Val → MH → Prop) : OK (xAnd a b env h) Q ↔ OK (a env h) fun v h1 => trQ (fun k _ => if k = true then OK (b env h1) Q else Q v h1) (truth (.val v) h1) h1 := by
  unfold xAnd
  rw [ok_bind]
  cases a env h with
  | ok v h1 =>
    simp only [ok_ok]
    cases truth (.val v) h1 with
    | none => rfl
    | some k => cases k <;> simp
  | _ => rfl
@[simp] theorem ok_xOr (a b : EM Val) (Q : Val → MH → Prop) : OK (xOr a b env h) Q ↔ OK (a env h) fun v h1 => trQ (fun k _ => if k = true then Q v h1 else OK (b env h1) Q) (truth (.val v) h1) h1 := by
  unfold xOr
  rw [ok_bind]
  cases a env h with
  | ok v h1 =>
    simp only [ok_ok]
    cases truth (.val v) h1 with
    | none => rfl
    | some k => cases k <;> simp
  | _ => rfl
@[simp] theorem ok_xNot (a : EM Opd) (Q : Val → MH → Prop) : OK (xNot a env h) Q ↔ OK (a env h) fun v h1 => trQ (fun k h2 => Q (.bl (!k)) h2) (truth v h1) h1 := by
  unfold xNot
  rw [ok_bind]
  cases a env h with
  | ok v h1 =>
    simp only [ok_ok]
    cases truth v h1 <;> rfl
  | _ => rfl
@[simp] theorem ok_chain (f g : Opd → Opd → MH → Res Val) (ma mb md : EM Opd) (Q : Val → MH → Prop) : OK (xChain f g ma mb md env h) Q ↔ OK (ma env h) fun a h1 => OK (mb env h1) fun b h2 => RK (f a b h2) fun z h3 => blQ (fun k h3 => if k = true then OK (md env h3) (fun d h4 => RK (g b d h4) Q) else Q (.bl false) h3) z h3 := by
  unfold xChain
  rw [ok_bind]
  cases ma env h with
  | ok a h1 =>
    simp only [ok_ok]
    rw [ok_bind]
    cases mb env h1 with
    | ok b h2 =>
      simp only [ok_ok]
      rw [ok_bind]
      cases f a b h2 with
      | none => rfl
      | some p =>
        obtain ⟨z, h3⟩ := p
        cases z with
        | bl k =>
          cases k with
          | true =>
            show OK ((md env h3).bind fun d h4 => lift (g b d h4)) Q ↔ OK (md env h3) (fun d h4 => RK (g b d h4) Q)
            simp only [ok_bind, ok_lift]
          | false => rfl
        | _ => rfl
    | _ => rfl
  | _ => rfl
@[simp] theorem ok_mt (T : String) (f : Opd → List Opd → MH → Res γ) (ma : EM Opd) (mas : EM (List Opd)) (Q : γ → MH → Prop) : OK (xMt T f ma mas env h) Q ↔ OK (ma env h) fun a h1 => okTy T a h1 = true ∧ OK (mas env h1) fun as h2 => RK (f a as h2) Q := by
  unfold xMt
  rw [ok_bind]
  cases ma env h with
  | ok v h1 =>
    simp only [ok_ok]
    split
    · rename_i e; simp [e, ok_bind, ok_lift]
    · rename_i e; simp [e]
  | _ => rfl
@[simp] theorem ok_src (m : EM Opd) (Q : Src → MH → Prop) : OK (xSrc m env h) Q ↔ OK (m env h) fun o h1 => ∃ s, srcOf o h1 = some s ∧ Q s h1 := by
  unfold xSrc
  rw [ok_bind]
  cases m env h with
  | ok v h1 =>
    simp only [ok_ok]
    split
    · rename_i n e; rw [e]; simp
    · rename_i e; rw [e]; simp
  | _ => rfl
theorem ok_matchL (as : List Opd) (h1 : MH) (Q : Src → MH → Prop) : OK (match as with
  | [.val (.int j)] => if -(2 ^ 62) ≤ j ∧ j < 2 ^ 62 then Out.ok (Src.items (rngV 0 j.toNat)) h1 else .stuck
  | _ => .stuck) Q ↔ ∃ j, as = [.val (.int j)] ∧ (-(2 ^ 62) ≤ j ∧ j < 2 ^ 62) ∧ Q (.items (rngV 0 j.toNat)) h1 := by
  split
  · rw [ok_ite]
    constructor
    · intro q
      split at q
      · rename_i hz; exact ⟨_, rfl, hz, q⟩
      · exact q.elim
    · rintro ⟨j, e, hz, q⟩
      cases e
      rw [if_pos hz]; exact q
  · rename_i e
    simp only [ok_stuck, false_iff]
    rintro ⟨j, e2, _⟩
    exact e j e2
@[simp] theorem ok_rng1 (m : EM (List Opd)) (Q : Src → MH → Prop) : OK (xRng1 m env h) Q ↔ OK (m env h) fun as h1 => ∃ j, as = [.val (.int j)] ∧ (-(2 ^ 62) ≤ j ∧ j < 2 ^ 62) ∧ Q (.items (rngV 0 j.toNat)) h1 := by
  unfold xRng1
  rw [ok_bind]
  cases m env h with
  | ok v h1 => exact ok_matchL v h1 Q
  | _ => rfl
def rng2Q (Q : Src → MH → Prop) (as : List Opd) (h : MH) : Prop := match as with
  | [.val (.int i), .val (.int j)] => (-(2 ^ 62) ≤ i ∧ i < 2 ^ 62 ∧ -(2 ^ 62) ≤ j ∧ j < 2 ^ 62) ∧ Q (.items (rngV i (j - i).toNat)) h
  | _ => False
@[simp] theorem rng2Q_int (Q : Src → MH → Prop) (i j : Int) : rng2Q Q [.val (.int i), .val (.int j)] h ↔ (-(2 ^ 62) ≤ i ∧ i < 2 ^ 62 ∧ -(2 ^ 62) ≤ j ∧ j < 2 ^ 62) ∧ Q (.items (rngV i (j - i).toNat)) h := Iff.rfl
theorem rng2_at (as : List Opd) (h1 : MH) (Q : Src → MH → Prop) : OK (match as with
  | [.val (.int i), .val (.int j)] => if -(2 ^ 62) ≤ i ∧ i < 2 ^ 62 ∧ -(2 ^ 62) ≤ j ∧ j < 2 ^ 62 then Out.ok (Src.items (rngV i (j - i).toNat)) h1 else .stuck
  | _ => .stuck) Q ↔ rng2Q Q as h1 := by
  rcases as with _ | ⟨a, _ | ⟨b, _ | ⟨c, r⟩⟩⟩
  · rfl
  · cases a with
    | val v => cases v <;> rfl
    | cell _ => rfl
  · cases a with
    | val v => cases v with
      | int i => cases b with
        | val u => cases u with
          | int j =>
            simp only [rng2Q_int]
            split
            · rename_i hz; exact ⟨fun q => ⟨hz, q⟩, fun q => q.2⟩
            · rename_i hz; exact ⟨fun q => q.elim, fun q => hz q.1⟩
          | _ => rfl
        | cell _ => rfl
      | _ => rfl
    | cell _ => rfl
  · cases a with
    | val v => cases v with
      | int i => cases b with
        | val u => cases u <;> rfl
        | cell _ => rfl
      | _ => rfl
    | cell _ => rfl
@[simp] theorem ok_rng2 (m : EM (List Opd)) (Q : Src → MH → Prop) : OK (xRng2 m env h) Q ↔ OK (m env h) fun as h1 => rng2Q Q as h1 := by
  unfold xRng2
  rw [ok_bind]
  cases m env h with
  | ok as h1 => exact rng2_at as h1 Q
  | _ => rfl
@[simp] theorem ok_comp (src : EM Src) (tg : Tgt) (own : List Nat) (tt : EM Bool) (te : EM Val) (Q : Cell → MH → Prop) : OK (xComp src tg own tt te env h) Q ↔ OK (src env h) fun s h1 => OK (loopC s tg tt te (wipeM env own) (s.size h1 + 1) 0 [] h1) fun vs h2 => Q (.lst vs) h2 := by
  unfold xComp; simp only [ok_bind, ok_bindN, ok_ok]
theorem sn_bind (m : EM α) (f : α → SM) (P : Po) : OK (m env h) (fun a h1 => SN (f a env h1) P) → SN (sBind m f env h) P := by
  unfold sBind
  cases m env h <;> exact id
theorem sn_bind' (m : EM α) (f : α → SM) (P : Po) : SN (sBind m f env h) P ↔ OK (m env h) (fun a h1 => SN (f a env h1) P) := by
  unfold sBind
  cases m env h <;> rfl
@[simp] theorem sn_seq (m1 m2 : SM) (P : Po) : SN (sSeq m1 m2 env h) P ↔ SN (m1 env h) { P with n := fun e h1 => SN (m2 e h1) P } := by
  unfold sSeq
  cases m1 env h <;> rfl
@[simp] theorem sn_nil (P : Po) : SN (sNil env h) P ↔ P.n env h := Iff.rfl
@[simp] theorem sn_brkS (P : Po) : SN (sBrk env h) P ↔ P.b env h := Iff.rfl
@[simp] theorem sn_contS (P : Po) : SN (sCont env h) P ↔ P.c env h := Iff.rfl
@[simp] theorem sn_drop (m : EM α) (P : Po) : SN (sDrop m env h) P ↔ OK (m env h) fun _ h1 => P.n env h1 := sn_bind' ..
@[simp] theorem sn_retS (m : EM Val) (P : Po) : SN (sRet m env h) P ↔ OK (m env h) fun v h1 => P.r v h1 := sn_bind' ..
@[simp] theorem sn_retN (P : Po) : SN (sRetN env h) P ↔ P.r .non h := Iff.rfl
@[simp] theorem sn_retOwn (i : Nat) (P : Po) : SN (sRetOwn i env h) P ↔ ∃ k, env[i]? = some (.own k) ∧ P.r (.ref h.length) (h ++ [k]) := by
  unfold sRetOwn
  split
  · rename_i v e
    rw [e]
    simp
  · rename_i e
    simp only [sn_stuck, false_iff]
    rintro ⟨v, e2, _⟩
    exact e v e2
@[simp] theorem sn_if (t : EM Bool) (m1 m2 : SM) (P : Po) : SN (sIf t m1 m2 env h) P ↔ OK (t env h) fun k h1 => if k = true then SN (m1 env h1) P else SN (m2 env h1) P := by
  unfold sIf
  rw [sn_bind']
  have e : ∀ (k : Bool) h1, SN ((if k = true then m1 env h1 else m2 env h1)) P ↔ if k = true then SN (m1 env h1) P else SN (m2 env h1) P := fun k h1 => by cases k <;> rfl
  cases t env h <;> first | exact e _ _ | rfl
@[simp] theorem sn_set (i : Nat) (m : EM Val) (P : Po) : SN (sSet i m env h) P ↔ OK (m env h) fun v h1 => P.n (env.set i (.val v)) h1 := sn_bind' ..
@[simp] theorem sn_own (i : Nat) (m : EM Cell) (P : Po) : SN (sOwn i m env h) P ↔ OK (m env h) fun v h1 => P.n (env.set i (.own v)) h1 := sn_bind' ..
@[simp] theorem sn_tgt (g : Tgt) (m : EM Val) (P : Po) : SN (sTgt g m env h) P ↔ OK (m env h) fun v h1 => ∃ env', g v env = some env' ∧ P.n env' h1 := by
  unfold sTgt
  rw [sn_bind']
  have e : ∀ v h1, SN (match g v env with | some env' => SOut.next env' h1 | none => .stuck) P ↔ ∃ env', g v env = some env' ∧ P.n env' h1 := fun v h1 => by
    split
    · rename_i n e; rw [e]; simp
    · rename_i e; rw [e]; simp
  cases m env h <;> first | exact e _ _ | rfl
def parQ (P : Po) (i j : Nat) (env : ME) (vs : List Val) (h : MH) : Prop := match vs with
  | [v, u] => P.n ((env.set i (.val v)).set j (.val u)) h
  | _ => False
@[simp] theorem parQ_two (P : Po) (i j : Nat) (env : ME) (v u : Val) : parQ P i j env [v, u] h ↔ P.n ((env.set i (.val v)).set j (.val u)) h := Iff.rfl
@[simp] theorem sn_par (i j : Nat) (m : EM (List Val)) (P : Po) : SN (sPar i j m env h) P ↔ OK (m env h) fun vs h1 => parQ P i j env vs h1 := by
  unfold sPar
  rw [sn_bind']
  cases m env h with
  | ok vs h1 =>
    rcases vs with _ | ⟨v, _ | ⟨u, _ | ⟨_, _⟩⟩⟩ <;> rfl
  | _ => rfl
@[simp] theorem sn_store (f : Val → Val → Val → MH → Option MH) (mv mo mi : EM Val) (P : Po) : SN (sStore f mv mo mi env h) P ↔ OK (mv env h) fun v h1 => OK (mo env h1) fun o h2 => OK (mi env h2) fun i h3 => ∃ h4, f o i v h3 = some h4 ∧ P.n env h4 := by
  unfold sStore
  rw [sn_bind']
  cases mv env h with
  | ok v h1 =>
    simp only [ok_ok]
    rw [sn_bind']
    cases mo env h1 with
    | ok o h2 =>
      simp only [ok_ok]
      rw [sn_bind']
      cases mi env h2 with
      | ok i h3 =>
        simp only [ok_ok]
        cases f o i v h3 with
        | none => simp
        | some h4 => simp
      | _ => rfl
    | _ => rfl
  | _ => rfl
@[simp] theorem sn_ownSt (i : Nat) (f : Cell → Val → Val → Option Cell) (mv mi : EM Val) (P : Po) : SN (sOwnSt i f mv mi env h) P ↔ OK (mv env h) fun v h1 => ∃ k, env[i]? = some (.own k) ∧ OK (mi env h1) fun iv h2 => ∃ k', f k iv v = some k' ∧ P.n (env.set i (.own k')) h2 := by
  unfold sOwnSt
  rw [sn_bind']
  have e : ∀ v h1, SN (match env[i]? with
    | some (.own _) => sBind mi (fun iv => ownPut i f iv v) env h1
    | _ => .stuck) P ↔ ∃ k, env[i]? = some (.own k) ∧ OK (mi env h1) fun iv h2 => ∃ k', f k iv v = some k' ∧ P.n (env.set i (.own k')) h2 := fun v h1 => by
    split
    · rename_i k e
      rw [e, sn_bind']
      have e3 : ∀ iv h2, SN (ownPut i f iv v env h2) P ↔ ∃ k', f k iv v = some k' ∧ P.n (env.set i (.own k')) h2 := fun iv h2 => by
        unfold ownPut
        rw [e]
        simp only
        split
        · rename_i n e; rw [e]; simp
        · rename_i e; rw [e]; simp
      simp only [e3]
      simp
    · rename_i e
      simp only [sn_stuck, false_iff]
      rintro ⟨v, e2, _⟩
      exact e v e2
  cases mv env h <;> first | exact e _ _ | rfl
@[simp] theorem sn_for (src : EM Src) (g : Tgt) (mb : SM) (P : Po) : SN (sFor src g mb env h) P ↔ OK (src env h) fun s h1 => SN (loopG s g mb (s.size h1 + 1) 0 env h1) P := sn_bind' ..
def MQ {γ : Type} (Q : γ → Cell → Prop) (r : Option (γ × Cell)) : Prop := match r with
  | some (v, c) => Q v c
  | none => False
@[simp] theorem MQ_some {γ : Type} (Q : γ → Cell → Prop) (v : γ) (c : Cell) : MQ Q (some (v, c)) ↔ Q v c := Iff.rfl
@[simp] theorem MQ_none {γ : Type} (Q : γ → Cell → Prop) : MQ Q none ↔ False := Iff.rfl
@[simp] theorem sn_ownM {γ : Type} (T : String) (i : Nat) (f : Cell → List Opd → MH → Option (γ × Cell)) (mas : EM (List Opd)) (g : γ → ME → ME) (P : Po) : SN (sOwnM T i f mas g env h) P ↔ ∃ k, env[i]? = some (.own k) ∧ cellTy T k = true ∧ OK (mas env h) fun as h1 => MQ (fun v k' => P.n (g v (env.set i (.own k'))) h1) (f k as h1) := by
  unfold sOwnM
  split
  · rename_i k e
    rw [e]
    split
    · rename_i hk
      rw [sn_bind']
      have e3 : OK (mas env h) (fun as h1 => SN (match f k as h1 with
        | some (v, k') => SOut.next (g v (env.set i (.own k'))) h1
        | none => .stuck) P) ↔ OK (mas env h) fun as h1 => MQ (fun v k' => P.n (g v (env.set i (.own k'))) h1) (f k as h1) := by
        cases mas env h with
        | ok as h1 =>
          simp only [ok_ok]
          cases f k as h1 with
          | none => rfl
          | some p => obtain ⟨v, k'⟩ := p; rfl
        | _ => rfl
      constructor
      · intro q; exact ⟨k, rfl, hk, e3.mp q⟩
      · rintro ⟨k2, e2, _, q⟩; cases e2; exact e3.mpr q
    · rename_i hk
      simp [hk]
  · rename_i e
    simp only [sn_stuck, false_iff]
    rintro ⟨v, e2, _⟩
    exact e v e2
@[simp] theorem sn_forOwn (i : Nat) (g : Tgt) (mb : SM) (P : Po) : SN (sForOwn i g mb env h) P ↔ ∃ vs, env[i]? = some (.own (.lst vs)) ∧ SN (foldG g mb vs (env.set i .no) h) P := by
  unfold sForOwn
  split
  · rename_i vs e
    have := loopG_items0 vs g mb (env.set i .no) h
    rw [show (Src.items vs).size h = vs.length from rfl] at this
    rw [this, e]
    simp
  · rename_i e
    simp only [sn_stuck, false_iff]
    rintro ⟨v, e2, _⟩
    exact e v e2
theorem fun_ok (n k : Nat) (m : SM) (args : List Val) (Q : Val → MH → Prop) : OK (mFun n k m args h) Q ↔ args.length = k ∧ SN (m (args.map Sl.val ++ List.replicate (n - k) Sl.no) h) ⟨fun _ h1 => Q .non h1, Q, fun _ _ => False, fun _ _ => False⟩ := by
  unfold mFun
  split
  · rename_i e
    simp only [e, true_and]
    cases m (args.map Sl.val ++ List.replicate (n - k) Sl.no) h <;> rfl
  · rename_i e
    simp [e]
end
section
variable {h : MH}
section
variable (Q : Opd → MH → Prop)
@[simp] theorem add_int (i j : Int) : RK (fAdd (.val (.int i)) (.val (.int j)) h) Q ↔ Q (.val (.int (i + j))) h := Iff.rfl
@[simp] theorem add_str (i j : Str) : RK (fAdd (.val (.str i)) (.val (.str j)) h) Q ↔ i.length + j.length ≤ 100000 ∧ Q (.val (.str (i ++ j))) h := by
  unfold fAdd; simp only; split <;> simp [*]
@[simp] theorem add_tup (i j : List Val) : RK (fAdd (.val (.tup i)) (.val (.tup j)) h) Q ↔ i.length + j.length ≤ 100000 ∧ Q (.val (.tup (i ++ j))) h := by
  unfold fAdd; simp only; split <;> simp [*]
theorem add_lst {a b : Opd} {xs ys : List Val} (ha : lstOf a h = some xs) (hb : lstOf b h = some ys) : RK (fAdd a b h) Q ↔ xs.length + ys.length ≤ 100000 ∧ Q (.cell (.lst (xs ++ ys))) h := by
  unfold fAdd
  split
  · cases ha
  · cases ha
  · cases ha
  · rw [ha, hb]; simp only; split <;> simp [*]
@[simp] theorem mul_int (i j : Int) : RK (fMul (.val (.int i)) (.val (.int j)) h) Q ↔ cMul i j = true ∧ Q (.val (.int (i * j))) h := by
  unfold fMul; simp only; split <;> simp [*]
@[simp] theorem mul_str' (s : Str) (k : Int) : RK (fMul (.val (.str s)) (.val (.int k)) h) Q ↔ (1 ≤ k ∧ k ≤ 1000 ∧ s.length ≤ 1000) ∧ Q (.val (.str (strRep s k.toNat))) h := by
  unfold fMul; simp only; split <;> simp [*]
theorem mul_lst {a : Opd} {xs : List Val} {k : Int} (ha : lstOf a h = some xs) : RK (fMul a (.val (.int k)) h) Q ↔ (-(2 ^ 63) ≤ k ∧ k < 2 ^ 63 ∧ xs.length * k.toNat ≤ 100000) ∧ Q (.cell (.lst (List.replicate k.toNat xs).flatten)) h := by
  unfold fMul
  split
  · cases ha
  · cases ha
  · cases ha
  · rename_i e; cases e; rw [ha]; simp only
    split
    · rename_i hz; exact ⟨fun q => ⟨hz, q⟩, fun q => q.2⟩
    · rename_i hz; exact ⟨fun q => q.elim, fun q => (hz q.1).elim⟩
  · rename_i z _ _ _; exact (z _ rfl).elim
@[simp] theorem sl_tupV (vs : List Val) (lo hi : Option Int) : RK (fSl (.val (.tup vs)) lo hi h) Q ↔ Q (.val (.tup (cutM vs lo hi))) h := Iff.rfl
@[simp] theorem sl_strV (s : Str) (lo hi : Option Int) : RK (fSl (.val (.str s)) lo hi h) Q ↔ s.length ≤ 100000 ∧ Q (.val (.str (cutS s lo hi))) h := by
  unfold fSl; simp only; split <;> simp [*]
theorem sl_lst {a : Opd} {xs : List Val} {lo hi : Option Int} (ha : lisOf a h = some xs) : RK (fSl a lo hi h) Q ↔ Q (.cell (.lst (cutM xs lo hi))) h := by
  unfold fSl
  split
  · cases ha
  · cases ha
  · rw [ha]; rfl
end
section
variable (Q : Val → MH → Prop)
theorem fI_eq (C : Int → Int → Bool) (g : Int → Int → Val) (i j : Int) : RK (fI C g (.val (.int i)) (.val (.int j)) h) Q ↔ C i j = true ∧ Q (g i j) h := by
  unfold fI; simp only; split <;> simp [*]
@[simp] theorem sub_int' (i j : Int) : RK (fSub (.val (.int i)) (.val (.int j)) h) Q ↔ Q (.int (i - j)) h := by unfold fSub; rw [fI_eq]; simp
@[simp] theorem div_int' (i j : Int) : RK (fDiv (.val (.int i)) (.val (.int j)) h) Q ↔ (0 < j ∧ j < 1073741824) ∧ Q (.int (i / j)) h := by unfold fDiv cDiv; rw [fI_eq]; simp
@[simp] theorem mod_int' (i j : Int) : RK (fMod (.val (.int i)) (.val (.int j)) h) Q ↔ 0 < j ∧ Q (.int (i % j)) h := by unfold fMod; rw [fI_eq]; simp
@[simp] theorem pow_int' (i j : Int) : RK (fPow (.val (.int i)) (.val (.int j)) h) Q ↔ (0 ≤ j ∧ j ≤ 1000000 ∧ i.natAbs < 2 ^ 64) ∧ Q (.int (i ^ j.toNat)) h := by unfold fPow cPow; rw [fI_eq]; simp
@[simp] theorem shl_int' (i j : Int) : RK (fShl (.val (.int i)) (.val (.int j)) h) Q ↔ (0 ≤ j ∧ j ≤ 1000000 ∧ i.natAbs < 2 ^ 64) ∧ Q (.int (i * 2 ^ j.toNat)) h := by unfold fShl cPow; rw [fI_eq]; simp
@[simp] theorem shr_int' (i j : Int) : RK (fShr (.val (.int i)) (.val (.int j)) h) Q ↔ 0 ≤ j ∧ Q (.int (i / 2 ^ j.toNat)) h := by unfold fShr; rw [fI_eq]; simp
@[simp] theorem and_int' (i j : Int) : RK (fAnd (.val (.int i)) (.val (.int j)) h) Q ↔ Q (.int (Builtin.bitAnd i j)) h := by unfold fAnd; rw [fI_eq]; simp
@[simp] theorem or_int' (i j : Int) : RK (fOr (.val (.int i)) (.val (.int j)) h) Q ↔ Q (.int (Builtin.bitOr i j)) h := by unfold fOr; rw [fI_eq]; simp
@[simp] theorem xor_int' (i j : Int) : RK (fXor (.val (.int i)) (.val (.int j)) h) Q ↔ Q (.int (Builtin.bitXor i j)) h := by unfold fXor; rw [fI_eq]; simp
@[simp] theorem le_int' (i j : Int) : RK (fLe (.val (.int i)) (.val (.int j)) h) Q ↔ Q (.bl (decide (i ≤ j))) h := by unfold fLe; rw [fI_eq]; simp
@[simp] theorem gt_int' (i j : Int) : RK (fGt (.val (.int i)) (.val (.int j)) h) Q ↔ Q (.bl (decide (j < i))) h := by unfold fGt; rw [fI_eq]; simp
@[simp] theorem ge_int' (i j : Int) : RK (fGe (.val (.int i)) (.val (.int j)) h) Q ↔ Q (.bl (decide (j ≤ i))) h := by unfold fGe; rw [fI_eq]; simp
@[simp] theorem lt_int' (i j : Int) : RK (fLt (.val (.int i)) (.val (.int j)) h) Q ↔ Q (.bl (decide (i < j))) h := Iff.rfl
@[simp] theorem neg_int' (i : Int) : RK (fNeg (.val (.int i)) h) Q ↔ Q (.int (-i)) h := Iff.rfl
@[simp] theorem inv_int' (i : Int) : RK (fInv (.val (.int i)) h) Q ↔ Q (.int (Builtin.bitNot i)) h := Iff.rfl
@[simp] theorem is_non' (a : Opd) : RK (fIs a (.val .non) h) Q ↔ Q (.bl (isNonO a)) h := Iff.rfl
@[simp] theorem not_non' (a : Opd) : RK (fNot a (.val .non) h) Q ↔ Q (.bl (!isNonO a)) h := Iff.rfl
@[simp] theorem eq_int' (i j : Int) : RK (fEq (.val (.int i)) (.val (.int j)) h) Q ↔ Q (.bl (decide (i = j))) h := by
  have e : fEq (.val (.int i)) (.val (.int j)) h = some (.bl (i == j), h) := by
    unfold fEq pdO pd
    simp only
    rw [PyData.eqv]
  rw [e]; rfl
@[simp] theorem ne_int' (i j : Int) : RK (fNe (.val (.int i)) (.val (.int j)) h) Q ↔ Q (.bl (!decide (i = j))) h := by
  have e : fNe (.val (.int i)) (.val (.int j)) h = some (.bl (!(i == j)), h) := by
    unfold fNe pdO pd
    simp only
    rw [PyData.eqv]
  rw [e]; rfl
def atQ (o : Option Val) (h : MH) : Prop := match o with
  | some v => Q v h
  | none => False
@[simp] theorem atQ_some (v : Val) : atQ Q (some v) h ↔ Q v h := Iff.rfl
@[simp] theorem atQ_none : atQ Q none h ↔ False := Iff.rfl
@[simp] theorem ix_tup' (vs : List Val) (i : Int) : RK (fIx (.val (.tup vs)) (.val (.int i)) h) Q ↔ atQ Q (L2.atI vs i) h := by
  unfold fIx; simp only; cases L2.atI vs i <;> rfl
@[simp] theorem ix_str' (s : Str) (i : Int) : RK (fIx (.val (.str s)) (.val (.int i)) h) Q ↔ s.length ≤ 100000 ∧ atQ Q ((L2.atI s.cps.toList i).map fun c => .str ⟨#[c]⟩) h := by
  unfold fIx; simp only; split
  · rename_i hz; simp only [hz, true_and]; cases L2.atI s.cps.toList i <;> rfl
  · rename_i hz; simp [hz]
@[simp] theorem ix_cell (vs : List Val) (i : Int) : RK (fIx (.cell (.lst vs)) (.val (.int i)) h) Q ↔ atQ Q (L2.atI vs i) h := by
  unfold fIx; simp only [lisOf]; cases L2.atI vs i <;> rfl
def refQ (i : Val) (h : MH) (o : Option Cell) : Prop := match o with
  | some (.lst vs) => (match i with
    | .int k => atQ Q (L2.atI vs k) h
    | _ => False)
  | some (.frz vs) => (match i with
    | .int k => atQ Q (L2.atI vs k) h
    | _ => False)
  | some c => (match cellGet c i with
    | some o => atQ Q o h
    | none => False)
  | none => False
@[simp] theorem refQ_lst (k : Int) (vs : List Val) : refQ Q (.int k) h (some (.lst vs)) ↔ atQ Q (L2.atI vs k) h := Iff.rfl
@[simp] theorem refQ_frz (k : Int) (vs : List Val) : refQ Q (.int k) h (some (.frz vs)) ↔ atQ Q (L2.atI vs k) h := Iff.rfl
@[simp] theorem ix_ref (n : Nat) (i : Val) : RK (fIx (.val (.ref n)) (.val i) h) Q ↔ refQ Q i h h[n]? := by
  unfold fIx refQ
  simp only [lisOf, dctOf]
  cases e : h[n]? with
  | none => rfl
  | some c =>
    cases c with
    | lst vs => simp only; cases i <;> first | rfl | (rename_i k; simp only; cases L2.atI vs k <;> rfl)
    | frz vs => simp only; cases i <;> first | rfl | (rename_i k; simp only; cases L2.atI vs k <;> rfl)
    | dK kvs => simp only; cases cellGet (.dK kvs) i with
      | none => rfl
      | some o => cases o <;> rfl
    | dT kvs => simp only; cases cellGet (.dT kvs) i with
      | none => rfl
      | some o => cases o <;> rfl
@[simp] theorem tuple_cell (vs : List Val) : RK (fTuple [.cell (.lst vs)] h) Q ↔ Q (.tup vs) h := Iff.rfl
@[simp] theorem tuple_tup (vs : List Val) : RK (fTuple [.val (.tup vs)] h) Q ↔ Q (.tup vs) h := Iff.rfl
@[simp] theorem int_int (i : Int) : RK (fInt [.val (.int i)] h) Q ↔ Q (.int i) h := Iff.rfl
@[simp] theorem int_bl (k : Bool) : RK (fInt [.val (.bl k)] h) Q ↔ Q (.int (if k then 1 else 0)) h := Iff.rfl
@[simp] theorem len_tup (vs : List Val) : RK (fLen [.val (.tup vs)] h) Q ↔ Q (.int vs.length) h := Iff.rfl
@[simp] theorem len_cell (vs : List Val) : RK (fLen [.cell (.lst vs)] h) Q ↔ Q (.int vs.length) h := Iff.rfl
def lenQ (h : MH) (o : Option Cell) : Prop := match o with
  | some (.lst vs) => Q (.int vs.length) h
  | some (.frz vs) => Q (.int vs.length) h
  | some (.dK vs) => Q (.int vs.length) h
  | some (.dT vs) => Q (.int vs.length) h
  | _ => False
@[simp] theorem lenQ_lst (vs : List Val) : lenQ Q h (some (.lst vs)) ↔ Q (.int vs.length) h := Iff.rfl
@[simp] theorem len_ref (n : Nat) : RK (fLen [.val (.ref n)] h) Q ↔ lenQ Q h h[n]? := by
  unfold fLen lenO itmOf lenQ
  simp only [lisOf, dctOf]
  cases e : h[n]? with
  | none => rfl
  | some c => cases c <;> rfl
@[simp] theorem len_str (s : Str) : RK (fLen [.val (.str s)] h) Q ↔ s.length ≤ 100000 ∧ Q (.int s.length) h := by
  unfold fLen; simp only [lenO]; split <;> simp [*]
end
section
variable (Q : Cell → MH → Prop)
@[simp] theorem list_tup (vs : List Val) : RK (fList [.val (.tup vs)] h) Q ↔ Q (.lst vs) h := Iff.rfl
@[simp] theorem list_cell (vs : List Val) : RK (fList [.cell (.lst vs)] h) Q ↔ Q (.lst vs) h := Iff.rfl
theorem list_ref {n : Nat} {vs : List Val} (e : h[n]? = some (.lst vs)) : RK (fList [.val (.ref n)] h) Q ↔ Q (.lst vs) h := by
  unfold fList lisO itmOf; simp [lisOf, e]
end
end
theorem atI_nn {α : Type} (vs : List α) {i : Int} (h : 0 ≤ i) : L2.atI vs i = vs[i.toNat]? := by
  unfold L2.atI L2.ixN
  rw [if_pos h]
  by_cases hl : i < vs.length
  · rw [if_pos hl]; rfl
  · rw [if_neg hl, List.getElem?_eq_none (by omega)]; rfl
@[simp] theorem atI_ofNat {α : Type} (vs : List α) (i : Nat) : L2.atI vs (i : Int) = vs[i]? := atI_nn vs (by omega)
@[simp] theorem atI_0 {α : Type} (vs : List α) : L2.atI vs 0 = vs[0]? := atI_nn vs (by omega)
@[simp] theorem atI_1 {α : Type} (vs : List α) : L2.atI vs 1 = vs[1]? := atI_nn vs (by omega)
@[simp] theorem atI_2 {α : Type} (vs : List α) : L2.atI vs 2 = vs[2]? := atI_nn vs (by omega)
@[simp] theorem atI_3 {α : Type} (vs : List α) : L2.atI vs 3 = vs[3]? := atI_nn vs (by omega)
theorem atI_m1 {α : Type} (vs : List α) : L2.atI vs (-1) = vs[vs.length - 1]? := by
  unfold L2.atI L2.ixN
  rw [if_neg (by omega)]
  by_cases hl : -(vs.length : Int) ≤ -1
  · rw [if_pos hl]; show vs[(-1 + (vs.length : Int)).toNat]? = _; congr 1; omega
  · rw [if_neg hl, List.getElem?_eq_none (by omega)]; rfl
@[simp] theorem set_ref (n : Nat) (i v : Val) (h : MH) : fSet (.ref n) i v h = (h[n]?).bind fun c => (Mi.cellSet c i v).map fun c' => h.set n c' := by
  unfold fSet
  cases e : h[n]? <;> simp [e]
@[simp] theorem cset_lst (vs : List Val) (k : Int) (v : Val) : Mi.cellSet (.lst vs) (.int k) v = (L2.ixN vs.length k).map fun j => .lst (vs.set j v) := rfl
theorem ixN_nn {n : Nat} {i : Int} (h0 : 0 ≤ i) (h1 : i < n) : L2.ixN n i = some i.toNat := by
  unfold L2.ixN; rw [if_pos h0, if_pos h1]
@[simp] theorem ixN_0 (n : Nat) : L2.ixN (n + 1) 0 = some 0 := ixN_nn (by omega) (by omega)
@[simp] theorem ap_lst (vs : List Val) (v : Val) (h : MH) : mAppend (.lst vs) [.val v] h = if vs.length < 100000 then some (.non, .lst (vs ++ [v])) else none := rfl
@[simp] theorem ext_lst (vs us : List Val) (h : MH) : mExtend (.lst vs) [.val (.tup us)] h = if vs.length + us.length ≤ 100000 then some (.non, .lst (vs ++ us)) else none := rfl
@[simp] theorem cellTy_lst (vs : List Val) : cellTy "list" (.lst vs) = true := rfl
@[simp] theorem src_tupV (vs : List Val) (h : MH) : srcOf (.val (.tup vs)) h = some (.items vs) := rfl
@[simp] theorem src_cellV (vs : List Val) (h : MH) : srcOf (.cell (.lst vs)) h = some (.items vs) := rfl
@[simp] theorem tName_eq (i : Nat) (v : Val) (env : ME) : tName i v env = some (env.set i (.val v)) := rfl
@[simp] theorem tTup_eq (n : Nat) (gs : Tgts) (vs : List Val) (env : ME) : tTup n gs (.tup vs) env = if vs.length = n then gs vs env else none := by
  unfold tTup; first | rfl | simp
@[simp] theorem tNil_eq (env : ME) : tNil [] env = some env := rfl
@[simp] theorem tCons_eq (g : Tgt) (gs : Tgts) (v : Val) (vs : List Val) (env : ME) : tCons g gs (v :: vs) env = (g v env).bind fun e => gs vs e := by
  unfold tCons; first | rfl | (cases g v env <;> rfl)
theorem cMul_r {i j : Int} (h : -(2 ^ 64) < j ∧ j < 2 ^ 64) : cMul i j = true := decide_eq_true (.inr h)
theorem cMul_l {i j : Int} (h : -(2 ^ 64) < i ∧ i < 2 ^ 64) : cMul i j = true := decide_eq_true (.inl h)
theorem fold_inv {g : Tgt} {mb : SM} {vs : List Val} {P : Po} (I : Nat → ME → MH → Prop) {env : ME} {h : MH} (h0 : I 0 env h)
    (step : ∀ i v env h, vs[i]? = some v → I i env h → ∃ env1, g v env = some env1 ∧ SN (mb env1 h) ⟨I (i + 1), P.r, P.n, I (i + 1)⟩) (last : ∀ env h, I vs.length env h → P.n env h) : SN (foldG g mb vs env h) P := by
  induction vs generalizing I env h with
  | nil => exact last env h h0
  | cons v vs ih =>
    obtain ⟨env1, e1, q⟩ := step 0 v env h rfl h0
    simp only [foldG, e1]
    have ih' := fun env h h0 => ih (fun i => I (i + 1)) (env := env) (h := h) h0 (fun i v env h e hI => step (i + 1) v env h (by simpa using e) hI) (fun env h hI => last env h (by simpa using hI))
    cases em : mb env1 h with
    | next e2 h2 => rw [em] at q; exact ih' e2 h2 q
    | cont e2 h2 => rw [em] at q; exact ih' e2 h2 q
    | brk e2 h2 => rw [em] at q; exact q
    | ret v h2 => rw [em] at q; exact q
    | exc _ _ _ => rw [em] at q; exact q.elim
    | stuck => rw [em] at q; exact q.elim
theorem live_inv {n : Nat} {g : Tgt} {mb : SM} {vs : List Val} {P : Po} (I : Nat → ME → MH → Prop) {env : ME} {h : MH} (h0 : I 0 env h) (hc : ∀ i env h, I i env h → h[n]? = some (.lst vs) ∨ h[n]? = some (.frz vs))
    (step : ∀ i v env h, vs[i]? = some v → I i env h → ∃ env1, g v env = some env1 ∧ SN (mb env1 h) ⟨I (i + 1), P.r, P.n, I (i + 1)⟩) (last : ∀ env h, I vs.length env h → P.n env h) : SN (loopG (.live n) g mb ((Src.live n).size h + 1) 0 env h) P := by
  rw [size_live (hc 0 env h h0)]
  have key : ∀ (f i : Nat) (env : ME) (h : MH), I i env h → i ≤ vs.length → vs.length < f + i → SN (loopG (.live n) g mb f i env h) P := by
    intro f
    induction f with
    | zero => intro i env h _ h1 h2; omega
    | succ f ih =>
      intro i env h hI h1 h2
      unfold loopG
      have ea : (Src.live n).at i h = some vs[i]? := by
        unfold Src.at
        rcases hc i env h hI with e | e <;> simp only [e]
      rw [ea]
      by_cases hi : i < vs.length
      · rw [List.getElem?_eq_getElem hi]
        obtain ⟨env1, e1, q⟩ := step i vs[i] env h (List.getElem?_eq_getElem hi) hI
        simp only [e1]
        cases em : mb env1 h with
        | next e2 h2 => rw [em] at q; exact ih (i + 1) e2 h2 q (by omega) (by omega)
        | cont e2 h2 => rw [em] at q; exact ih (i + 1) e2 h2 q (by omega) (by omega)
        | brk e2 h2 => rw [em] at q; exact q
        | ret v h2 => rw [em] at q; exact q
        | exc _ _ _ => rw [em] at q; exact q.elim
        | stuck => rw [em] at q; exact q.elim
      · rw [List.getElem?_eq_none (by omega)]
        have : i = vs.length := by omega
        subst this
        exact last env h hI
  exact key _ 0 env h h0 (Nat.zero_le _) (by omega)
theorem loop_inv {s : Src} {g : Tgt} {mb : SM} {vs : List Val} {P : Po} (I : Nat → ME → MH → Prop) (hs : s = .items vs ∨ ∃ n, s = .live n ∧ ∀ i env h, I i env h → h[n]? = some (.lst vs) ∨ h[n]? = some (.frz vs)) {env : ME} {h : MH} (h0 : I 0 env h)
    (step : ∀ i v env h, vs[i]? = some v → I i env h → ∃ env1, g v env = some env1 ∧ SN (mb env1 h) ⟨I (i + 1), P.r, P.n, I (i + 1)⟩) (last : ∀ env h, I vs.length env h → P.n env h) : SN (loopG s g mb (s.size h + 1) 0 env h) P := by
  rcases hs with rfl | ⟨n, rfl, hc⟩
  · rw [loopG_items0]; exact fold_inv I h0 step last
  · exact live_inv I h0 hc step last
theorem comp_inv {tg : Tgt} {tt : EM Bool} {te : EM Val} {env0 : ME} {vs : List Val} {Q : List Val → MH → Prop} (I : Nat → List Val → MH → Prop) {acc : List Val} {h : MH} (h0 : I 0 acc h)
    (step : ∀ i v acc h, vs[i]? = some v → I i acc h → ∃ env1, tg v env0 = some env1 ∧ OK (tt env1 h) fun k h1 => if k = true then OK (te env1 h1) (fun u h2 => acc.length < 100000 ∧ I (i + 1) (acc ++ [u]) h2) else I (i + 1) acc h1) (last : ∀ acc h, I vs.length acc h → Q acc h) : OK (foldC tg tt te env0 vs acc h) Q := by
  induction vs generalizing I acc h with
  | nil => exact last acc h h0
  | cons v vs ih =>
    obtain ⟨env1, e1, q⟩ := step 0 v acc h rfl h0
    simp only [foldC, e1]
    have ih' := fun acc h h0 => ih (fun i => I (i + 1)) (acc := acc) (h := h) h0 (fun i v acc h e hI => step (i + 1) v acc h (by simpa using e) hI) (fun acc h hI => last acc h (by simpa using hI))
    rw [ok_bindN]
    refine OK.mono q fun k h1 q => ?_
    cases k with
    | true =>
      simp only [if_true] at q ⊢
      rw [ok_bindN]
      refine OK.mono q fun u h2 ⟨hl, q⟩ => ?_
      rw [if_pos hl]
      exact ih' _ _ q
    | false =>
      simp only [Bool.false_eq_true, if_false] at q ⊢
      exact ih' _ _ q
end Raw
end Mi

set_option Elab.async false
set_option linter.all false
set_option maxRecDepth 100000
set_option maxHeartbeats 2000000
set_option autoImplicit false
namespace Mi
open PySem PySem.Spec PyProof.Rows L2
abbrev Po := Raw.Po
structure OK {α : Type} (o : Out α) (Q : α → MH → Prop) : Prop where
  run : Raw.OK o Q
structure RK {γ : Type} (r : Res γ) (Q : γ → MH → Prop) : Prop where
  run : Raw.RK r Q
structure SN (o : SOut) (P : Po) : Prop where
  run : Raw.SN o P
theorem ok_iff {α : Type} {o : Out α} {Q : α → MH → Prop} : OK o Q ↔ Raw.OK o Q := ⟨fun h => h.run, fun h => ⟨h⟩⟩
theorem rk_iff {γ : Type} {r : Res γ} {Q : γ → MH → Prop} : RK r Q ↔ Raw.RK r Q := ⟨fun h => h.run, fun h => ⟨h⟩⟩
theorem sn_iff {o : SOut} {P : Po} : SN o P ↔ Raw.SN o P := ⟨fun h => h.run, fun h => ⟨h⟩⟩
theorem OK.mono {α : Type} {o : Out α} {Q Q' : α → MH → Prop} (h : OK o Q) (i : ∀ a h, Q a h → Q' a h) : OK o Q' := ⟨Raw.OK.mono h.run i⟩
theorem OK.get {α : Type} {o : Out α} {Q : α → MH → Prop} (h : OK o Q) : ∃ a h', o = .ok a h' ∧ Q a h' := Raw.OK.get h.run
theorem SN.mono {o : SOut} {P P' : Po} (h : SN o P) (n : ∀ e h, P.n e h → P'.n e h) (r : ∀ e h, P.r e h → P'.r e h) (b : ∀ e h, P.b e h → P'.b e h) (c : ∀ e h, P.c e h → P'.c e h) : SN o P' := ⟨Raw.SN.mono h.run n r b c⟩
@[simp] theorem ok_ok {α : Type} (a : α) (h : MH) (Q : α → MH → Prop) : OK (.ok a h) Q ↔ Q a h := by
  simp only [ok_iff, sn_iff, rk_iff]
  apply Raw.ok_ok
@[simp] theorem ok_stuck {α : Type} (Q : α → MH → Prop) : OK (.stuck) Q ↔ False := by
  simp only [ok_iff, sn_iff, rk_iff]
  apply Raw.ok_stuck
@[simp] theorem sn_next (e : ME) (h : MH) (P : Po) : SN (.next e h) P ↔ P.n e h := by
  simp only [ok_iff, sn_iff, rk_iff]
  apply Raw.sn_next
@[simp] theorem sn_ret (v : Val) (h : MH) (P : Po) : SN (.ret v h) P ↔ P.r v h := by
  simp only [ok_iff, sn_iff, rk_iff]
  apply Raw.sn_ret
@[simp] theorem sn_brk (e : ME) (h : MH) (P : Po) : SN (.brk e h) P ↔ P.b e h := by
  simp only [ok_iff, sn_iff, rk_iff]
  apply Raw.sn_brk
@[simp] theorem sn_cont (e : ME) (h : MH) (P : Po) : SN (.cont e h) P ↔ P.c e h := by
  simp only [ok_iff, sn_iff, rk_iff]
  apply Raw.sn_cont
@[simp] theorem sn_stuck (P : Po) : SN .stuck P ↔ False := by
  simp only [ok_iff, sn_iff, rk_iff]
  apply Raw.sn_stuck
@[simp] theorem rk_some {γ : Type} (v : γ) (h : MH) (Q : γ → MH → Prop) : RK (some (v, h)) Q ↔ Q v h := by
  simp only [ok_iff, sn_iff, rk_iff]
  apply Raw.rk_some
@[simp] theorem rk_none {γ : Type} (Q : γ → MH → Prop) : RK (none : Res γ) Q ↔ False := by
  simp only [ok_iff, sn_iff, rk_iff]
  apply Raw.rk_none
theorem ok_bind {α β : Type} (o : Out α) (f : α → MH → Out β) (Q : β → MH → Prop) : OK (o.bind f) Q ↔ OK o fun a h => OK (f a h) Q := by
  simp only [ok_iff, sn_iff, rk_iff]
  apply Raw.ok_bind
theorem ok_bindN {α β : Type} (o : Out α) (f : α → MH → Out β) (Q : β → MH → Prop) : OK (o.bindN f) Q ↔ OK o fun a h => OK (f a h) Q := by
  simp only [ok_iff, sn_iff, rk_iff]
  apply Raw.ok_bindN
theorem ok_lift {γ : Type} (r : Res γ) (Q : γ → MH → Prop) : OK (lift r) Q ↔ RK r Q := by
  simp only [ok_iff, sn_iff, rk_iff]
  apply Raw.ok_lift
section
variable {env : ME} {h : MH} {α γ : Type}
@[simp] theorem ok_var (i : Nat) (Q : Val → MH → Prop) : OK (xVar i env h) Q ↔ ∃ v, env[i]? = some (.val v) ∧ Q v h := by
  simp only [ok_iff, sn_iff, rk_iff]
  apply Raw.ok_var
@[simp] theorem ok_own (i : Nat) (Q : Opd → MH → Prop) : OK (xOwn i env h) Q ↔ ∃ v, env[i]? = some (.own v) ∧ Q (.cell v) h := by
  simp only [ok_iff, sn_iff, rk_iff]
  apply Raw.ok_own
@[simp] theorem ok_c (v : Val) (Q : Val → MH → Prop) : OK (xC v env h) Q ↔ Q v h := by
  simp only [ok_iff, sn_iff, rk_iff]
  apply Raw.ok_c
@[simp] theorem ok_v (m : EM Val) (Q : Opd → MH → Prop) : OK (xV m env h) Q ↔ OK (m env h) fun v h => Q (.val v) h := by
  simp only [ok_iff, sn_iff, rk_iff]
  apply Raw.ok_v
@[simp] theorem ok_n (m : EM Cell) (Q : Opd → MH → Prop) : OK (xN m env h) Q ↔ OK (m env h) fun v h => Q (.cell v) h := by
  simp only [ok_iff, sn_iff, rk_iff]
  apply Raw.ok_n
@[simp] theorem ok_put (m : EM Cell) (Q : Val → MH → Prop) : OK (xPut m env h) Q ↔ OK (m env h) fun k h1 => Q (.ref h1.length) (h1 ++ [k]) := by
  simp only [ok_iff, sn_iff, rk_iff]
  apply Raw.ok_put
def putQ (Q : Val → MH → Prop) (o : Opd) (h : MH) : Prop := match o with
  | .val v => Q v h
  | .cell k => Q (.ref h.length) (h ++ [k])
@[simp] theorem putQ_v (Q : Val → MH → Prop) (v : Val) : putQ Q (.val v) h ↔ Q v h := Iff.rfl
@[simp] theorem putQ_c (Q : Val → MH → Prop) (k : Cell) : putQ Q (.cell k) h ↔ Q (.ref h.length) (h ++ [k]) := Iff.rfl
@[simp] theorem ok_putF (m : EM Opd) (Q : Val → MH → Prop) : OK (xPutF m env h) Q ↔ OK (m env h) fun o h1 => putQ Q o h1 := by
  simp only [ok_iff, sn_iff, rk_iff]
  apply Raw.ok_putF
def cellQ (Q : Cell → MH → Prop) (o : Opd) (h : MH) : Prop := match o with
  | .val v => False
  | .cell k => Q k h
@[simp] theorem cellQ_v (Q : Cell → MH → Prop) (v : Val) : cellQ Q (.val v) h ↔ False := Iff.rfl
@[simp] theorem cellQ_c (Q : Cell → MH → Prop) (k : Cell) : cellQ Q (.cell k) h ↔ Q k h := Iff.rfl
@[simp] theorem ok_cellOf (m : EM Opd) (Q : Cell → MH → Prop) : OK (xCellOf m env h) Q ↔ OK (m env h) fun o h1 => cellQ Q o h1 := by
  simp only [ok_iff, sn_iff, rk_iff]
  apply Raw.ok_cellOf
@[simp] theorem ok_op (f : Opd → Opd → MH → Res γ) (ma mb : EM Opd) (Q : γ → MH → Prop) : OK (xOp f ma mb env h) Q ↔ OK (ma env h) fun a h1 => OK (mb env h1) fun b h2 => RK (f a b h2) Q := by
  simp only [ok_iff, sn_iff, rk_iff]
  apply Raw.ok_op
@[simp] theorem ok_un (f : Opd → MH → Res γ) (ma : EM Opd) (Q : γ → MH → Prop) : OK (xUn f ma env h) Q ↔ OK (ma env h) fun a h1 => RK (f a h1) Q := by
  simp only [ok_iff, sn_iff, rk_iff]
  apply Raw.ok_un
@[simp] theorem ok_call (f : List Opd → MH → Res γ) (ma : EM (List Opd)) (Q : γ → MH → Prop) : OK (xCall f ma env h) Q ↔ OK (ma env h) fun a h1 => RK (f a h1) Q := by
  simp only [ok_iff, sn_iff, rk_iff]
  apply Raw.ok_call
@[simp] theorem ok_fn (F : FM) (m : EM (List Val)) (Q : Val → MH → Prop) : OK (xFn F m env h) Q ↔ OK (m env h) fun a h1 => OK (F a h1) Q := by
  simp only [ok_iff, sn_iff, rk_iff]
  apply Raw.ok_fn
@[simp] theorem ok_aNil (Q : List Opd → MH → Prop) : OK (aNil env h) Q ↔ Q [] h := by
  simp only [ok_iff, sn_iff, rk_iff]
  apply Raw.ok_aNil
@[simp] theorem ok_aCons (ma : EM Opd) (mr : EM (List Opd)) (Q : List Opd → MH → Prop) : OK (aCons ma mr env h) Q ↔ OK (ma env h) fun a h1 => OK (mr env h1) fun as h2 => Q (a :: as) h2 := by
  simp only [ok_iff, sn_iff, rk_iff]
  apply Raw.ok_aCons
@[simp] theorem ok_vNil (Q : List Val → MH → Prop) : OK (vNil env h) Q ↔ Q [] h := by
  simp only [ok_iff, sn_iff, rk_iff]
  apply Raw.ok_vNil
@[simp] theorem ok_vCons (ma : EM Val) (mr : EM (List Val)) (Q : List Val → MH → Prop) : OK (vCons ma mr env h) Q ↔ OK (ma env h) fun a h1 => OK (mr env h1) fun as h2 => Q (a :: as) h2 := by
  simp only [ok_iff, sn_iff, rk_iff]
  apply Raw.ok_vCons
theorem ok_ite {p : Prop} [Decidable p] {a b : Out α} (Q : α → MH → Prop) : OK (if p then a else b) Q ↔ if p then OK a Q else OK b Q := by
  simp only [ok_iff, sn_iff, rk_iff]
  apply Raw.ok_ite
@[simp] theorem ok_tup (m : EM (List Val)) (Q : Val → MH → Prop) : OK (xTup m env h) Q ↔ OK (m env h) fun vs h1 => vs.length ≤ 10000 ∧ Q (.tup vs) h1 := by
  simp only [ok_iff, sn_iff, rk_iff]
  apply Raw.ok_tup
@[simp] theorem ok_lst (m : EM (List Val)) (Q : Cell → MH → Prop) : OK (xLst m env h) Q ↔ OK (m env h) fun vs h1 => vs.length ≤ 10000 ∧ Q (.lst vs) h1 := by
  simp only [ok_iff, sn_iff, rk_iff]
  apply Raw.ok_lst
@[simp] theorem ok_dct (c : Cell) (Q : Cell → MH → Prop) : OK (xDct c env h) Q ↔ Q c h := by
  simp only [ok_iff, sn_iff, rk_iff]
  apply Raw.ok_dct
@[simp] theorem ok_pNone (Q : Option Int → MH → Prop) : OK (pNone env h) Q ↔ Q none h := by
  simp only [ok_iff, sn_iff, rk_iff]
  apply Raw.ok_pNone
@[simp] theorem ok_pSome (m : EM Val) (Q : Option Int → MH → Prop) : OK (pSome m env h) Q ↔ OK (m env h) fun v h1 => ∃ i, v = .int i ∧ Q (some i) h1 := by
  simp only [ok_iff, sn_iff, rk_iff]
  apply Raw.ok_pSome
@[simp] theorem ok_sl (f : Opd → Option Int → Option Int → MH → Res γ) (ma : EM Opd) (ml mh : EM (Option Int)) (Q : γ → MH → Prop) : OK (xSl f ma ml mh env h) Q ↔ OK (ma env h) fun a h1 => OK (ml env h1) fun lo h2 => OK (mh env h2) fun hi h3 => RK (f a lo hi h3) Q := by
  simp only [ok_iff, sn_iff, rk_iff]
  apply Raw.ok_sl
@[simp] theorem ok_if (t : EM Bool) (m1 m2 : EM Val) (Q : Val → MH → Prop) : OK (xIf t m1 m2 env h) Q ↔ OK (t env h) fun k h1 => if k = true then OK (m1 env h1) Q else OK (m2 env h1) Q := by
  simp only [ok_iff, sn_iff, rk_iff]
  apply Raw.ok_if
@[simp] theorem ok_isi (T : String) (m : EM Opd) (Q : Val → MH → Prop) : OK (xIsi T m env h) Q ↔ OK (m env h) fun o h1 => ∃ n, tyName o h1 = some n ∧ Q (.bl (isTy T n)) h1 := by
  simp only [ok_iff, sn_iff, rk_iff]
  apply Raw.ok_isi
@[simp] theorem ok_lr1 (m : EM Val) (Q : Cell → MH → Prop) : OK (xLR1 m env h) Q ↔ OK (m env h) fun v h1 => ∃ n, v = .int n ∧ rgB 0 n = true ∧ Q (.lst (rngV 0 n.toNat)) h1 := by
  simp only [ok_iff, sn_iff, rk_iff]
  apply Raw.ok_lr1
def blQ (Q : Bool → MH → Prop) (v : Val) (h : MH) : Prop := match v with
  | .bl b => Q b h
  | _ => False
@[simp] theorem blQ_bl (Q : Bool → MH → Prop) (b : Bool) : blQ Q (.bl b) h ↔ Q b h := Iff.rfl
def trQ (Q : Bool → MH → Prop) (r : Option Bool) (h : MH) : Prop := match r with
  | some b => Q b h
  | none => False
@[simp] theorem trQ_some (Q : Bool → MH → Prop) (b : Bool) : trQ Q (some b) h ↔ Q b h := Iff.rfl
@[simp] theorem trQ_none (Q : Bool → MH → Prop) : trQ Q none h ↔ False := Iff.rfl
@[simp] theorem ok_tOf (m : EM Val) (Q : Bool → MH → Prop) : OK (tOf m env h) Q ↔ OK (m env h) fun v h1 => blQ Q v h1 := by
  simp only [ok_iff, sn_iff, rk_iff]
  apply Raw.ok_tOf
@[simp] theorem ok_truth (m : EM Opd) (Q : Bool → MH → Prop) : OK (tTruth m env h) Q ↔ OK (m env h) fun o h1 => trQ Q (truth o h1) h1 := by
  simp only [ok_iff, sn_iff, rk_iff]
  apply Raw.ok_truth
@[simp] theorem ok_tAnd (a b : EM Bool) (Q : Bool → MH → Prop) : OK (tAnd a b env h) Q ↔ OK (a env h) fun k h1 => if k = true then OK (b env h1) Q else Q false h1 := by
  simp only [ok_iff, sn_iff, rk_iff]
  apply Raw.ok_tAnd
@[simp] theorem ok_tOr (a b : EM Bool) (Q : Bool → MH → Prop) : OK (tOr a b env h) Q ↔ OK (a env h) fun k h1 => if k = true then Q true h1 else OK (b env h1) Q := by
  simp only [ok_iff, sn_iff, rk_iff]
  apply Raw.ok_tOr
@[simp] theorem ok_tNot (a : EM Bool) (Q : Bool → MH → Prop) : OK (tNot a env h) Q ↔ OK (a env h) fun k h1 => Q (!k) h1 := by
  simp only [ok_iff, sn_iff, rk_iff]
  apply Raw.ok_tNot
@[simp] theorem ok_tTrue (Q : Bool → MH → Prop) : OK (tTrue env h) Q ↔ Q true h := by
  simp only [ok_iff, sn_iff, rk_iff]
  apply Raw.ok_tTrue
@[simp] theorem ok_xAnd (a b : EM Val) (Q : Val → MH → Prop) : OK (xAnd a b env h) Q ↔ OK (a env h) fun v h1 => trQ (fun k _ => if k = true then OK (b env h1) Q else Q v h1) (truth (.val v) h1) h1 := by
  simp only [ok_iff, sn_iff, rk_iff]
  apply Raw.ok_xAnd
@[simp] theorem ok_xOr (a b : EM Val) (Q : Val → MH → Prop) : OK (xOr a b env h) Q ↔ OK (a env h) fun v h1 => trQ (fun k _ => if k = true then Q v h1 else OK (b env h1) Q) (truth (.val v) h1) h1 := by
  simp only [ok_iff, sn_iff, rk_iff]
  apply Raw.ok_xOr
@[simp] theorem ok_xNot (a : EM Opd) (Q : Val → MH → Prop) : OK (xNot a env h) Q ↔ OK (a env h) fun v h1 => trQ (fun k h2 => Q (.bl (!k)) h2) (truth v h1) h1 := by
  simp only [ok_iff, sn_iff, rk_iff]
  apply Raw.ok_xNot
@[simp] theorem ok_chain (f g : Opd → Opd → MH → Res Val) (ma mb md : EM Opd) (Q : Val → MH → Prop) : OK (xChain f g ma mb md env h) Q ↔ OK (ma env h) fun a h1 => OK (mb env h1) fun b h2 => RK (f a b h2) fun z h3 => blQ (fun k h3 => if k = true then OK (md env h3) (fun d h4 => RK (g b d h4) Q) else Q (.bl false) h3) z h3 := by
  simp only [ok_iff, sn_iff, rk_iff]
  apply Raw.ok_chain
@[simp] theorem ok_mt (T : String) (f : Opd → List Opd → MH → Res γ) (ma : EM Opd) (mas : EM (List Opd)) (Q : γ → MH → Prop) : OK (xMt T f ma mas env h) Q ↔ OK (ma env h) fun a h1 => okTy T a h1 = true ∧ OK (mas env h1) fun as h2 => RK (f a as h2) Q := by
  simp only [ok_iff, sn_iff, rk_iff]
  apply Raw.ok_mt
@[simp] theorem ok_src (m : EM Opd) (Q : Src → MH → Prop) : OK (xSrc m env h) Q ↔ OK (m env h) fun o h1 => ∃ s, srcOf o h1 = some s ∧ Q s h1 := by
  simp only [ok_iff, sn_iff, rk_iff]
  apply Raw.ok_src
theorem ok_matchL (as : List Opd) (h1 : MH) (Q : Src → MH → Prop) : OK (match as with
  | [.val (.int j)] => if -(2 ^ 62) ≤ j ∧ j < 2 ^ 62 then Out.ok (Src.items (rngV 0 j.toNat)) h1 else .stuck
  | _ => .stuck) Q ↔ ∃ j, as = [.val (.int j)] ∧ (-(2 ^ 62) ≤ j ∧ j < 2 ^ 62) ∧ Q (.items (rngV 0 j.toNat)) h1 := by
  simp only [ok_iff, sn_iff, rk_iff]
  apply Raw.ok_matchL
@[simp] theorem ok_rng1 (m : EM (List Opd)) (Q : Src → MH → Prop) : OK (xRng1 m env h) Q ↔ OK (m env h) fun as h1 => ∃ j, as = [.val (.int j)] ∧ (-(2 ^ 62) ≤ j ∧ j < 2 ^ 62) ∧ Q (.items (rngV 0 j.toNat)) h1 := by
  simp only [ok_iff, sn_iff, rk_iff]
  apply Raw.ok_rng1
def rng2Q (Q : Src → MH → Prop) (as : List Opd) (h : MH) : Prop := match as with
  | [.val (.int i), .val (.int j)] => (-(2 ^ 62) ≤ i ∧ i < 2 ^ 62 ∧ -(2 ^ 62) ≤ j ∧ j < 2 ^ 62) ∧ Q (.items (rngV i (j - i).toNat)) h
  | _ => False
@[simp] theorem rng2Q_int (Q : Src → MH → Prop) (i j : Int) : rng2Q Q [.val (.int i), .val (.int j)] h ↔ (-(2 ^ 62) ≤ i ∧ i < 2 ^ 62 ∧ -(2 ^ 62) ≤ j ∧ j < 2 ^ 62) ∧ Q (.items (rngV i (j - i).toNat)) h := Iff.rfl
theorem rng2_at (as : List Opd) (h1 : MH) (Q : Src → MH → Prop) : OK (match as with
  | [.val (.int i), .val (.int j)] => if -(2 ^ 62) ≤ i ∧ i < 2 ^ 62 ∧ -(2 ^ 62) ≤ j ∧ j < 2 ^ 62 then Out.ok (Src.items (rngV i (j - i).toNat)) h1 else .stuck
  | _ => .stuck) Q ↔ rng2Q Q as h1 := by
  simp only [ok_iff, sn_iff, rk_iff]
  apply Raw.rng2_at
@[simp] theorem ok_rng2 (m : EM (List Opd)) (Q : Src → MH → Prop) : OK (xRng2 m env h) Q ↔ OK (m env h) fun as h1 => rng2Q Q as h1 := by
  simp only [ok_iff, sn_iff, rk_iff]
  apply Raw.ok_rng2
@[simp] theorem ok_comp (src : EM Src) (tg : Tgt) (own : List Nat) (tt : EM Bool) (te : EM Val) (Q : Cell → MH → Prop) : OK (xComp src tg own tt te env h) Q ↔ OK (src env h) fun s h1 => OK (loopC s tg tt te (wipeM env own) (s.size h1 + 1) 0 [] h1) fun vs h2 => Q (.lst vs) h2 := by
  simp only [ok_iff, sn_iff, rk_iff]
  apply Raw.ok_comp
theorem sn_bind (m : EM α) (f : α → SM) (P : Po) : OK (m env h) (fun a h1 => SN (f a env h1) P) → SN (sBind m f env h) P := by
  simp only [ok_iff, sn_iff, rk_iff]
  apply Raw.sn_bind
theorem sn_bind' (m : EM α) (f : α → SM) (P : Po) : SN (sBind m f env h) P ↔ OK (m env h) (fun a h1 => SN (f a env h1) P) := by
  simp only [ok_iff, sn_iff, rk_iff]
  apply Raw.sn_bind'
@[simp] theorem sn_seq (m1 m2 : SM) (P : Po) : SN (sSeq m1 m2 env h) P ↔ SN (m1 env h) { P with n := fun e h1 => SN (m2 e h1) P } := by
  simp only [ok_iff, sn_iff, rk_iff]
  apply Raw.sn_seq
@[simp] theorem sn_nil (P : Po) : SN (sNil env h) P ↔ P.n env h := by
  simp only [ok_iff, sn_iff, rk_iff]
  apply Raw.sn_nil
@[simp] theorem sn_brkS (P : Po) : SN (sBrk env h) P ↔ P.b env h := by
  simp only [ok_iff, sn_iff, rk_iff]
  apply Raw.sn_brkS
@[simp] theorem sn_contS (P : Po) : SN (sCont env h) P ↔ P.c env h := by
  simp only [ok_iff, sn_iff, rk_iff]
  apply Raw.sn_contS
@[simp] theorem sn_drop (m : EM α) (P : Po) : SN (sDrop m env h) P ↔ OK (m env h) fun _ h1 => P.n env h1 := by
  simp only [ok_iff, sn_iff, rk_iff]
  apply Raw.sn_drop
@[simp] theorem sn_retS (m : EM Val) (P : Po) : SN (sRet m env h) P ↔ OK (m env h) fun v h1 => P.r v h1 := by
  simp only [ok_iff, sn_iff, rk_iff]
  apply Raw.sn_retS
@[simp] theorem sn_retN (P : Po) : SN (sRetN env h) P ↔ P.r .non h := by
  simp only [ok_iff, sn_iff, rk_iff]
  apply Raw.sn_retN
@[simp] theorem sn_retOwn (i : Nat) (P : Po) : SN (sRetOwn i env h) P ↔ ∃ k, env[i]? = some (.own k) ∧ P.r (.ref h.length) (h ++ [k]) := by
  simp only [ok_iff, sn_iff, rk_iff]
  apply Raw.sn_retOwn
@[simp] theorem sn_if (t : EM Bool) (m1 m2 : SM) (P : Po) : SN (sIf t m1 m2 env h) P ↔ OK (t env h) fun k h1 => if k = true then SN (m1 env h1) P else SN (m2 env h1) P := by
  simp only [ok_iff, sn_iff, rk_iff]
  apply Raw.sn_if
@[simp] theorem sn_set (i : Nat) (m : EM Val) (P : Po) : SN (sSet i m env h) P ↔ OK (m env h) fun v h1 => P.n (env.set i (.val v)) h1 := by
  simp only [ok_iff, sn_iff, rk_iff]
  apply Raw.sn_set
@[simp] theorem sn_own (i : Nat) (m : EM Cell) (P : Po) : SN (sOwn i m env h) P ↔ OK (m env h) fun v h1 => P.n (env.set i (.own v)) h1 := by
  simp only [ok_iff, sn_iff, rk_iff]
  apply Raw.sn_own
@[simp] theorem sn_tgt (g : Tgt) (m : EM Val) (P : Po) : SN (sTgt g m env h) P ↔ OK (m env h) fun v h1 => ∃ env', g v env = some env' ∧ P.n env' h1 := by
  simp only [ok_iff, sn_iff, rk_iff]
  apply Raw.sn_tgt
def parQ (P : Po) (i j : Nat) (env : ME) (vs : List Val) (h : MH) : Prop := match vs with
  | [v, u] => P.n ((env.set i (.val v)).set j (.val u)) h
  | _ => False
@[simp] theorem parQ_two (P : Po) (i j : Nat) (env : ME) (v u : Val) : parQ P i j env [v, u] h ↔ P.n ((env.set i (.val v)).set j (.val u)) h := Iff.rfl
@[simp] theorem sn_par (i j : Nat) (m : EM (List Val)) (P : Po) : SN (sPar i j m env h) P ↔ OK (m env h) fun vs h1 => parQ P i j env vs h1 := by
  simp only [ok_iff, sn_iff, rk_iff]
  apply Raw.sn_par
@[simp] theorem sn_store (f : Val → Val → Val → MH → Option MH) (mv mo mi : EM Val) (P : Po) : SN (sStore f mv mo mi env h) P ↔ OK (mv env h) fun v h1 => OK (mo env h1) fun o h2 => OK (mi env h2) fun i h3 => ∃ h4, f o i v h3 = some h4 ∧ P.n env h4 := by
  simp only [ok_iff, sn_iff, rk_iff]
  apply Raw.sn_store
@[simp] theorem sn_ownSt (i : Nat) (f : Cell → Val → Val → Option Cell) (mv mi : EM Val) (P : Po) : SN (sOwnSt i f mv mi env h) P ↔ OK (mv env h) fun v h1 => ∃ k, env[i]? = some (.own k) ∧ OK (mi env h1) fun iv h2 => ∃ k', f k iv v = some k' ∧ P.n (env.set i (.own k')) h2 := by
  simp only [ok_iff, sn_iff, rk_iff]
  apply Raw.sn_ownSt
@[simp] theorem sn_for (src : EM Src) (g : Tgt) (mb : SM) (P : Po) : SN (sFor src g mb env h) P ↔ OK (src env h) fun s h1 => SN (loopG s g mb (s.size h1 + 1) 0 env h1) P := by
  simp only [ok_iff, sn_iff, rk_iff]
  apply Raw.sn_for
def MQ {γ : Type} (Q : γ → Cell → Prop) (r : Option (γ × Cell)) : Prop := match r with
  | some (v, c) => Q v c
  | none => False
@[simp] theorem MQ_some {γ : Type} (Q : γ → Cell → Prop) (v : γ) (c : Cell) : MQ Q (some (v, c)) ↔ Q v c := Iff.rfl
@[simp] theorem MQ_none {γ : Type} (Q : γ → Cell → Prop) : MQ Q none ↔ False := Iff.rfl
@[simp] theorem sn_ownM {γ : Type} (T : String) (i : Nat) (f : Cell → List Opd → MH → Option (γ × Cell)) (mas : EM (List Opd)) (g : γ → ME → ME) (P : Po) : SN (sOwnM T i f mas g env h) P ↔ ∃ k, env[i]? = some (.own k) ∧ cellTy T k = true ∧ OK (mas env h) fun as h1 => MQ (fun v k' => P.n (g v (env.set i (.own k'))) h1) (f k as h1) := by
  simp only [ok_iff, sn_iff, rk_iff]
  apply Raw.sn_ownM
@[simp] theorem sn_forOwn (i : Nat) (g : Tgt) (mb : SM) (P : Po) : SN (sForOwn i g mb env h) P ↔ ∃ vs, env[i]? = some (.own (.lst vs)) ∧ SN (foldG g mb vs (env.set i .no) h) P := by
  simp only [ok_iff, sn_iff, rk_iff]
  apply Raw.sn_forOwn
theorem fun_ok (n k : Nat) (m : SM) (args : List Val) (Q : Val → MH → Prop) : OK (mFun n k m args h) Q ↔ args.length = k ∧ SN (m (args.map Sl.val ++ List.replicate (n - k) Sl.no) h) ⟨fun _ h1 => Q .non h1, Q, fun _ _ => False, fun _ _ => False⟩ := by
  simp only [ok_iff, sn_iff, rk_iff]
  apply Raw.fun_ok
end
section
variable {h : MH}
section
variable (Q : Opd → MH → Prop)
@[simp] theorem add_int (i j : Int) : RK (fAdd (.val (.int i)) (.val (.int j)) h) Q ↔ Q (.val (.int (i + j))) h := by
  simp only [ok_iff, sn_iff, rk_iff]
  apply Raw.add_int
@[simp] theorem add_str (i j : Str) : RK (fAdd (.val (.str i)) (.val (.str j)) h) Q ↔ i.length + j.length ≤ 100000 ∧ Q (.val (.str (i ++ j))) h := by
  simp only [ok_iff, sn_iff, rk_iff]
  apply Raw.add_str
@[simp] theorem add_tup (i j : List Val) : RK (fAdd (.val (.tup i)) (.val (.tup j)) h) Q ↔ i.length + j.length ≤ 100000 ∧ Q (.val (.tup (i ++ j))) h := by
  simp only [ok_iff, sn_iff, rk_iff]
  apply Raw.add_tup
theorem add_lst {a b : Opd} {xs ys : List Val} (ha : lstOf a h = some xs) (hb : lstOf b h = some ys) : RK (fAdd a b h) Q ↔ xs.length + ys.length ≤ 100000 ∧ Q (.cell (.lst (xs ++ ys))) h := by
  simp only [ok_iff, sn_iff, rk_iff]
  apply Raw.add_lst <;> assumption
@[simp] theorem mul_int (i j : Int) : RK (fMul (.val (.int i)) (.val (.int j)) h) Q ↔ cMul i j = true ∧ Q (.val (.int (i * j))) h := by
  simp only [ok_iff, sn_iff, rk_iff]
  apply Raw.mul_int
@[simp] theorem mul_str' (s : Str) (k : Int) : RK (fMul (.val (.str s)) (.val (.int k)) h) Q ↔ (1 ≤ k ∧ k ≤ 1000 ∧ s.length ≤ 1000) ∧ Q (.val (.str (strRep s k.toNat))) h := by
  simp only [ok_iff, sn_iff, rk_iff]
  apply Raw.mul_str'
theorem mul_lst {a : Opd} {xs : List Val} {k : Int} (ha : lstOf a h = some xs) : RK (fMul a (.val (.int k)) h) Q ↔ (-(2 ^ 63) ≤ k ∧ k < 2 ^ 63 ∧ xs.length * k.toNat ≤ 100000) ∧ Q (.cell (.lst (List.replicate k.toNat xs).flatten)) h := by
  simp only [ok_iff, sn_iff, rk_iff]
  apply Raw.mul_lst <;> assumption
@[simp] theorem sl_tupV (vs : List Val) (lo hi : Option Int) : RK (fSl (.val (.tup vs)) lo hi h) Q ↔ Q (.val (.tup (cutM vs lo hi))) h := by
  simp only [ok_iff, sn_iff, rk_iff]
  apply Raw.sl_tupV
@[simp] theorem sl_strV (s : Str) (lo hi : Option Int) : RK (fSl (.val (.str s)) lo hi h) Q ↔ s.length ≤ 100000 ∧ Q (.val (.str (cutS s lo hi))) h := by
  simp only [ok_iff, sn_iff, rk_iff]
  apply Raw.sl_strV
theorem sl_lst {a : Opd} {xs : List Val} {lo hi : Option Int} (ha : lisOf a h = some xs) : RK (fSl a lo hi h) Q ↔ Q (.cell (.lst (cutM xs lo hi))) h := by
  simp only [ok_iff, sn_iff, rk_iff]
  apply Raw.sl_lst <;> assumption
end
section
variable (Q : Val → MH → Prop)
theorem fI_eq (C : Int → Int → Bool) (g : Int → Int → Val) (i j : Int) : RK (fI C g (.val (.int i)) (.val (.int j)) h) Q ↔ C i j = true ∧ Q (g i j) h := by
  simp only [ok_iff, sn_iff, rk_iff]
  apply Raw.fI_eq
@[simp] theorem sub_int' (i j : Int) : RK (fSub (.val (.int i)) (.val (.int j)) h) Q ↔ Q (.int (i - j)) h := by
  simp only [ok_iff, sn_iff, rk_iff]
  apply Raw.sub_int'
@[simp] theorem div_int' (i j : Int) : RK (fDiv (.val (.int i)) (.val (.int j)) h) Q ↔ (0 < j ∧ j < 1073741824) ∧ Q (.int (i / j)) h := by
  simp only [ok_iff, sn_iff, rk_iff]
  apply Raw.div_int'
@[simp] theorem mod_int' (i j : Int) : RK (fMod (.val (.int i)) (.val (.int j)) h) Q ↔ 0 < j ∧ Q (.int (i % j)) h := by
  simp only [ok_iff, sn_iff, rk_iff]
  apply Raw.mod_int'
@[simp] theorem pow_int' (i j : Int) : RK (fPow (.val (.int i)) (.val (.int j)) h) Q ↔ (0 ≤ j ∧ j ≤ 1000000 ∧ i.natAbs < 2 ^ 64) ∧ Q (.int (i ^ j.toNat)) h := by
  simp only [ok_iff, sn_iff, rk_iff]
  apply Raw.pow_int'
@[simp] theorem shl_int' (i j : Int) : RK (fShl (.val (.int i)) (.val (.int j)) h) Q ↔ (0 ≤ j ∧ j ≤ 1000000 ∧ i.natAbs < 2 ^ 64) ∧ Q (.int (i * 2 ^ j.toNat)) h := by
  simp only [ok_iff, sn_iff, rk_iff]
  apply Raw.shl_int'
@[simp] theorem shr_int' (i j : Int) : RK (fShr (.val (.int i)) (.val (.int j)) h) Q ↔ 0 ≤ j ∧ Q (.int (i / 2 ^ j.toNat)) h := by
  simp only [ok_iff, sn_iff, rk_iff]
  apply Raw.shr_int'
@[simp] theorem and_int' (i j : Int) : RK (fAnd (.val (.int i)) (.val (.int j)) h) Q ↔ Q (.int (Builtin.bitAnd i j)) h := by
  simp only [ok_iff, sn_iff, rk_iff]
  apply Raw.and_int'
@[simp] theorem or_int' (i j : Int) : RK (fOr (.val (.int i)) (.val (.int j)) h) Q ↔ Q (.int (Builtin.bitOr i j)) h := by
  simp only [ok_iff, sn_iff, rk_iff]
  apply Raw.or_int'
@[simp] theorem xor_int' (i j : Int) : RK (fXor (.val (.int i)) (.val (.int j)) h) Q ↔ Q (.int (Builtin.bitXor i j)) h := by
  simp only [ok_iff, sn_iff, rk_iff]
  apply Raw.xor_int'
@[simp] theorem le_int' (i j : Int) : RK (fLe (.val (.int i)) (.val (.int j)) h) Q ↔ Q (.bl (decide (i ≤ j))) h := by
  simp only [ok_iff, sn_iff, rk_iff]
  apply Raw.le_int'
@[simp] theorem gt_int' (i j : Int) : RK (fGt (.val (.int i)) (.val (.int j)) h) Q ↔ Q (.bl (decide (j < i))) h := by
  simp only [ok_iff, sn_iff, rk_iff]
  apply Raw.gt_int'
@[simp] theorem ge_int' (i j : Int) : RK (fGe (.val (.int i)) (.val (.int j)) h) Q ↔ Q (.bl (decide (j ≤ i))) h := by
  simp only [ok_iff, sn_iff, rk_iff]
  apply Raw.ge_int'
@[simp] theorem lt_int' (i j : Int) : RK (fLt (.val (.int i)) (.val (.int j)) h) Q ↔ Q (.bl (decide (i < j))) h := by
  simp only [ok_iff, sn_iff, rk_iff]
  apply Raw.lt_int'
@[simp] theorem neg_int' (i : Int) : RK (fNeg (.val (.int i)) h) Q ↔ Q (.int (-i)) h := by
  simp only [ok_iff, sn_iff, rk_iff]
  apply Raw.neg_int'
@[simp] theorem inv_int' (i : Int) : RK (fInv (.val (.int i)) h) Q ↔ Q (.int (Builtin.bitNot i)) h := by
  simp only [ok_iff, sn_iff, rk_iff]
  apply Raw.inv_int'
@[simp] theorem is_non' (a : Opd) : RK (fIs a (.val .non) h) Q ↔ Q (.bl (isNonO a)) h := by
  simp only [ok_iff, sn_iff, rk_iff]
  apply Raw.is_non'
@[simp] theorem not_non' (a : Opd) : RK (fNot a (.val .non) h) Q ↔ Q (.bl (!isNonO a)) h := by
  simp only [ok_iff, sn_iff, rk_iff]
  apply Raw.not_non'
@[simp] theorem eq_int' (i j : Int) : RK (fEq (.val (.int i)) (.val (.int j)) h) Q ↔ Q (.bl (decide (i = j))) h := by
  simp only [ok_iff, sn_iff, rk_iff]
  apply Raw.eq_int'
@[simp] theorem ne_int' (i j : Int) : RK (fNe (.val (.int i)) (.val (.int j)) h) Q ↔ Q (.bl (!decide (i = j))) h := by
  simp only [ok_iff, sn_iff, rk_iff]
  apply Raw.ne_int'
def atQ (o : Option Val) (h : MH) : Prop := match o with
  | some v => Q v h
  | none => False
@[simp] theorem atQ_some (v : Val) : atQ Q (some v) h ↔ Q v h := Iff.rfl
@[simp] theorem atQ_none : atQ Q none h ↔ False := Iff.rfl
@[simp] theorem ix_tup' (vs : List Val) (i : Int) : RK (fIx (.val (.tup vs)) (.val (.int i)) h) Q ↔ atQ Q (L2.atI vs i) h := by
  simp only [ok_iff, sn_iff, rk_iff]
  apply Raw.ix_tup'
@[simp] theorem ix_str' (s : Str) (i : Int) : RK (fIx (.val (.str s)) (.val (.int i)) h) Q ↔ s.length ≤ 100000 ∧ atQ Q ((L2.atI s.cps.toList i).map fun c => .str ⟨#[c]⟩) h := by
  simp only [ok_iff, sn_iff, rk_iff]
  apply Raw.ix_str'
@[simp] theorem ix_cell (vs : List Val) (i : Int) : RK (fIx (.cell (.lst vs)) (.val (.int i)) h) Q ↔ atQ Q (L2.atI vs i) h := by
  simp only [ok_iff, sn_iff, rk_iff]
  apply Raw.ix_cell
def refQ (i : Val) (h : MH) (o : Option Cell) : Prop := match o with
  | some (.lst vs) => (match i with
    | .int k => atQ Q (L2.atI vs k) h
    | _ => False)
  | some (.frz vs) => (match i with
    | .int k => atQ Q (L2.atI vs k) h
    | _ => False)
  | some c => (match cellGet c i with
    | some o => atQ Q o h
    | none => False)
  | none => False
@[simp] theorem refQ_lst (k : Int) (vs : List Val) : refQ Q (.int k) h (some (.lst vs)) ↔ atQ Q (L2.atI vs k) h := Iff.rfl
@[simp] theorem refQ_frz (k : Int) (vs : List Val) : refQ Q (.int k) h (some (.frz vs)) ↔ atQ Q (L2.atI vs k) h := Iff.rfl
@[simp] theorem ix_ref (n : Nat) (i : Val) : RK (fIx (.val (.ref n)) (.val i) h) Q ↔ refQ Q i h h[n]? := by
  simp only [ok_iff, sn_iff, rk_iff]
  apply Raw.ix_ref
@[simp] theorem tuple_cell (vs : List Val) : RK (fTuple [.cell (.lst vs)] h) Q ↔ Q (.tup vs) h := by
  simp only [ok_iff, sn_iff, rk_iff]
  apply Raw.tuple_cell
@[simp] theorem tuple_tup (vs : List Val) : RK (fTuple [.val (.tup vs)] h) Q ↔ Q (.tup vs) h := by
  simp only [ok_iff, sn_iff, rk_iff]
  apply Raw.tuple_tup
@[simp] theorem int_int (i : Int) : RK (fInt [.val (.int i)] h) Q ↔ Q (.int i) h := by
  simp only [ok_iff, sn_iff, rk_iff]
  apply Raw.int_int
@[simp] theorem int_bl (k : Bool) : RK (fInt [.val (.bl k)] h) Q ↔ Q (.int (if k then 1 else 0)) h := by
  simp only [ok_iff, sn_iff, rk_iff]
  apply Raw.int_bl
@[simp] theorem len_tup (vs : List Val) : RK (fLen [.val (.tup vs)] h) Q ↔ Q (.int vs.length) h := by
  simp only [ok_iff, sn_iff, rk_iff]
  apply Raw.len_tup
@[simp] theorem len_cell (vs : List Val) : RK (fLen [.cell (.lst vs)] h) Q ↔ Q (.int vs.length) h := by
  simp only [ok_iff, sn_iff, rk_iff]
  apply Raw.len_cell
def lenQ (h : MH) (o : Option Cell) : Prop := match o with
  | some (.lst vs) => Q (.int vs.length) h
  | some (.frz vs) => Q (.int vs.length) h
  | some (.dK vs) => Q (.int vs.length) h
  | some (.dT vs) => Q (.int vs.length) h
  | _ => False
@[simp] theorem lenQ_lst (vs : List Val) : lenQ Q h (some (.lst vs)) ↔ Q (.int vs.length) h := Iff.rfl
@[simp] theorem len_ref (n : Nat) : RK (fLen [.val (.ref n)] h) Q ↔ lenQ Q h h[n]? := by
  simp only [ok_iff, sn_iff, rk_iff]
  apply Raw.len_ref
@[simp] theorem len_str (s : Str) : RK (fLen [.val (.str s)] h) Q ↔ s.length ≤ 100000 ∧ Q (.int s.length) h := by
  simp only [ok_iff, sn_iff, rk_iff]
  apply Raw.len_str
end
section
variable (Q : Cell → MH → Prop)
@[simp] theorem list_tup (vs : List Val) : RK (fList [.val (.tup vs)] h) Q ↔ Q (.lst vs) h := by
  simp only [ok_iff, sn_iff, rk_iff]
  apply Raw.list_tup
@[simp] theorem list_cell (vs : List Val) : RK (fList [.cell (.lst vs)] h) Q ↔ Q (.lst vs) h := by
  simp only [ok_iff, sn_iff, rk_iff]
  apply Raw.list_cell
theorem list_ref {n : Nat} {vs : List Val} (e : h[n]? = some (.lst vs)) : RK (fList [.val (.ref n)] h) Q ↔ Q (.lst vs) h := by
  simp only [ok_iff, sn_iff, rk_iff]
  apply Raw.list_ref <;> assumption
end
end
theorem atI_nn {α : Type} (vs : List α) {i : Int} (h : 0 ≤ i) : L2.atI vs i = vs[i.toNat]? := by
  unfold L2.atI L2.ixN
  rw [if_pos h]
  by_cases hl : i < vs.length
  · rw [if_pos hl]; rfl
  · rw [if_neg hl, List.getElem?_eq_none (by omega)]; rfl
@[simp] theorem atI_ofNat {α : Type} (vs : List α) (i : Nat) : L2.atI vs (i : Int) = vs[i]? := atI_nn vs (by omega)
@[simp] theorem atI_0 {α : Type} (vs : List α) : L2.atI vs 0 = vs[0]? := atI_nn vs (by omega)
@[simp] theorem atI_1 {α : Type} (vs : List α) : L2.atI vs 1 = vs[1]? := atI_nn vs (by omega)
@[simp] theorem atI_2 {α : Type} (vs : List α) : L2.atI vs 2 = vs[2]? := atI_nn vs (by omega)
@[simp] theorem atI_3 {α : Type} (vs : List α) : L2.atI vs 3 = vs[3]? := atI_nn vs (by omega)
theorem atI_m1 {α : Type} (vs : List α) : L2.atI vs (-1) = vs[vs.length - 1]? := by
  unfold L2.atI L2.ixN
  rw [if_neg (by omega)]
  by_cases hl : -(vs.length : Int) ≤ -1
  · rw [if_pos hl]; show vs[(-1 + (vs.length : Int)).toNat]? = _; congr 1; omega
  · rw [if_neg hl, List.getElem?_eq_none (by omega)]; rfl
@[simp] theorem set_ref (n : Nat) (i v : Val) (h : MH) : fSet (.ref n) i v h = (h[n]?).bind fun c => (Mi.cellSet c i v).map fun c' => h.set n c' := by
  unfold fSet
  cases e : h[n]? <;> simp [e]
@[simp] theorem cset_lst (vs : List Val) (k : Int) (v : Val) : Mi.cellSet (.lst vs) (.int k) v = (L2.ixN vs.length k).map fun j => .lst (vs.set j v) := rfl
theorem ixN_nn {n : Nat} {i : Int} (h0 : 0 ≤ i) (h1 : i < n) : L2.ixN n i = some i.toNat := by
  unfold L2.ixN; rw [if_pos h0, if_pos h1]
@[simp] theorem ixN_0 (n : Nat) : L2.ixN (n + 1) 0 = some 0 := ixN_nn (by omega) (by omega)
@[simp] theorem ap_lst (vs : List Val) (v : Val) (h : MH) : mAppend (.lst vs) [.val v] h = if vs.length < 100000 then some (.non, .lst (vs ++ [v])) else none := rfl
@[simp] theorem ext_lst (vs us : List Val) (h : MH) : mExtend (.lst vs) [.val (.tup us)] h = if vs.length + us.length ≤ 100000 then some (.non, .lst (vs ++ us)) else none := rfl
@[simp] theorem cellTy_lst (vs : List Val) : cellTy "list" (.lst vs) = true := rfl
@[simp] theorem src_tupV (vs : List Val) (h : MH) : srcOf (.val (.tup vs)) h = some (.items vs) := rfl
@[simp] theorem src_cellV (vs : List Val) (h : MH) : srcOf (.cell (.lst vs)) h = some (.items vs) := rfl
@[simp] theorem tName_eq (i : Nat) (v : Val) (env : ME) : tName i v env = some (env.set i (.val v)) := rfl
@[simp] theorem tTup_eq (n : Nat) (gs : Tgts) (vs : List Val) (env : ME) : tTup n gs (.tup vs) env = if vs.length = n then gs vs env else none := by
  unfold tTup; first | rfl | simp
@[simp] theorem tNil_eq (env : ME) : tNil [] env = some env := rfl
@[simp] theorem tCons_eq (g : Tgt) (gs : Tgts) (v : Val) (vs : List Val) (env : ME) : tCons g gs (v :: vs) env = (g v env).bind fun e => gs vs e := by
  unfold tCons; first | rfl | (cases g v env <;> rfl)
theorem cMul_r {i j : Int} (h : -(2 ^ 64) < j ∧ j < 2 ^ 64) : cMul i j = true := decide_eq_true (.inr h)
theorem cMul_l {i j : Int} (h : -(2 ^ 64) < i ∧ i < 2 ^ 64) : cMul i j = true := decide_eq_true (.inl h)
theorem fold_inv {g : Tgt} {mb : SM} {vs : List Val} {P : Po} (I : Nat → ME → MH → Prop) {env : ME} {h : MH} (h0 : I 0 env h)
    (step : ∀ i v env h, vs[i]? = some v → I i env h → ∃ env1, g v env = some env1 ∧ SN (mb env1 h) ⟨I (i + 1), P.r, P.n, I (i + 1)⟩) (last : ∀ env h, I vs.length env h → P.n env h) : SN (foldG g mb vs env h) P := ⟨Raw.fold_inv I h0 (fun i v env h hv hI => by obtain ⟨e1, a, b⟩ := step i v env h hv hI; exact ⟨e1, a, b.run⟩) last⟩
theorem live_inv {n : Nat} {g : Tgt} {mb : SM} {vs : List Val} {P : Po} (I : Nat → ME → MH → Prop) {env : ME} {h : MH} (h0 : I 0 env h) (hc : ∀ i env h, I i env h → h[n]? = some (.lst vs) ∨ h[n]? = some (.frz vs))
    (step : ∀ i v env h, vs[i]? = some v → I i env h → ∃ env1, g v env = some env1 ∧ SN (mb env1 h) ⟨I (i + 1), P.r, P.n, I (i + 1)⟩) (last : ∀ env h, I vs.length env h → P.n env h) : SN (loopG (.live n) g mb ((Src.live n).size h + 1) 0 env h) P := ⟨Raw.live_inv I h0 hc (fun i v env h hv hI => by obtain ⟨e1, a, b⟩ := step i v env h hv hI; exact ⟨e1, a, b.run⟩) last⟩
theorem loop_inv {s : Src} {g : Tgt} {mb : SM} {vs : List Val} {P : Po} (I : Nat → ME → MH → Prop) (hs : s = .items vs ∨ ∃ n, s = .live n ∧ ∀ i env h, I i env h → h[n]? = some (.lst vs) ∨ h[n]? = some (.frz vs)) {env : ME} {h : MH} (h0 : I 0 env h)
    (step : ∀ i v env h, vs[i]? = some v → I i env h → ∃ env1, g v env = some env1 ∧ SN (mb env1 h) ⟨I (i + 1), P.r, P.n, I (i + 1)⟩) (last : ∀ env h, I vs.length env h → P.n env h) : SN (loopG s g mb (s.size h + 1) 0 env h) P := ⟨Raw.loop_inv I hs h0 (fun i v env h hv hI => by obtain ⟨e1, a, b⟩ := step i v env h hv hI; exact ⟨e1, a, b.run⟩) last⟩
theorem comp_inv {tg : Tgt} {tt : EM Bool} {te : EM Val} {env0 : ME} {vs : List Val} {Q : List Val → MH → Prop} (I : Nat → List Val → MH → Prop) {acc : List Val} {h : MH} (h0 : I 0 acc h)
    (step : ∀ i v acc h, vs[i]? = some v → I i acc h → ∃ env1, tg v env0 = some env1 ∧ OK (tt env1 h) fun k h1 => if k = true then OK (te env1 h1) (fun u h2 => acc.length < 100000 ∧ I (i + 1) (acc ++ [u]) h2) else I (i + 1) acc h1) (last : ∀ acc h, I vs.length acc h → Q acc h) : OK (foldC tg tt te env0 vs acc h) Q := ⟨Raw.comp_inv I h0 (fun i v acc h hv hI => by obtain ⟨e1, a, b⟩ := step i v acc h hv hI; exact ⟨e1, a, by simpa only [ok_iff] using b⟩) last⟩
end Mi

set_option Elab.async false
set_option linter.all false
set_option maxRecDepth 100000
set_option maxHeartbeats 2000000
set_option autoImplicit false
namespace Mi
open PySem PySem.Spec PyProof.Rows L2
section
variable {env : ME} {h : MH}
def enQ (Q : Src → MH → Prop) (as : List Opd) (h : MH) : Prop := match as with
  | [.val v] => ∃ s, enumOf v h = some s ∧ Q s h
  | _ => False
@[simp] theorem enQ_v (Q : Src → MH → Prop) (v : Val) : enQ Q [.val v] h ↔ ∃ s, enumOf v h = some s ∧ Q s h := Iff.rfl
@[simp] theorem ok_enum (m : EM (List Opd)) (Q : Src → MH → Prop) : OK (xEnum m env h) Q ↔ OK (m env h) fun as h1 => enQ Q as h1 := by
  unfold xEnum
  rw [ok_bind]
  constructor
  · intro q
    refine OK.mono q fun as h1 q => ?_
    unfold enQ
    split at q
    · rename_i v
      cases e : enumOf v h1 with
      | none => rw [e] at q; simp at q
      | some s => rw [e] at q; simp at q; first | exact ⟨s, e, q⟩ | exact ⟨s, rfl, q⟩
    · simp at q
  · intro q
    refine OK.mono q fun as h1 q => ?_
    unfold enQ at q
    split at q
    · obtain ⟨s, e, q⟩ := q
      simp only [e, ok_ok]; exact q
    · exact q.elim
@[simp] theorem add_intI (i j : Int) (Q : Val → MH → Prop) : RK (fAddI (.val (.int i)) (.val (.int j)) h) Q ↔ Q (.int (i + j)) h := by
  show RK (some (.int (i + j), h)) Q ↔ _
  exact rk_some ..
theorem sn_aug_ (i : Nat) (f : Opd → Opd → MH → Res Val) (m : EM Val) (P : Po) {x : Val} (e : env[i]? = some (.val x)) : SN (sAug i f m env h) P ↔ OK (m env h) fun y h1 => RK (f (.val x) (.val y) h1) fun z h2 => P.n (env.set i (.val z)) h2 := by
  unfold sAug
  simp only [e]
  rw [sn_bind']
  constructor <;> intro q <;> refine OK.mono q fun y h1 q => ?_
  · cases ef : f (.val x) (.val y) h1 with
    | none => rw [ef] at q; simp at q
    | some z => obtain ⟨z, h2⟩ := z; rw [ef] at q; simp at q; simp; exact q
  · cases ef : f (.val x) (.val y) h1 with
    | none => rw [ef] at q; simp at q
    | some z => obtain ⟨z, h2⟩ := z; rw [ef] at q; simp at q; simp; exact q
theorem sn_augS (get : Val → Val → MH → Option Val) (op : Opd → Opd → MH → Res Val) (set : Val → Val → Val → MH → Option MH) (mo mi me : EM Val) (P : Po) : SN (sAugS get op set mo mi me env h) P ↔ OK (mo env h) fun o h1 => OK (mi env h1) fun i h2 => ∃ x, get o i h2 = some x ∧ OK (me env h2) fun y h3 => RK (op (.val x) (.val y) h3) fun z h4 => ∃ h5, set o i z h4 = some h5 ∧ P.n env h5 := by
  unfold sAugS
  rw [sn_bind']
  constructor <;> intro q <;> refine OK.mono q fun o h1 q => ?_
  · rw [sn_bind'] at q
    refine OK.mono q fun i h2 q => ?_
    cases eg : get o i h2 with
    | none => rw [eg] at q; simp at q
    | some x =>
      rw [eg] at q
      refine ⟨x, rfl, ?_⟩
      simp only at q
      rw [sn_bind'] at q
      refine OK.mono q fun y h3 q => ?_
      cases ef : op (.val x) (.val y) h3 with
      | none => rw [ef] at q; simp at q
      | some z =>
        obtain ⟨z, h4⟩ := z
        rw [ef] at q
        simp only at q
        rw [rk_some]
        cases es : set o i z h4 with
        | none => rw [es] at q; simp at q
        | some h5 => rw [es] at q; simp at q; exact ⟨h5, rfl, q⟩
  · rw [sn_bind']
    refine OK.mono q fun i h2 q => ?_
    obtain ⟨x, eg, q⟩ := q
    simp only [eg]
    rw [sn_bind']
    refine OK.mono q fun y h3 q => ?_
    cases ef : op (.val x) (.val y) h3 with
    | none => rw [ef] at q; simp at q
    | some z =>
      obtain ⟨z, h4⟩ := z
      rw [ef, rk_some] at q
      obtain ⟨h5, es, q⟩ := q
      simp only [es]
      simp; exact q
theorem enum_live {n : Nat} {g : Tgt} {mb : SM} {vs : List Val} {P : Po} (I : Nat → ME → MH → Prop) (h0 : I 0 env h) (hc : ∀ i env h, I i env h → h[n]? = some (.lst vs) ∨ h[n]? = some (.frz vs))
    (step : ∀ i v env h, vs[i]? = some v → I i env h → ∃ env1, g (.tup [.int (i : Nat), v]) env = some env1 ∧ SN (mb env1 h) ⟨I (i + 1), P.r, P.n, I (i + 1)⟩) (last : ∀ env h, I vs.length env h → P.n env h) : SN (loopG (.liveE n) g mb ((Src.liveE n).size h + 1) 0 env h) P := by
  have es : (Src.liveE n).size h = vs.length := by
    unfold Src.size
    rcases hc 0 env h h0 with e | e <;> simp only [e]
  rw [es]
  have key : ∀ (f i : Nat) (env : ME) (h : MH), I i env h → i ≤ vs.length → vs.length < f + i → SN (loopG (.liveE n) g mb f i env h) P := by
    intro f
    induction f with
    | zero => intro i env h _ h1 h2; omega
    | succ f ih =>
      intro i env h hI h1 h2
      unfold loopG
      have ea : (Src.liveE n).at i h = some (vs[i]?.map fun v => .tup [.int (i : Nat), v]) := by
        unfold Src.at
        rcases hc i env h hI with e | e <;> simp only [e]
      rw [ea]
      by_cases hi : i < vs.length
      · rw [List.getElem?_eq_getElem hi]
        obtain ⟨env1, e1, q⟩ := step i vs[i] env h (List.getElem?_eq_getElem hi) hI
        simp only [Option.map_some, e1]
        cases em : mb env1 h with
        | next e2 h2 => rw [em] at q; exact ih (i + 1) e2 h2 (by simpa using q) (by omega) (by omega)
        | cont e2 h2 => rw [em] at q; exact ih (i + 1) e2 h2 (by simpa using q) (by omega) (by omega)
        | brk e2 h2 => rw [em] at q; simpa using q
        | ret v h2 => rw [em] at q; simpa using q
        | exc _ _ _ => rw [em] at q; exact q.run.elim
        | stuck => rw [em] at q; exact q.run.elim
      · rw [List.getElem?_eq_none (by omega)]
        have : i = vs.length := by omega
        subst this
        simpa using last env h hI
  exact key _ 0 env h h0 (Nat.zero_le _) (by omega)
end
end Mi

set_option Elab.async false
set_option linter.all false
set_option maxRecDepth 100000
set_option maxHeartbeats 2000000
set_option autoImplicit false
namespace Mi
open PySem L2
structure SX (o : SOut) (P : Po) (X : Exc → ME → MH → Prop) : Prop where
  run : SN o P ∨ ∃ e env h, o = .exc e env h ∧ X e env h
structure OX {α : Type} (o : Out α) (Q : α → MH → Prop) (X : Exc → MH → Prop) : Prop where
  run : OK o Q ∨ ∃ e h, o = .exc e h ∧ X e h
section
variable {env : ME} {h : MH} {P : Po} {X : Exc → ME → MH → Prop}
theorem SX.sn {o : SOut} (q : SN o P) : SX o P X := ⟨.inl q⟩
theorem sx_seq {m1 m2 : SM} (q : SX (m1 env h) { P with n := fun e h1 => SX (m2 e h1) P X } X) : SX (sSeq m1 m2 env h) P X := by
  unfold sSeq
  cases e : m1 env h with
  | next e1 h1 =>
    rw [e] at q
    rcases q.run with q | ⟨_, _, _, z, _⟩
    · exact q.run
    · cases z
  | ret v h1 =>
    rw [e] at q
    rcases q.run with q | ⟨_, _, _, z, _⟩
    · exact ⟨.inl ⟨q.run⟩⟩
    · cases z
  | brk e1 h1 =>
    rw [e] at q
    rcases q.run with q | ⟨_, _, _, z, _⟩
    · exact ⟨.inl ⟨q.run⟩⟩
    · cases z
  | cont e1 h1 =>
    rw [e] at q
    rcases q.run with q | ⟨_, _, _, z, _⟩
    · exact ⟨.inl ⟨q.run⟩⟩
    · cases z
  | exc e1 e2 h1 =>
    rw [e] at q
    rcases q.run with q | ⟨_, _, _, z, x⟩
    · exact absurd q.run (by intro z; exact z)
    · cases z; exact ⟨.inr ⟨_, _, _, rfl, x⟩⟩
  | stuck =>
    rw [e] at q
    rcases q.run with q | ⟨_, _, _, z, x⟩
    · exact absurd q.run (by intro z; exact z)
    · cases z
theorem SX.mono {o : SOut} {P' : Po} {X' : Exc → ME → MH → Prop} (q : SX o P X) (n : ∀ e h, P.n e h → P'.n e h) (r : ∀ e h, P.r e h → P'.r e h) (b : ∀ e h, P.b e h → P'.b e h) (c : ∀ e h, P.c e h → P'.c e h) (x : ∀ e env h, X e env h → X' e env h) : SX o P' X' := by
  rcases q.run with q | ⟨e, e1, h1, z, y⟩
  · exact ⟨.inl (q.mono n r b c)⟩
  · exact ⟨.inr ⟨e, e1, h1, z, x _ _ _ y⟩⟩
theorem sx_bind {α : Type} {m : EM α} {f : α → SM} (q : OK (m env h) fun a h1 => SX (f a env h1) P X) : SX (sBind m f env h) P X := by
  obtain ⟨a, h1, e, q⟩ := q.get
  unfold sBind
  rw [e]
  exact q
theorem sx_if {t : EM Bool} {m1 m2 : SM} (q : OK (t env h) fun k h1 => if k = true then SX (m1 env h1) P X else SX (m2 env h1) P X) : SX (sIf t m1 m2 env h) P X := by
  unfold sIf
  refine sx_bind (OK.mono q ?_)
  intro k h1 z
  cases k
  · exact z
  · exact z
theorem sx_nil (q : P.n env h) : SX (sNil env h) P X := .sn (by simpa using q)
theorem sx_raise2 {x : Str} {m : EM (List Val)} (q : OK (m env h) fun vs h1 => ∃ v v2, vs = [v, v2] ∧ X ⟨x, [("at", v), ("word", v2)]⟩ env h1) : SX (Two.sRaise x m env h) P X := by
  unfold Two.sRaise
  refine sx_bind (OK.mono q ?_)
  rintro vs h1 ⟨v, v2, rfl, z⟩
  exact ⟨.inr ⟨_, _, _, rfl, z⟩⟩
theorem sx_fold {g : Tgt} {mb : SM} {vs : List Val} (I : Nat → ME → MH → Prop) (h0 : I 0 env h)
    (step : ∀ i v env h, vs[i]? = some v → I i env h → ∃ env1, g v env = some env1 ∧ SX (mb env1 h) ⟨I (i + 1), P.r, P.n, I (i + 1)⟩ X) (last : ∀ env h, I vs.length env h → P.n env h) : SX (foldG g mb vs env h) P X := by
  induction vs generalizing I env h with
  | nil => exact .sn ⟨last env h h0⟩
  | cons v vs ih =>
    obtain ⟨env1, e1, q⟩ := step 0 v env h rfl h0
    simp only [foldG, e1]
    have ih' := fun env h h0 => ih (fun i => I (i + 1)) (env := env) (h := h) h0 (fun i v env h e hI => step (i + 1) v env h (by simpa using e) hI) (fun env h hI => last env h (by simpa using hI))
    cases em : mb env1 h with
    | next e2 h2 =>
      rw [em] at q
      rcases q.run with q | ⟨_, _, _, z, _⟩
      · exact ih' e2 h2 q.run
      · cases z
    | cont e2 h2 =>
      rw [em] at q
      rcases q.run with q | ⟨_, _, _, z, _⟩
      · exact ih' e2 h2 q.run
      · cases z
    | brk e2 h2 =>
      rw [em] at q
      rcases q.run with q | ⟨_, _, _, z, _⟩
      · exact ⟨.inl ⟨q.run⟩⟩
      · cases z
    | ret v h2 =>
      rw [em] at q
      rcases q.run with q | ⟨_, _, _, z, _⟩
      · exact ⟨.inl ⟨q.run⟩⟩
      · cases z
    | exc _ _ _ =>
      rw [em] at q
      rcases q.run with q | ⟨_, _, _, z, x⟩
      · exact absurd q.run (by intro z; exact z)
      · cases z; exact ⟨.inr ⟨_, _, _, rfl, x⟩⟩
    | stuck =>
      rw [em] at q
      rcases q.run with q | ⟨_, _, _, z, x⟩
      · exact absurd q.run (by intro z; exact z)
      · cases z
theorem sx_for {src : EM Src} {g : Tgt} {mb : SM} {vs : List Val} (I : Nat → ME → MH → Prop) (hs : OK (src env h) fun s h1 => s = .items vs ∧ I 0 env h1)
    (step : ∀ i v env h, vs[i]? = some v → I i env h → ∃ env1, g v env = some env1 ∧ SX (mb env1 h) ⟨I (i + 1), P.r, P.n, I (i + 1)⟩ X) (last : ∀ env h, I vs.length env h → P.n env h) : SX (sFor src g mb env h) P X := by
  unfold sFor
  refine sx_bind (OK.mono hs ?_)
  rintro s h1 ⟨rfl, h0⟩
  rw [loopG_items0]
  exact sx_fold I h0 step last
theorem sx_step {m1 m2 : SM} (R : ME → MH → Prop) (q : SX (m1 env h) ⟨R, P.r, P.b, P.c⟩ X) (n : ∀ e h1, R e h1 → SX (m2 e h1) P X) : SX (sSeq m1 m2 env h) P X :=
  sx_seq (q.mono n (fun _ _ z => z) (fun _ _ z => z) (fun _ _ z => z) (fun _ _ _ z => z))
theorem fun_ox {n k : Nat} {m : SM} {args : List Val} {Q : Val → MH → Prop} {Y : Exc → MH → Prop} (hl : args.length = k) (q : SX (m (args.map Sl.val ++ List.replicate (n - k) Sl.no) h) ⟨fun _ h1 => Q .non h1, Q, fun _ _ => False, fun _ _ => False⟩ fun e _ h1 => Y e h1) : OX (mFun n k m args h) Q Y := by
  rcases q.run with q | ⟨e, e1, h1, z, y⟩
  · exact ⟨.inl ((fun_ok ..).mpr ⟨hl, q⟩)⟩
  · refine ⟨.inr ⟨e, h1, ?_, y⟩⟩
    unfold mFun
    rw [if_pos hl, z]
theorem sx_drop {F : FM} {m : EM (List Val)} (q : OK (m env h) fun as h1 => OX (F as h1) (fun _ h2 => P.n env h2) fun e h2 => X e env h2) : SX (sDrop (xFn F m) env h) P X := by
  obtain ⟨as, h1, ea, q⟩ := q.get
  have e1 : xFn F m env h = F as h1 := by unfold xFn; rw [ea]; rfl
  rcases q.run with q | ⟨e, h2, z, x⟩
  · refine ⟨.inl ?_⟩
    rw [sn_drop, e1]
    exact q
  · refine ⟨.inr ⟨e, env, h2, ?_, x⟩⟩
    unfold sDrop sBind
    rw [e1, z]
theorem sx_told {s : Val} {F : FM} {m : EM (List Val)} (q : OK (m env h) fun as h1 => OX (F as h1) (fun v h2 => P.r (.tup [s, v]) h2) fun e h2 => X e env h2) : SX (sRet (xTup (vCons (xC s) (vCons (xFn F m) vNil))) env h) P X := by
  obtain ⟨as, h1, ea, q⟩ := q.get
  have e1 : xFn F m env h = F as h1 := by unfold xFn; rw [ea]; rfl
  rcases q.run with q | ⟨e, h2, z, x⟩
  · refine ⟨.inl ?_⟩
    obtain ⟨v, h2, ev, q⟩ := q.get
    rw [sn_retS, ok_tup, ok_vCons, ok_c, ok_vCons, e1, ev, ok_ok, ok_vNil]
    exact ⟨by simp, q⟩
  · refine ⟨.inr ⟨e, env, h2, ?_, x⟩⟩
    have e2 : vCons (xFn F m) vNil env h = .exc e h2 := by unfold vCons; rw [e1, z]; rfl
    have e3 : vCons (xC s) (vCons (xFn F m) vNil) env h = .exc e h2 := by
      show ((xC s env h).bind fun a h1 => (vCons (xFn F m) vNil env h1).bind fun as h2 => .ok (a :: as) h2) = _
      unfold xC
      rw [Out.bind_ok, e2]
      rfl
    have e4 : xTup (vCons (xC s) (vCons (xFn F m) vNil)) env h = .exc e h2 := by unfold xTup; rw [e3]; rfl
    unfold sRet sBind
    rw [e4]
theorem sn_tryS {cs : List Str} {i : Nat} {mb ms : SM} (q : SX (mb env h) P fun e env1 h1 => e.c ∈ cs ∧ SN (ms ((wipeX env1).set i (.exn e)) h1) ⟨fun e2 h2 => P.n ((wipeX e2).set i .no) h2, P.r, fun e2 h2 => P.b ((wipeX e2).set i .no) h2, fun e2 h2 => P.c ((wipeX e2).set i .no) h2⟩) : SN (sTry cs i mb ms env h) P := by
  unfold sTry
  rcases q.run with q | ⟨e, env1, h1, z, hc, hs⟩
  · cases e : mb env h with
    | exc e1 env1 h1 => rw [e] at q; exact absurd q.run (by intro z; exact z)
    | next e1 h1 => rw [e] at q; exact q
    | ret v h1 => rw [e] at q; exact q
    | brk e1 h1 => rw [e] at q; exact q
    | cont e1 h1 => rw [e] at q; exact q
    | stuck => rw [e] at q; exact q
  · rw [z]
    simp only [if_pos hc]
    cases e3 : ms ((wipeX env1).set i (.exn e)) h1 with
    | next e2 h2 => rw [e3] at hs; exact ⟨hs.run⟩
    | ret v h2 => rw [e3] at hs; exact ⟨hs.run⟩
    | brk e2 h2 => rw [e3] at hs; exact ⟨hs.run⟩
    | cont e2 h2 => rw [e3] at hs; exact ⟨hs.run⟩
    | exc e2 e4 h2 => rw [e3] at hs; exact absurd hs.run (by intro z; exact z)
    | stuck => rw [e3] at hs; exact absurd hs.run (by intro z; exact z)
theorem sn_try0 {cs : List Str} {mb ms : SM} (q : SX (mb env h) P fun e env1 h1 => e.c ∈ cs ∧ SN (ms (wipeX env1) h1) ⟨fun e2 h2 => P.n (wipeX e2) h2, P.r, fun e2 h2 => P.b (wipeX e2) h2, fun e2 h2 => P.c (wipeX e2) h2⟩) : SN (sTry0 cs mb ms env h) P := by
  unfold sTry0
  rcases q.run with q | ⟨e, env1, h1, z, hc, hs⟩
  · cases e : mb env h with
    | exc e1 env1 h1 => rw [e] at q; exact absurd q.run (by intro z; exact z)
    | next e1 h1 => rw [e] at q; exact q
    | ret v h1 => rw [e] at q; exact q
    | brk e1 h1 => rw [e] at q; exact q
    | cont e1 h1 => rw [e] at q; exact q
    | stuck => rw [e] at q; exact q
  · rw [z]
    simp only [if_pos hc]
    cases e3 : ms (wipeX env1) h1 with
    | next e2 h2 => rw [e3] at hs; exact ⟨hs.run⟩
    | ret v h2 => rw [e3] at hs; exact ⟨hs.run⟩
    | brk e2 h2 => rw [e3] at hs; exact ⟨hs.run⟩
    | cont e2 h2 => rw [e3] at hs; exact ⟨hs.run⟩
    | exc e2 e4 h2 => rw [e3] at hs; exact absurd hs.run (by intro z; exact z)
    | stuck => rw [e3] at hs; exact absurd hs.run (by intro z; exact z)
end
end Mi

set_option Elab.async false
set_option linter.all false
set_option maxRecDepth 100000
set_option maxHeartbeats 4000000
set_option autoImplicit false
namespace HT
open PySem L2 Mi
def Scr (is : List Int) (v : Val) (h : MH) : Prop := v = .kls is ∨ ∃ n, v = .ref n ∧ h[n]? = some (.frz (is.map .int))
theorem str_at {s : Str} {n : Nat} (hs : s.length = n) {r : Int} (h0 : 0 ≤ r) (h1 : r < n) : ∃ c, L2.atI s.cps.toList r = some c := by
  rw [atI_nn _ h0]
  have : r.toNat < s.cps.toList.length := by
    have e : s.cps.size = n := hs
    simp [e]; omega
  exact ⟨_, List.getElem?_eq_getElem this⟩
theorem len_app (a b : Str) : (a ++ b).length = a.length + b.length := by
  show (Str.length _) = _
  first | exact Array.size_append .. | simp [Str.length, HAppend.hAppend, Append.append]
theorem len_one (c : Nat) : (⟨#[c]⟩ : Str).length = 1 := rfl
theorem tup_at {vs : List Val} {r : Int} (h0 : 0 ≤ r) (h1 : r < vs.length) : ∃ v ∈ vs, L2.atI vs r = some v := by
  rw [atI_nn _ h0]
  have : r.toNat < vs.length := by omega
  exact ⟨_, List.getElem_mem this, List.getElem?_eq_getElem this⟩
theorem signs_len : (Str.ofString "abcdefghijklmnopqrstuvwxyz0123456789").length = 36 := by decide +kernel
theorem s4_len : (Str.ofString "s4").length = 2 := by decide +kernel
theorem kept_len : ∀ v ∈ [Val.str (Str.ofString "in"), Val.str (Str.ofString "out"), Val.str (Str.ofString "do"), Val.str (Str.ofString "part"), Val.str (Str.ofString "turn"), Val.str (Str.ofString "home"), Val.str (Str.ofString "repeat"), Val.str (Str.ofString "cylinde")], ∃ s, v = .str s ∧ s.length ≤ 7 := by
  intro v hv
  simp at hv
  rcases hv with h | h | h | h | h | h | h | h <;> exact ⟨_, h, by decide +kernel⟩
theorem notIn_eq {a b : Opd} {h : MH} {k : Bool} {Q : Val → MH → Prop} (e : fInB a b h = some k) : RK (fNotIn a b h) Q ↔ Q (.bl (!k)) h := by
  unfold fNotIn; rw [e]; simp
theorem mapM_strs_pd (h : MH) (n : Nat) : ∀ ss : List Str, (ss.map Val.str).mapM (pd h (n + 1)) = some (ss.map PyData.str)
  | [] => rfl
  | s :: ss => by
    rw [List.map_cons, List.mapM_cons, mapM_strs_pd h n ss]
    rfl
theorem notIn_strs (s : Str) (ss : List Str) (h : MH) (Q : Val → MH → Prop) : RK (fNotIn (.val (.str s)) (.cell (.lst (ss.map .str))) h) Q ↔ Q (.bl (!((ss.map PyData.str).any fun z => PyData.eqv z (.str s)))) h := by
  refine notIn_eq ?_
  unfold fInB
  simp only [pdO]
  rw [mapM_strs_pd h 48 ss]
  rfl
theorem notIn_strsT (s : Str) (ss : List Str) (h : MH) (Q : Val → MH → Prop) : RK (fNotIn (.val (.str s)) (.val (.tup (ss.map .str))) h) Q ↔ Q (.bl (!((ss.map PyData.str).any fun z => PyData.eqv z (.str s)))) h := by
  refine notIn_eq ?_
  unfold fInB
  have e : pdO h (.val (.tup (ss.map .str))) = some (.tuple (ss.map .str)) := by
    show ((ss.map Val.str).mapM (pd h 49)).map PyData.tuple = _
    rw [mapM_strs_pd h 48 ss]; rfl
  simp only [e]
  rfl
theorem kept_map : [Val.str (Str.ofString "cylinder"), Val.str (Str.ofString "do"), Val.str (Str.ofString "home"), Val.str (Str.ofString "in"), Val.str (Str.ofString "out"), Val.str (Str.ofString "part"), Val.str (Str.ofString "repeat"), Val.str (Str.ofString "turn")] = List.map Val.str [Str.ofString "cylinder", Str.ofString "do", Str.ofString "home", Str.ofString "in", Str.ofString "out", Str.ofString "part", Str.ofString "repeat", Str.ofString "turn"] := rfl
theorem abc_len : (Str.ofString "abcdefghijklmnopqrst").length = 20 := by decide +kernel
theorem zero_len : (Str.ofString "0").length = 1 := by decide +kernel
theorem cutS_len (z : Str) (lo hi : Option Int) : (cutS z lo hi).length = min (HT.sIx z.length z.length hi - HT.sIx z.length 0 lo) (z.length - HT.sIx z.length 0 lo) := by
  unfold cutS
  show Array.size _ = _
  simp [Str.length]
theorem sorted_strs (ss : List Str) (hs : ss.length < 64) (h : MH) (Q : Cell → MH → Prop) (hq : ∀ ss' : List Str, Q (.lst (ss'.map .str)) h) : RK (fSorted [.cell (.lst (ss.map .str))] h) Q := by
  unfold fSorted
  simp only [lisOf]
  cases ss with
  | nil =>
    have e : sortV (List.map Val.str []) = some [] := by simp [sortV, sortI]
    rw [e]
    exact (rk_some ..).mpr (hq [])
  | cons s ss =>
    have e1 : ((s :: ss).map Val.str).mapM intOf = none := by rw [List.map_cons, List.mapM_cons]; rfl
    have e2 : ((s :: ss).map Val.str).mapM prOf = none := by rw [List.map_cons, List.mapM_cons]; rfl
    have e3 : ∀ l : List Str, (l.map Val.str).mapM strOf = some l := by
      intro l
      induction l with
      | nil => rfl
      | cons x l ih => rw [List.map_cons, List.mapM_cons, ih]; rfl
    unfold sortV
    rw [e1, e2, e3]
    simp only [if_pos hs]
    exact (rk_some ..).mpr (hq _)
def nv (m : Nat) : Val := .int (m : Int)
def nvs (ms : List Nat) : List Val := ms.map nv
@[simp] theorem nvs_len (ms : List Nat) : (nvs ms).length = ms.length := by simp [nvs]
theorem nvs_app (a b : List Nat) : nvs (a ++ b) = nvs a ++ nvs b := by simp [nvs]
theorem nvs_get {ms : List Nat} {i : Nat} {v : Val} (h : (nvs ms)[i]? = some v) : ∃ m, ms[i]? = some m ∧ v = .int (m : Int) := by
  unfold nvs at h
  rw [List.getElem?_map] at h
  obtain ⟨m, e, rfl⟩ := Option.map_eq_some_iff.mp h
  exact ⟨m, e, rfl⟩
theorem nvs_at {ms : List Nat} {i : Nat} (h : i < ms.length) : (nvs ms)[i]? = some (.int (ms[i] : Nat)) := by
  unfold nvs
  rw [List.getElem?_map, List.getElem?_eq_getElem h]; rfl
def xorAll (ms : List Nat) : Nat := ms.foldl (· ^^^ ·) 0
theorem xorAll_snoc (ms : List Nat) (m : Nat) : xorAll (ms ++ [m]) = xorAll ms ^^^ m := by simp [xorAll]
theorem foldl_xor (ms : List Nat) : ∀ a : Nat, ms.foldl (· ^^^ ·) a = a ^^^ xorAll ms := by
  induction ms with
  | nil => intro a; simp [xorAll]
  | cons m ms ih =>
    intro a
    unfold xorAll
    rw [List.foldl_cons, List.foldl_cons, ih, ih (0 ^^^ m), Nat.zero_xor, Nat.xor_assoc]
theorem xorAll_app (a b : List Nat) : xorAll (a ++ b) = xorAll a ^^^ xorAll b := by
  show List.foldl _ 0 (a ++ b) = _
  rw [List.foldl_append, foldl_xor]
  rfl
theorem xorAll_cons (m : Nat) (b : List Nat) : xorAll (m :: b) = m ^^^ xorAll b := by
  show List.foldl _ 0 (m :: b) = _
  rw [List.foldl_cons, foldl_xor, Nat.zero_xor]
theorem xorAll_lt {k : Nat} {ms : List Nat} (h : ∀ m ∈ ms, m < 2 ^ k) : xorAll ms < 2 ^ k := by
  induction ms with
  | nil => exact Nat.two_pow_pos k
  | cons m ms ih =>
    rw [xorAll_cons]
    exact Nat.xor_lt_two_pow (h m (List.mem_cons_self ..)) (ih fun x hx => h x (List.mem_cons_of_mem _ hx))
@[simp] theorem xor_nat (a b : Nat) : Builtin.bitXor (a : Int) (b : Int) = ((a ^^^ b : Nat) : Int) := by
  rw [Bits.bitXor_pp (by omega) (by omega)]; simp
@[simp] theorem or_nat (a b : Nat) : Builtin.bitOr (a : Int) (b : Int) = ((a ||| b : Nat) : Int) := by
  rw [Bits.bitOr_pp (by omega) (by omega)]; simp
theorem pow_nat (k : Nat) : (1 : Int) * 2 ^ ((k : Int)).toNat = ((2 ^ k : Nat) : Int) := by
  rw [Int.one_mul, Int.toNat_natCast]; simp
theorem mapM_nats_pd (h : MH) (n : Nat) : ∀ ms : List Nat, (nvs ms).mapM (pd h (n + 1)) = some (ms.map fun m : Nat => PyData.int m)
  | [] => rfl
  | s :: ss => by
    have ih := mapM_nats_pd h n ss
    unfold nvs at ih ⊢
    rw [List.map_cons, List.mapM_cons, ih]
    rfl
theorem eqvAll_nats : ∀ a b : List Nat, PyData.eqvAll (a.map fun m : Nat => PyData.int m) (b.map fun m : Nat => PyData.int m) = decide (a = b)
  | [], [] => rfl
  | [], _ :: _ => rfl
  | _ :: _, [] => rfl
  | x :: xs, y :: ys => by
    rw [List.map_cons, List.map_cons, PyData.eqvAll, PyData.eqv, eqvAll_nats xs ys]
    by_cases h : x = y
    · subst h; simp
    · have : ((x : Int) == (y : Int)) = false := by simp; omega
      simp [this, h]
theorem eq_lists {a b : Opd} {h : MH} {x y : List Nat} {Q : Val → MH → Prop} (ha : pdO h a = some (.list (x.map fun m : Nat => PyData.int m))) (hb : pdO h b = some (.list (y.map fun m : Nat => PyData.int m))) : RK (fEq a b h) Q ↔ Q (.bl (decide (x = y))) h := by
  unfold fEq
  rw [ha, hb]
  simp only
  rw [PyData.eqv, eqvAll_nats]
  exact rk_some ..
theorem pdO_cell (h : MH) (x : List Nat) : pdO h (.cell (.lst (nvs x))) = some (.list (x.map fun m : Nat => PyData.int m)) := by
  show ((nvs x).mapM (pd h 49)).map PyData.list = _
  rw [mapM_nats_pd h 48 x]; rfl
theorem pdO_ref {h : MH} {n : Nat} {x : List Nat} (e : h[n]? = some (.lst (nvs x))) : pdO h (.val (.ref n)) = some (.list (x.map fun m : Nat => PyData.int m)) := by
  show pd h 50 (.ref n) = _
  unfold pd
  simp only [e]
  rw [mapM_nats_pd h 48 x]; rfl
def Ms (h : MH) (v : Val) (ms : List Nat) : Prop := ∃ n, v = .ref n ∧ h[n]? = some (.lst (nvs ms))
def PureOf (ms ms' : List Nat) : Prop := ms' = ms ∨ ∃ k, 0 < k ∧ k < ms.length ∧ ms' = ms.take k ∧ xorAll ms' = 0 ∧ (List.replicate (ms.length / k) (ms.take k)).flatten = ms
theorem cut_take (ms : List Nat) (k : Nat) : cutM (nvs ms) none (some (k : Int)) = nvs (ms.take k) := by
  unfold cutM HT.sIx nvs
  simp
  rw [if_neg (by omega)]
  omega
theorem flat_nvs (k : Nat) (ms : List Nat) : (List.replicate k (nvs ms)).flatten = nvs (List.replicate k ms).flatten := by
  simp [nvs, List.map_flatten, List.map_replicate]
theorem rng_at {lo : Int} {n i : Nat} {x : Val} (h : (rngV lo n)[i]? = some x) : i < n ∧ x = .int (lo + i) := by
  rw [rngV_get] at h
  split at h
  · rename_i hz; exact ⟨hz, by cases h; rfl⟩
  · cases h
@[simp] theorem rng_len (lo : Int) (n : Nat) : (rngV lo n).length = n := by simp [rngV]
theorem last_at (h : MH) (c : Cell) : (h ++ [c])[h.length]? = some c := by simp
structure Closed (k : Nat) (ms ds ms' : List Nat) : Prop where
  pure : PureOf (ms ++ ds) ms'
  lt : ∀ m ∈ ms ++ ds, m < 2 ^ k
  x0 : xorAll (ms ++ ds) = 0
theorem cut_drop {ms : List Nat} {k : Nat} (hk : k ≤ ms.length) : cutM (nvs ms) (some (k : Int)) none = nvs (ms.drop k) := by
  unfold cutM HT.sIx nvs
  simp
  rw [if_neg (by omega), Nat.min_eq_left hk, List.take_of_length_le (by simp)]
def rot (k : Nat) (ms : List Nat) : List Nat := ms.drop k ++ ms.take k
structure Groups (k : Nat) (gs : List Nat) : Prop where
  lt : ∀ g ∈ gs, g < 2 ^ k
  ne : ∀ g ∈ gs, g ≠ 0
  dj : gs.Pairwise fun a b => a &&& b = 0
theorem rngV_nvs (n : Nat) : rngV 0 n = nvs (List.range n) := by
  unfold rngV nvs nv; simp
theorem ne_nil (gs : List Nat) (h : MH) (Q : Val → MH → Prop) : RK (fNe (.cell (.lst (nvs gs))) (.cell (.lst [])) h) Q ↔ Q (.bl (!decide (gs = []))) h := by
  unfold fNe
  rw [pdO_cell, show pdO h (.cell (.lst [])) = some (.list (([] : List Nat).map fun m : Nat => PyData.int m)) from pdO_cell h []]
  simp only
  rw [PyData.eqv, eqvAll_nats]
  exact rk_some ..
theorem bit_and_zero {g f : Nat} (h : g.testBit f = false) : g &&& 2 ^ f = 0 := by
  apply Nat.eq_of_testBit_eq
  intro i
  rw [Nat.testBit_and, Nat.testBit_two_pow, Nat.zero_testBit]
  by_cases e : f = i
  · subst e; simp [h]
  · simp [e]
theorem erase_map {α β : Type} (f : α → β) : ∀ (l : List α) (k : Nat), (l.map f).eraseIdx k = (l.eraseIdx k).map f
  | [], _ => rfl
  | _ :: _, 0 => rfl
  | x :: l, k + 1 => by
    show f x :: (l.map f).eraseIdx k = f x :: (l.eraseIdx k).map f
    rw [erase_map f l k]
theorem ixN_m1 (n : Nat) : L2.ixN (n + 1) (-1) = some n := by
  unfold L2.ixN
  rw [if_neg (by omega), if_pos (by omega)]
  congr 1
  omega
theorem Groups.app {k o : Nat} {gs : List Nat} (g : Groups k gs) (ho : 2 ^ o < 2 ^ k) (hb : ∀ x ∈ gs, x.testBit o = false) : Groups k (gs ++ [2 ^ o]) := by
  refine ⟨fun x hx => ?_, fun x hx => ?_, ?_⟩
  · rcases List.mem_append.mp hx with hx | hx
    · exact g.lt x hx
    · simp at hx; rw [hx]; exact ho
  · rcases List.mem_append.mp hx with hx | hx
    · exact g.ne x hx
    · simp at hx; rw [hx]; exact Nat.ne_of_gt (Nat.two_pow_pos o)
  · rw [List.pairwise_append]
    refine ⟨g.dj, List.pairwise_singleton _ _, fun a ha b hb' => ?_⟩
    simp at hb'
    rw [hb']
    exact bit_and_zero (hb a ha)
theorem Groups.last {k o l : Nat} {gs : List Nat} (g : Groups k (gs ++ [l])) (ho : 2 ^ o < 2 ^ k) (hb : ∀ x ∈ gs ++ [l], x.testBit o = false) : Groups k (gs ++ [l ||| 2 ^ o]) := by
  refine ⟨fun x hx => ?_, fun x hx => ?_, ?_⟩
  · rcases List.mem_append.mp hx with hx | hx
    · exact g.lt x (List.mem_append_left _ hx)
    · simp at hx; rw [hx]; exact Nat.or_lt_two_pow (g.lt l (by simp)) ho
  · rcases List.mem_append.mp hx with hx | hx
    · exact g.ne x (List.mem_append_left _ hx)
    · simp at hx
      rw [hx]
      intro z
      have := g.ne l (by simp)
      have e := congrArg (fun y => y.testBit o) z
      simp [Nat.testBit_or, Nat.testBit_two_pow_self] at e
  · have d := g.dj
    rw [List.pairwise_append] at d ⊢
    refine ⟨d.1, List.pairwise_singleton _ _, fun a ha b hb' => ?_⟩
    simp at hb'
    rw [hb', Nat.and_or_distrib_left, d.2.2 a ha l (by simp), bit_and_zero (hb a (List.mem_append_left _ ha))]
    rfl
theorem PureOf.sub {ms ms' : List Nat} (h : PureOf ms ms') : ∀ m ∈ ms', m ∈ ms := by
  rcases h with rfl | ⟨k, _, _, rfl, _⟩
  · exact fun _ h => h
  · exact fun m hm => List.mem_of_mem_take hm
theorem PureOf.pos {ms ms' : List Nat} (h : PureOf ms ms') (h0 : 0 < ms.length) : 0 < ms'.length ∧ ms'.length ≤ ms.length := by
  rcases h with rfl | ⟨k, h1, h2, rfl, _⟩
  · exact ⟨h0, Nat.le_refl _⟩
  · rw [List.length_take]; omega
structure Unclean (k : Nat) (ms : List Nat) : Prop where
  lt : ∀ m ∈ ms, m < 2 ^ k
  x0 : xorAll ms = 0
  ex : ∃ a f ds, a < k ∧ f ≠ 2 ^ a ∧ PureOf (2 ^ a :: 2 ^ a :: f :: ds) ms
def bv (n x : Nat) : List Val := (List.range n).map fun k => .int (if x.testBit k then 1 else 0)
def sl (n m : Nat) : List Nat := (List.range n).filter m.testBit
def sv (n m : Nat) : Val := .tup (nvs (sl n m))
@[simp] theorem bv_len (n x : Nat) : (bv n x).length = n := by simp [bv]
theorem bv_at {n x k : Nat} (h : k < n) : (bv n x)[k]? = some (.int (if x.testBit k then 1 else 0)) := by
  unfold bv
  rw [List.getElem?_map, List.getElem?_range h]; rfl
theorem bv_snoc (n x : Nat) (r : Nat) (hr : r < 2) (hx : x < 2 ^ n) : ∃ y, y < 2 ^ (n + 1) ∧ bv n x ++ [.int (r : Int)] = bv (n + 1) y := by
  refine ⟨x ||| (r <<< n), ?_, ?_⟩
  · refine Nat.or_lt_two_pow (Nat.lt_trans hx (Nat.pow_lt_pow_right (by omega) (by omega))) ?_
    rw [Nat.shiftLeft_eq]
    have : r = 0 ∨ r = 1 := by omega
    have := Nat.two_pow_pos n
    rcases ‹r = 0 ∨ r = 1› with e | e <;> subst e <;> rw [Nat.pow_succ] <;> omega
  · unfold bv
    rw [List.range_succ, List.map_append]
    congr 1
    · apply List.map_congr_left
      intro k hk
      rw [List.mem_range] at hk
      rw [Nat.testBit_or, Nat.testBit_shiftLeft]
      simp [show ¬ (n ≤ k) by omega]
    · simp
      rw [Nat.testBit_lt_two_pow hx]
      have : r = 0 ∨ r = 1 := by omega
      rcases this with e | e <;> subst e <;> simp
theorem bit_cond (m k : Nat) : (Builtin.bitAnd ((m : Int) / 2 ^ k) 1 = 1) ↔ m.testBit k = true := by
  have e : (m : Int) / 2 ^ k = ((m / 2 ^ k : Nat) : Int) := by simp
  rw [e, PyProof.Rows.bitAnd_m1, Nat.testBit_eq_decide_div_mod_eq, decide_eq_true_eq]
  omega
def tv (ns : List Str) (n x : Nat) (ms : List Nat) : Val := .tup [.tup (ns.map .str), .tup (bv n x), .tup (ms.map (sv n))]
def bitsX (l : List Nat) : Nat := l.foldl (fun a k => a ^^^ 2 ^ k) 0
theorem bitsX_snoc (l : List Nat) (k : Nat) : bitsX (l ++ [k]) = bitsX l ^^^ 2 ^ k := by simp [bitsX]
theorem bitsX_foldl (l : List Nat) : ∀ a : Nat, l.foldl (fun a k => a ^^^ 2 ^ k) a = a ^^^ bitsX l := by
  induction l with
  | nil => intro a; simp [bitsX]
  | cons m ms ih =>
    intro a
    unfold bitsX
    rw [List.foldl_cons, List.foldl_cons, ih, ih (0 ^^^ _), Nat.zero_xor, Nat.xor_assoc]
theorem bitsX_test : ∀ (l : List Nat), l.Nodup → ∀ j, (bitsX l).testBit j = decide (j ∈ l)
  | [], _, j => by simp [bitsX]
  | k :: l, h, j => by
    rw [List.nodup_cons] at h
    have e : bitsX (k :: l) = 2 ^ k ^^^ bitsX l := by
      unfold bitsX
      rw [List.foldl_cons, bitsX_foldl, Nat.zero_xor]; rfl
    rw [e, Nat.testBit_xor, Nat.testBit_two_pow, bitsX_test l h.2 j]
    by_cases hj : k = j
    · subst hj; simp [h.1]
    · simp [hj, Ne.symm hj]
theorem sl_nodup (n m : Nat) : (sl n m).Nodup := List.Pairwise.filter _ List.nodup_range
theorem bitsX_sl {n m : Nat} (h : m < 2 ^ n) : bitsX (sl n m) = m := by
  apply Nat.eq_of_testBit_eq
  intro j
  rw [bitsX_test _ (sl_nodup n m)]
  unfold sl
  simp only [List.mem_filter, List.mem_range]
  by_cases hj : j < n
  · simp [hj]
  · have : m.testBit j = false := Nat.testBit_lt_two_pow (Nat.lt_of_lt_of_le h (Nat.pow_le_pow_right (by omega) (by omega)))
    simp [hj, this]
theorem bv_set {n y k : Nat} (hk : k < n) : (bv n y).set k (.int (1 - if y.testBit k then 1 else 0)) = bv n (y ^^^ 2 ^ k) := by
  apply List.ext_getElem?
  intro j
  by_cases hj : j < n
  · rw [bv_at hj]
    by_cases e : k = j
    · subst e
      rw [List.getElem?_set_self (by simpa using hk), Nat.testBit_xor, Nat.testBit_two_pow_self]
      cases y.testBit k <;> rfl
    · rw [List.getElem?_set_ne e, bv_at hj, Nat.testBit_xor, Nat.testBit_two_pow]
      simp [e]
  · rw [List.getElem?_eq_none (by simp; omega), List.getElem?_eq_none (by simp; omega)]
def co (x : Nat) (ms : List Nat) (i : Nat) : Nat := x ^^^ xorAll (ms.take i)
def cv (n x : Nat) (ms : List Nat) (k : Nat) : List Val := (List.range k).map fun i => .tup (bv n (co x ms i))
@[simp] theorem cv_len (n x : Nat) (ms : List Nat) (k : Nat) : (cv n x ms k).length = k := by simp [cv]
theorem cv_at {n x : Nat} {ms : List Nat} {k i : Nat} (h : i < k) : (cv n x ms k)[i]? = some (.tup (bv n (co x ms i))) := by
  unfold cv
  rw [List.getElem?_map, List.getElem?_range h]; rfl
theorem cv_snoc (n x : Nat) (ms : List Nat) (k : Nat) : cv n x ms (k + 1) = cv n x ms k ++ [.tup (bv n (co x ms k))] := by
  unfold cv; rw [List.range_succ, List.map_append]; rfl
theorem co_lt {n x : Nat} {ms : List Nat} (hx : x < 2 ^ n) (hm : ∀ m ∈ ms, m < 2 ^ n) (i : Nat) : co x ms i < 2 ^ n := Nat.xor_lt_two_pow hx (xorAll_lt fun m h => hm m (List.mem_of_mem_take h))
theorem mapM_ints_pd (h : MH) (n : Nat) : ∀ ms : List Int, (ms.map Val.int).mapM (pd h (n + 1)) = some (ms.map PyData.int)
  | [] => rfl
  | s :: ss => by
    rw [List.map_cons, List.mapM_cons, mapM_ints_pd h n ss]
    rfl
theorem eqvAll_ints : ∀ a b : List Int, PyData.eqvAll (a.map PyData.int) (b.map PyData.int) = decide (a = b)
  | [], [] => rfl
  | [], _ :: _ => rfl
  | _ :: _, [] => rfl
  | x :: xs, y :: ys => by
    rw [List.map_cons, List.map_cons, PyData.eqvAll, PyData.eqv, eqvAll_ints xs ys]
    by_cases h : x = y
    · subst h; simp
    · simp [h]
theorem pdO_tupI (h : MH) (x : List Int) : pdO h (.val (.tup (x.map .int))) = some (.tuple (x.map PyData.int)) := by
  show ((x.map Val.int).mapM (pd h 49)).map PyData.tuple = _
  rw [mapM_ints_pd h 48 x]; rfl
theorem ne_tupI (x y : List Int) (h : MH) (Q : Val → MH → Prop) : RK (fNe (.val (.tup (x.map .int))) (.val (.tup (y.map .int))) h) Q ↔ Q (.bl (!decide (x = y))) h := by
  unfold fNe
  rw [pdO_tupI, pdO_tupI]
  simp only
  rw [PyData.eqv, eqvAll_ints]
  exact rk_some ..
def ba (n x : Nat) : List Int := (List.range n).map fun k => if x.testBit k then 1 else 0
theorem bv_ba (n x : Nat) : bv n x = (ba n x).map .int := by
  unfold bv ba; rw [List.map_map]; rfl
theorem ba_inj {n a b : Nat} (ha : a < 2 ^ n) (hb : b < 2 ^ n) : ba n a = ba n b ↔ a = b := by
  constructor
  · intro h
    apply Nat.eq_of_testBit_eq
    intro j
    by_cases hj : j < n
    · have e := congrArg (fun l => l[j]?) h
      simp only [ba, List.getElem?_map, List.getElem?_range hj, Option.map_some, Option.some.injEq] at e
      cases q : a.testBit j <;> cases r : b.testBit j <;> simp [q, r] at e <;> rfl
    · have hp : 2 ^ n ≤ 2 ^ j := Nat.pow_le_pow_right (by omega) (by omega)
      rw [Nat.testBit_lt_two_pow (Nat.lt_of_lt_of_le ha hp), Nat.testBit_lt_two_pow (Nat.lt_of_lt_of_le hb hp)]
  · intro h; rw [h]
theorem ne_bv {n a b : Nat} (ha : a < 2 ^ n) (hb : b < 2 ^ n) (h : MH) (Q : Val → MH → Prop) : RK (fNe (.val (.tup (bv n a))) (.val (.tup (bv n b))) h) Q ↔ Q (.bl (!decide (a = b))) h := by
  rw [bv_ba, bv_ba, ne_tupI]
  simp only [ba_inj ha hb]
theorem any_nats (ms : List Nat) (k : Nat) : ((ms.map fun m : Nat => PyData.int m).any fun z => PyData.eqv z (.int (k : Int))) = decide (k ∈ ms) := by
  induction ms with
  | nil => rfl
  | cons m ms ih =>
    rw [List.map_cons, List.any_cons, ih, PyData.eqv]
    by_cases h : m = k
    · subst h; simp
    · have : ((m : Int) == (k : Int)) = false := by simp; omega
      simp [this, Ne.symm h]
theorem notIn_sv (n m k : Nat) (h : MH) (Q : Val → MH → Prop) : RK (fNotIn (.val (.int (k : Int))) (.val (sv n m)) h) Q ↔ Q (.bl (!decide (k ∈ sl n m))) h := by
  refine notIn_eq ?_
  have e : pdO h (.val (sv n m)) = some (.tuple ((sl n m).map fun m : Nat => PyData.int m)) := by
    show ((nvs (sl n m)).mapM (pd h 49)).map PyData.tuple = _
    rw [mapM_nats_pd h 48]; rfl
  unfold fInB
  simp only [e]
  show (pdO h (.val (.int k))).map _ = _
  show some (((sl n m).map fun m : Nat => PyData.int m).any fun z => PyData.eqv z (.int (k : Int))) = _
  rw [any_nats]
theorem mem_sl {n m k : Nat} (hk : k < n) : k ∈ sl n m ↔ m.testBit k = true := by
  unfold sl; simp [hk]
def Std (n c m e r : Nat) : Prop := (∀ k, k < n → m.testBit k = true ∨ r.testBit k = c.testBit k) ∧ r ≠ e
instance (n c m e r : Nat) : Decidable (Std n c m e r) := by unfold Std; exact inferInstance
def pv (p : Nat × Nat) : Val := .tup [.int (p.1 : Nat), .int (p.2 : Nat)]
def rowP (P : Nat → Nat → Bool) (i k : Nat) : List (Nat × Nat) := ((List.range k).filter (P i)).map fun j => (i, j)
def clP (P : Nat → Nat → Bool) (N k : Nat) : List (Nat × Nat) := (List.range k).flatMap fun i => rowP P i N
theorem rowP_succ (P : Nat → Nat → Bool) (i k : Nat) : rowP P i (k + 1) = rowP P i k ++ if P i k = true then [(i, k)] else [] := by
  unfold rowP
  rw [List.range_succ, List.filter_append, List.map_append]
  congr 1
  cases h : P i k <;> simp [h]
theorem clP_succ (P : Nat → Nat → Bool) (N k : Nat) : clP P N (k + 1) = clP P N k ++ rowP P k N := by
  unfold clP; rw [List.range_succ, List.flatMap_append]; simp
theorem rowP_len (P : Nat → Nat → Bool) (i k : Nat) : (rowP P i k).length ≤ k := by
  unfold rowP
  rw [List.length_map]
  have := List.length_filter_le (P i) (List.range k)
  simpa using this
theorem clP_len (P : Nat → Nat → Bool) (N : Nat) : ∀ k, (clP P N k).length ≤ k * N
  | 0 => by simp [clP]
  | k + 1 => by
    rw [clP_succ, List.length_append, Nat.add_mul, Nat.one_mul]
    have := clP_len P N k
    have := rowP_len P k N
    omega
theorem mem_clP {P : Nat → Nat → Bool} {N k i j : Nat} : (i, j) ∈ clP P N k ↔ i < k ∧ j < N ∧ P i j = true := by
  unfold clP rowP
  simp only [List.mem_flatMap, List.mem_range, List.mem_map, List.mem_filter, Prod.mk.injEq]
  constructor
  · rintro ⟨a, ha, b, ⟨hb, hp⟩, rfl, rfl⟩
    exact ⟨ha, hb, hp⟩
  · rintro ⟨h1, h2, h3⟩
    exact ⟨i, h1, j, ⟨h2, h3⟩, rfl, rfl⟩
def cP (n x : Nat) (ms : List Nat) (i j : Nat) : Bool := decide (j ≠ i ∧ Std n (co x ms i) (ms.getD i 0) (co x ms ((i + 1) % ms.length)) (co x ms j))
abbrev PI2 := Int × Int
def dA (N i j : Nat) : PI2 := (((i : Int) + 1) % N, ((i : Int) + 1) % N + ((j : Int) - i - 2) % N)
def dB (N i j : Nat) : PI2 := (((j : Int) + 1) % N, ((j : Int) + 1) % N + ((i : Int) - j - 1) % N)
def dR (N s : Nat) : PI2 := (((s : Int) + 1) % N, ((s : Int) + 1) % N + N - 2)
theorem emod_shift (a b n : Int) : (a - b % n) % n = (a - b) % n := by
  have e : b % n = b - n * (b / n) := Int.emod_def b n
  rw [e, show a - (b - n * (b / n)) = a - b + n * (b / n) by omega, Int.add_mul_emod_self_left]
def tlC (N : Nat) (cl : List (Nat × Nat)) : List PI2 := cl.flatMap fun p => [dA N p.1 p.2, dB N p.1 p.2]
def tlR (N : Nat) : List PI2 := (List.range N).map (dR N)
theorem tlC_len (N : Nat) : ∀ cl : List (Nat × Nat), (tlC N cl).length = 2 * cl.length
  | [] => rfl
  | p :: cl => by
    have := tlC_len N cl
    unfold tlC at this ⊢
    rw [List.flatMap_cons, List.length_append, this, List.length_cons]
    simp
    omega
theorem tlC_snoc (N : Nat) (cl : List (Nat × Nat)) (p : Nat × Nat) : tlC N (cl ++ [p]) = tlC N cl ++ [dA N p.1 p.2, dB N p.1 p.2] := by
  unfold tlC; rw [List.flatMap_append]; simp
theorem tlR_succ (N k : Nat) : (List.range (k + 1)).map (dR N) = (List.range k).map (dR N) ++ [dR N k] := by
  rw [List.range_succ, List.map_append]; rfl
def ddF (acc : List PI2) (d : PI2) : List PI2 := if acc.getLast? = some d then acc else acc ++ [d]
def SL (a b : PI2) : Prop := leP a b ∧ a ≠ b
theorem leP_anti {a b : PI2} (h1 : leP a b) (h2 : leP b a) : a = b := by
  unfold leP at *
  exact Prod.ext (by omega) (by omega)
theorem dd_ok : ∀ (l acc : List PI2), acc.Pairwise SL → l.Pairwise leP → (∀ a ∈ acc, ∀ b ∈ l, leP a b) → (l.foldl ddF acc).Pairwise SL ∧ ∀ x, x ∈ l.foldl ddF acc ↔ x ∈ acc ∨ x ∈ l
  | [], acc, h, _, _ => ⟨h, by simp⟩
  | d :: l, acc, h, hl, hal => by
    rw [List.foldl_cons]
    rw [List.pairwise_cons] at hl
    unfold ddF
    by_cases e : acc.getLast? = some d
    · rw [if_pos e]
      obtain ⟨i1, i2⟩ := dd_ok l acc h hl.2 fun a ha b hb => hal a ha b (List.mem_cons_of_mem _ hb)
      refine ⟨i1, fun x => ?_⟩
      rw [show (fun acc d => if acc.getLast? = some d then acc else acc ++ [d]) = ddF from rfl, i2 x]
      have hd : d ∈ acc := List.mem_of_getLast? e
      constructor
      · rintro (h | h)
        · exact .inl h
        · exact .inr (List.mem_cons_of_mem _ h)
      · rintro (h | h)
        · exact .inl h
        · rcases List.mem_cons.mp h with h | h
          · subst h; exact .inl hd
          · exact .inr h
    · rw [if_neg e]
      have hlt : ∀ a ∈ acc, SL a d := fun a ha => by
        refine ⟨hal a ha d (List.mem_cons_self ..), fun z => ?_⟩
        subst z
        rcases List.eq_nil_or_concat acc with hn | ⟨init, y, hy⟩
        · subst hn; cases ha
        · have hy : acc = init ++ [y] := by simpa using hy
          subst hy
          rw [List.getLast?_append] at e
          simp at e
          have hyd := hal y (by simp) a (List.mem_cons_self ..)
          rcases List.mem_append.mp ha with h1 | h1
          · rw [List.pairwise_append] at h
            have := h.2.2 a h1 y (by simp)
            exact this.2 (leP_anti this.1 hyd)
          · simp at h1; exact e h1.symm
      obtain ⟨i1, i2⟩ := dd_ok l (acc ++ [d]) (by
        rw [List.pairwise_append]
        exact ⟨h, List.pairwise_singleton _ _, fun a ha b hb => by simp at hb; subst hb; exact hlt a ha⟩) hl.2 (fun a ha b hb => by
          rcases List.mem_append.mp ha with ha | ha
          · exact hal a ha b (List.mem_cons_of_mem _ hb)
          · simp at ha; subst ha; exact hl.1 b hb)
      refine ⟨i1, fun x => ?_⟩
      rw [show (fun acc d => if acc.getLast? = some d then acc else acc ++ [d]) = ddF from rfl, i2 x]
      simp [or_assoc]
def dem (N : Nat) (cl : List (Nat × Nat)) : List PI2 := if cl = [] then [] else (sortP (tlR N ++ tlC N cl)).foldl ddF []
def kadd (acc : List PI2) (d : PI2) : List PI2 := if d ∈ acc then acc else acc ++ [d]
theorem kadd_ok : ∀ (l acc : List PI2), acc.Nodup → (l.foldl kadd acc).Nodup ∧ ∀ x, x ∈ l.foldl kadd acc ↔ x ∈ acc ∨ x ∈ l
  | [], acc, h => ⟨h, by simp⟩
  | d :: l, acc, h => by
    rw [List.foldl_cons]
    unfold kadd
    by_cases e : d ∈ acc
    · rw [if_pos e]
      obtain ⟨i1, i2⟩ := kadd_ok l acc h
      refine ⟨i1, fun x => ?_⟩
      rw [show (fun acc d => if d ∈ acc then acc else acc ++ [d]) = kadd from rfl, i2 x]
      constructor
      · rintro (h | h)
        · exact .inl h
        · exact .inr (List.mem_cons_of_mem _ h)
      · rintro (h | h)
        · exact .inl h
        · rcases List.mem_cons.mp h with h | h
          · subst h; exact .inl e
          · exact .inr h
    · rw [if_neg e]
      obtain ⟨i1, i2⟩ := kadd_ok l (acc ++ [d]) (by
        rw [List.nodup_append]
        exact ⟨h, by simp, fun a ha b hb => by simp at hb; subst hb; exact fun z => e (z ▸ ha)⟩)
      refine ⟨i1, fun x => ?_⟩
      rw [show (fun acc d => if d ∈ acc then acc else acc ++ [d]) = kadd from rfl, i2 x]
      simp [or_assoc]
def lawDem (N : Nat) (cl : List (Nat × Nat)) : List PI2 := if cl = [] then [] else sortP ((tlC N cl ++ tlR N).foldl kadd [])
theorem dem_law (N : Nat) (cl : List (Nat × Nat)) : dem N cl = lawDem N cl := by
  unfold dem lawDem
  split
  · rfl
  · obtain ⟨a1, a2⟩ := dd_ok (sortP (tlR N ++ tlC N cl)) [] .nil (sortP_le _) (by simp)
    obtain ⟨b1, b2⟩ := kadd_ok (tlC N cl ++ tlR N) [] .nil
    have an : ((sortP (tlR N ++ tlC N cl)).foldl ddF []).Nodup := a1.imp fun h => h.2
    refine sortP_uniq ?_ (a1.imp fun h => h.1)
    refine (List.perm_ext_iff_of_nodup an b1).mpr fun x => ?_
    rw [a2, b2, (sortP_perm _).mem_iff]
    simp only [List.not_mem_nil, false_or, List.mem_append]
    exact or_comm
theorem mapM_int_prs (d : PI2) (ps : List PI2) : ((d :: ps).map prV).mapM intOf = none := by
  rw [List.map_cons, List.mapM_cons]; rfl
theorem mapM_pr_prs : ∀ ps : List PI2, (ps.map prV).mapM prOf = some ps
  | [] => rfl
  | d :: ps => by rw [List.map_cons, List.mapM_cons, mapM_pr_prs ps]; rfl
theorem sort_prs (ps : List PI2) (h : MH) : mSort (.lst (ps.map prV)) [] h = some (.non, .lst ((sortP ps).map prV)) := by
  cases ps with
  | nil =>
    unfold mSort
    simp [sortI, sortP]
  | cons d ps =>
    unfold mSort
    simp only [mapM_int_prs, mapM_pr_prs]
    rfl
theorem sorted_prs (ps : List PI2) (h : MH) (Q : Cell → MH → Prop) : RK (fSorted [.cell (.lst (ps.map prV))] h) Q ↔ Q (.lst ((sortP ps).map prV)) h := by
  unfold fSorted
  simp only [lisOf]
  cases ps with
  | nil => simp [sortV, sortI, sortP]
  | cons d ps =>
    unfold sortV
    simp only [mapM_int_prs, mapM_pr_prs]
    exact rk_some ..
theorem prV_ints (d : PI2) : prV d = .tup ([d.1, d.2].map .int) := rfl
theorem ne_prV (a b : PI2) (h : MH) (Q : Val → MH → Prop) : RK (fNe (.val (prV a)) (.val (prV b)) h) Q ↔ Q (.bl (!decide (a = b))) h := by
  rw [prV_ints, prV_ints, ne_tupI]
  have : ([a.1, a.2] = [b.1, b.2]) ↔ a = b := by
    simp [Prod.ext_iff]
  simp only [this]
theorem atI_lastM (vs : List PI2) : L2.atI (vs.map prV) (-1) = vs.getLast?.map prV := by
  rw [atI_m1, List.getElem?_map, List.length_map, List.getLast?_eq_getElem?]
def bitsO (l : List Nat) : Nat := l.foldl (fun a k => a ||| 2 ^ k) 0
theorem bitsO_snoc (l : List Nat) (k : Nat) : bitsO (l ++ [k]) = bitsO l ||| 2 ^ k := by simp [bitsO]
theorem bitsO_test (l : List Nat) (j : Nat) : ∀ a : Nat, (l.foldl (fun a k => a ||| 2 ^ k) a).testBit j = (a.testBit j || decide (j ∈ l)) := by
  induction l with
  | nil => intro a; simp
  | cons k l ih =>
    intro a
    rw [List.foldl_cons, ih, Nat.testBit_or, Nat.testBit_two_pow]
    by_cases hj : k = j
    · subst hj; simp
    · simp [hj, Ne.symm hj]
theorem bitsO_sl {n m : Nat} (h : m < 2 ^ n) : bitsO (sl n m) = m := by
  apply Nat.eq_of_testBit_eq
  intro j
  unfold bitsO
  rw [bitsO_test]
  unfold sl
  simp only [List.mem_filter, List.mem_range]
  by_cases hj : j < n
  · simp [hj]
  · have : m.testBit j = false := Nat.testBit_lt_two_pow (Nat.lt_of_lt_of_le h (Nat.pow_le_pow_right (by omega) (by omega)))
    simp [hj, this]
theorem and_inv (a m : Nat) : Builtin.bitAnd (a : Int) (Builtin.bitNot (m : Int)) = (a : Int) - ((a &&& m : Nat) : Int) := by
  unfold Builtin.bitAnd Builtin.bitNot
  have h1 : decide ((0 : Int) ≤ (a : Int)) = true := decide_eq_true (by omega)
  have h2 : decide ((0 : Int) ≤ -(m : Int) - 1) = false := decide_eq_false (by omega)
  rw [h1, h2]
  simp only
  congr 3
  simp
  omega
theorem and_le (a m : Nat) : (a : Int) - ((a &&& m : Nat) : Int) = 0 ↔ a &&& m = a := by
  have := @Nat.and_le_left a m
  omega
theorem mod_succ_bit (x k : Nat) : x % 2 ^ (k + 1) = x % 2 ^ k + (if x.testBit k then 1 else 0) * 2 ^ k := by
  rw [Nat.mod_pow_succ, Nat.testBit_eq_decide_div_mod_eq]
  have : x / 2 ^ k % 2 = 0 ∨ x / 2 ^ k % 2 = 1 := by omega
  rcases this with e | e <;> simp [e]
def lP (x : Nat) (ms : List Nat) (i j : Nat) : Bool := decide (j ≠ i ∧ (co x ms j ^^^ co x ms i) &&& ms.getD i 0 = co x ms j ^^^ co x ms i ∧ co x ms j ≠ co x ms i ^^^ ms.getD i 0)
def cos (x : Nat) (ms : List Nat) (k : Nat) : List Nat := (List.range k).map (co x ms)
@[simp] theorem cos_len (x : Nat) (ms : List Nat) (k : Nat) : (cos x ms k).length = k := by simp [cos]
theorem cos_at {x : Nat} {ms : List Nat} {k i : Nat} (h : i < k) : (nvs (cos x ms k))[i]? = some (.int (co x ms i : Nat)) := by
  rw [nvs_at (by simpa using h)]; simp [cos]
theorem pd_pv (h : MH) (n : Nat) (p : Nat × Nat) : pd h (n + 2) (pv p) = some (.tuple [.int (p.1 : Nat), .int (p.2 : Nat)]) := rfl
theorem mapM_pairs_pd (h : MH) (n : Nat) : ∀ cl : List (Nat × Nat), (cl.map pv).mapM (pd h (n + 2)) = some (cl.map fun p => PyData.tuple [.int (p.1 : Nat), .int (p.2 : Nat)])
  | [] => rfl
  | s :: ss => by
    rw [List.map_cons, List.mapM_cons, mapM_pairs_pd h n ss, pd_pv]
    rfl
theorem eq_nil {h : MH} {c : Nat} {cl : List (Nat × Nat)} (hc : h[c]? = some (.lst (cl.map pv))) (Q : Val → MH → Prop) : RK (fEq (.val (.ref c)) (.cell (.lst [])) h) Q ↔ Q (.bl (decide (cl = []))) h := by
  unfold fEq
  have e1 : pdO h (.val (.ref c)) = some (.list (cl.map fun p => PyData.tuple [.int (p.1 : Nat), .int (p.2 : Nat)])) := by
    show pd h 50 (.ref c) = _
    unfold pd
    simp only [hc]
    rw [mapM_pairs_pd h 47 cl]; rfl
  rw [e1, show pdO h (.cell (.lst [])) = some (.list []) from pdO_cell h []]
  simp only
  rw [PyData.eqv]
  cases cl with
  | nil => rw [List.map_nil, PyData.eqvAll]; simp
  | cons p cl => rw [List.map_cons, PyData.eqvAll]; simp
def kmap (ks : List PI2) : List (List Key × Val) := ks.map fun d => ([.inl d.1, .inl d.2], .bl true)
theorem keys_prV (d : PI2) : keysOf (prV d) = some [.inl d.1, .inl d.2] := rfl
theorem key_inj (a d : PI2) : (([Sum.inl a.1, Sum.inl a.2] : List Key) = [Sum.inl d.1, Sum.inl d.2]) ↔ a = d := by
  simp [Prod.ext_iff]
theorem kmap_put (ks : List PI2) (d : PI2) : putM (kmap ks) [.inl d.1, .inl d.2] (.bl true) = kmap (kadd ks d) := by
  unfold putM kadd kmap
  have e : ((ks.map fun d => (([.inl d.1, .inl d.2] : List Key), Val.bl true)).any fun kv => decide (kv.1 = [.inl d.1, .inl d.2])) = decide (d ∈ ks) := by
    rw [List.any_map]
    induction ks with
    | nil => rfl
    | cons a ks ih =>
      rw [List.any_cons, ih]
      simp only [Function.comp, key_inj]
      by_cases h : a = d
      · subst h; simp
      · simp [h, Ne.symm h]
  rw [e]
  by_cases h : d ∈ ks
  · simp only [h, decide_true, if_true, List.map_map]
    apply List.map_congr_left
    intro a _
    simp only [Function.comp, key_inj]
    split <;> rfl
  · simp [h]
theorem set_prV (ks : List PI2) (d : PI2) (h : ks.length < 100000) : Mi.cellSet (.dT (kmap ks)) (prV d) (.bl true) = some (.dT (kmap (kadd ks d))) := by
  unfold Mi.cellSet
  simp only [keys_prV, Option.map_some, kmap_put]
  rw [if_pos (by simpa [kmap] using h)]
theorem kadd_len (ks : List PI2) (d : PI2) : (kadd ks d).length ≤ ks.length + 1 := by
  unfold kadd; split <;> simp
theorem list_kmap (ks : List PI2) (h : MH) (Q : Cell → MH → Prop) : RK (fList [.cell (.dT (kmap ks))] h) Q ↔ Q (.lst (ks.map prV)) h := by
  have e : lisO (.cell (.dT (kmap ks))) h = some (ks.map prV) := by
    unfold lisO
    simp only [itmOf, lisOf, dctOf]
    unfold kmap
    rw [List.map_map]
    rfl
  unfold fList
  simp only [e]
  exact rk_some ..
theorem ix_pair0 (a b : Val) (h : MH) (Q : Val → MH → Prop) : RK (fIx (.val (.tup [a, b])) (.val (.int 0)) h) Q ↔ Q a h := by simp
def Due (h : MH) (v : Val) (ds : List PI2) : Prop := v = .tup (ds.map prV) ∨ ∃ n, v = .ref n ∧ h[n]? = some (.lst (ds.map prV))
theorem due_len {h : MH} {v : Val} {ds : List PI2} (hd : Due h v ds) (Q : Val → MH → Prop) : RK (fLen [.val v] h) Q ↔ Q (.int ds.length) h := by
  rcases hd with rfl | ⟨n, rfl, hn⟩
  · simp
  · simp [hn]
theorem due_ix {h : MH} {v : Val} {ds : List PI2} (hd : Due h v ds) {i : Nat} {d : PI2} (hi : ds[i]? = some d) (Q : Val → MH → Prop) : RK (fIx (.val v) (.val (.int (i : Int))) h) Q ↔ Q (prV d) h := by
  rcases hd with rfl | ⟨n, rfl, hn⟩
  · simp [hi]
  · simp [hn, hi]
theorem co_succ (x : Nat) (ms : List Nat) (i : Nat) (hi : i < ms.length) : co x ms (i + 1) = co x ms i ^^^ ms[i] := by
  unfold co
  have e4 : ms.take (i + 1) = ms.take i ++ [ms[i]] := by rw [List.take_add_one, List.getElem?_eq_getElem hi]; rfl
  rw [e4, xorAll_snoc, Nat.xor_assoc]
theorem co_end {x : Nat} {ms : List Nat} (h0 : xorAll ms = 0) : co x ms ms.length = x := by simp [co, h0]
theorem co_next {x : Nat} {ms : List Nat} (h0 : xorAll ms = 0) {i : Nat} (hi : i < ms.length) : co x ms ((i + 1) % ms.length) = co x ms i ^^^ ms[i] := by
  rw [← co_succ x ms i hi]
  by_cases he : i + 1 = ms.length
  · rw [he, Nat.mod_self, co_end h0]; simp [co, xorAll]
  · rw [Nat.mod_eq_of_lt (by omega)]
theorem std_iff {n c m r : Nat} (hc : c < 2 ^ n) (hr : r < 2 ^ n) : (∀ k, k < n → m.testBit k = true ∨ r.testBit k = c.testBit k) ↔ (r ^^^ c) &&& m = r ^^^ c := by
  constructor
  · intro h
    apply Nat.eq_of_testBit_eq
    intro k
    rw [Nat.testBit_and, Nat.testBit_xor]
    by_cases hk : k < n
    · rcases h k hk with e | e
      · rw [e, Bool.and_true]
      · rw [e]; simp
    · have hp : 2 ^ n ≤ 2 ^ k := Nat.pow_le_pow_right (by omega) (by omega)
      rw [Nat.testBit_lt_two_pow (Nat.lt_of_lt_of_le hr hp), Nat.testBit_lt_two_pow (Nat.lt_of_lt_of_le hc hp)]; rfl
  · intro h k _
    have e := congrArg (fun z => z.testBit k) h
    simp only [Nat.testBit_and, Nat.testBit_xor] at e
    cases h1 : r.testBit k <;> cases h2 : c.testBit k <;> cases h3 : m.testBit k <;> simp_all
theorem cP_lP {n x : Nat} {ms : List Nat} (hx : x < 2 ^ n) (hm : ∀ m ∈ ms, m < 2 ^ n) (h0 : xorAll ms = 0) {i j : Nat} (hi : i < ms.length) : cP n x ms i j = lP x ms i j := by
  unfold cP lP
  have e : ms.getD i 0 = ms[i] := by simp [List.getElem?_eq_getElem hi]
  rw [e, co_next h0 hi]
  unfold Std
  simp only [std_iff (co_lt hx hm i) (co_lt hx hm j)]
theorem clP_congr {P Q : Nat → Nat → Bool} {N : Nat} : ∀ {k : Nat}, (∀ i j, i < k → P i j = Q i j) → clP P N k = clP Q N k
  | 0, _ => rfl
  | k + 1, h => by
    rw [clP_succ, clP_succ, clP_congr (k := k) fun i j hi => h i j (by omega)]
    congr 1
    unfold rowP
    congr 1
    exact List.filter_congr fun j _ => h k j (by omega)
theorem cl_same {n x : Nat} {ms : List Nat} (hx : x < 2 ^ n) (hm : ∀ m ∈ ms, m < 2 ^ n) (h0 : xorAll ms = 0) : clP (cP n x ms) ms.length ms.length = clP (lP x ms) ms.length ms.length :=
  clP_congr fun i j hi => cP_lP hx hm h0 hi
theorem rot_len {k : Nat} {ms : List Nat} (hk : k ≤ ms.length) : (rot k ms).length = ms.length := by
  unfold rot; rw [List.length_append, List.length_drop, List.length_take]; omega
theorem rot_mem {k : Nat} {ms : List Nat} : ∀ m ∈ rot k ms, m ∈ ms := fun m hm => by
  unfold rot at hm
  rcases List.mem_append.mp hm with h | h
  · exact List.mem_of_mem_drop h
  · exact List.mem_of_mem_take h
theorem rot_xor (k : Nat) (ms : List Nat) : xorAll (rot k ms) = xorAll ms := by
  unfold rot
  rw [xorAll_app, Nat.xor_comm, ← xorAll_app, List.take_append_drop]
theorem rot_at {k t : Nat} {ms : List Nat} (hk : k < ms.length) (ht : t < ms.length) : (rot k ms)[t]? = ms[(k + t) % ms.length]? := by
  unfold rot
  by_cases h : k + t < ms.length
  · rw [List.getElem?_append_left (by rw [List.length_drop]; omega), List.getElem?_drop, Nat.mod_eq_of_lt h]
  · rw [List.getElem?_append_right (by rw [List.length_drop]; omega), List.length_drop, List.getElem?_take_of_lt (by omega), Nat.mod_eq_sub_mod (by omega), Nat.mod_eq_of_lt (by omega)]
    congr 1
    omega
theorem rot_take {k t : Nat} {ms : List Nat} (h0 : xorAll ms = 0) (hk : k < ms.length) (ht : t < ms.length) : xorAll ((rot k ms).take t) = xorAll (ms.take k) ^^^ xorAll (ms.take ((k + t) % ms.length)) := by
  unfold rot
  by_cases h : k + t < ms.length
  · rw [List.take_append_of_le_length (by rw [List.length_drop]; omega), Nat.mod_eq_of_lt h, List.take_add, xorAll_app, ← Nat.xor_assoc, Nat.xor_self, Nat.zero_xor]
  · rw [List.take_append, List.take_of_length_le (by rw [List.length_drop]; omega), List.length_drop, List.take_take, xorAll_app, Nat.mod_eq_sub_mod (by omega), Nat.mod_eq_of_lt (by omega)]
    have e : xorAll (ms.drop k) = xorAll (ms.take k) := by
      have := xorAll_app (ms.take k) (ms.drop k)
      rw [List.take_append_drop, h0] at this
      have h2 := congrArg (fun z => xorAll (ms.take k) ^^^ z) this
      simp only [← Nat.xor_assoc, Nat.xor_self, Nat.zero_xor, Nat.xor_zero] at h2
      exact h2.symm
    rw [e, show min (t - (ms.length - k)) k = k + t - ms.length by omega]
theorem pure_first {a f : Nat} {ds ms : List Nat} (hf : f ≠ 2 ^ a) (h : PureOf (2 ^ a :: 2 ^ a :: f :: ds) ms) : ∃ r, ms = 2 ^ a :: 2 ^ a :: f :: r := by
  rcases h with rfl | ⟨p, h1, h2, rfl, _, h3⟩
  · exact ⟨ds, rfl⟩
  · have hmem : f ∈ (2 ^ a :: 2 ^ a :: f :: ds).take p := by
      have : f ∈ (List.replicate ((2 ^ a :: 2 ^ a :: f :: ds).length / p) ((2 ^ a :: 2 ^ a :: f :: ds).take p)).flatten := by rw [h3]; simp
      rw [List.mem_flatten] at this
      obtain ⟨l, hl, hfl⟩ := this
      rw [List.mem_replicate] at hl
      rw [← hl.2]; exact hfl
    match p, h1, hmem with
    | 1, _, hmem => simp at hmem; exact absurd hmem hf
    | 2, _, hmem => simp at hmem; exact absurd hmem hf
    | p + 3, _, _ => exact ⟨ds.take p, by simp⟩
theorem unclean_clash {k n x : Nat} {ms : List Nat} (u : Unclean n ms) (hk : k < ms.length) : clP (lP x (rot k ms)) ms.length ms.length ≠ [] := by
  obtain ⟨a, f, ds, ha, hf, hp⟩ := u.ex
  obtain ⟨r, rfl⟩ := pure_first hf hp
  generalize hms : 2 ^ a :: 2 ^ a :: f :: r = ms at *
  have hN : 3 ≤ ms.length := by rw [← hms]; simp
  have key : ∀ s, s < ms.length → ∃ t, t < ms.length ∧ (k + t) % ms.length = s := fun s hs => by
    by_cases h : k ≤ s
    · exact ⟨s - k, by omega, by rw [show k + (s - k) = s by omega, Nat.mod_eq_of_lt hs]⟩
    · exact ⟨s + ms.length - k, by omega, by rw [show k + (s + ms.length - k) = s + ms.length by omega, Nat.add_mod_right, Nat.mod_eq_of_lt hs]⟩
  obtain ⟨t0, ht0, e0⟩ := key 0 (by omega)
  obtain ⟨t2, ht2, e2⟩ := key 2 (by omega)
  have hne : t2 ≠ t0 := fun z => by rw [z, e0] at e2; omega
  have c0 : co x (rot k ms) t0 = x ^^^ xorAll (ms.take k) := by
    unfold co; rw [rot_take u.x0 hk ht0, e0]; simp [xorAll]
  have c2 : co x (rot k ms) t2 = x ^^^ xorAll (ms.take k) := by
    unfold co; rw [rot_take u.x0 hk ht2, e2, ← hms]; simp [xorAll]
  have m0 : (rot k ms).getD t0 0 = 2 ^ a := by
    rw [List.getD_eq_getElem?_getD, rot_at hk ht0, e0, ← hms]; rfl
  intro hnil
  have : (t0, t2) ∈ clP (lP x (rot k ms)) ms.length ms.length := by
    rw [mem_clP]
    refine ⟨ht0, ht2, ?_⟩
    unfold lP
    rw [c0, c2, m0]
    refine decide_eq_true ⟨hne, by simp, fun z => ?_⟩
    have h2 := congrArg (fun w => (x ^^^ xorAll (ms.take k)) ^^^ w) z
    simp only [← Nat.xor_assoc, Nat.xor_self, Nat.zero_xor] at h2
    exact Nat.ne_of_gt (Nat.two_pow_pos a) h2.symm
  rw [hnil] at this
  cases this
theorem xor_one {b : Nat} {A B : List Nat} {m : Nat} (hA : ∀ y ∈ A, y.testBit b = false) (hB : ∀ y ∈ B, y.testBit b = false) (hm : m.testBit b = true) : xorAll (A ++ m :: B) ≠ 0 := by
  have zero : ∀ l : List Nat, (∀ y ∈ l, y.testBit b = false) → (xorAll l).testBit b = false := by
    intro l
    induction l with
    | nil => intro _; simp [xorAll]
    | cons y l ih =>
      intro h
      rw [xorAll_cons, Nat.testBit_xor, h y (List.mem_cons_self ..), ih fun z hz => h z (List.mem_cons_of_mem _ hz)]; rfl
  intro z
  have := congrArg (fun w => w.testBit b) z
  simp only [xorAll_app, xorAll_cons, Nat.testBit_xor, zero A hA, zero B hB, hm, Nat.zero_testBit] at this
  cases this
theorem groups_two {n : Nat} {gs : List Nat} (g : Groups n gs) {p q : Nat} (hp : p < gs.length) (hq : q < gs.length) (hne : p ≠ q) : gs[p] &&& gs[q] = 0 := by
  have d := List.pairwise_iff_getElem.mp g.dj
  by_cases h : p < q
  · exact d p q hp hq h
  · rw [Nat.and_comm]; exact d q p hq hp (by omega)
theorem groups_and {n : Nat} {gs : List Nat} (g : Groups n gs) {m w : Nat} (hm : m ∈ gs) (hw : w ∈ gs) : m &&& w = 0 ∨ m = w := by
  obtain ⟨p, hp, rfl⟩ := List.getElem_of_mem hm
  obtain ⟨q, hq, rfl⟩ := List.getElem_of_mem hw
  by_cases h : p = q
  · subst h; exact .inr rfl
  · exact .inl (groups_two g hp hq h)
theorem union_and {n : Nat} {gs : List Nat} (g : Groups n gs) {w : Nat} (hw : w ∈ gs) : ∀ l : List Nat, (∀ m ∈ l, m ∈ gs) → xorAll l &&& w = 0 ∨ xorAll l &&& w = w
  | [], _ => .inl (by simp [xorAll])
  | m :: l, h => by
    rw [xorAll_cons, Nat.and_xor_distrib_right]
    rcases union_and g hw l fun z hz => h z (List.mem_cons_of_mem _ hz) with e | e <;> rcases groups_and g (h m (List.mem_cons_self ..)) hw with e2 | e2
    · rw [e, e2]; exact .inl (by simp)
    · rw [e, e2]; exact .inr (by simp)
    · rw [e, e2]; exact .inr (by simp)
    · rw [e, e2]; exact .inl (by simp)
theorem seg_mem {l : List Nat} {a b : Nat} {y : Nat} (h : y ∈ (l.take b).drop a) : ∃ t, a ≤ t ∧ t < b ∧ l[t]? = some y := by
  obtain ⟨i, hi⟩ := List.mem_iff_getElem?.mp h
  rw [List.getElem?_drop] at hi
  have hl := (List.getElem?_eq_some_iff.mp hi).1
  rw [List.length_take] at hl
  rw [List.getElem?_take_of_lt (by omega)] at hi
  exact ⟨a + i, by omega, by omega, hi⟩
theorem seg_split {l : List Nat} {a t b : Nat} (h1 : a ≤ t) (h2 : t < b) (h3 : b ≤ l.length) : (l.take b).drop a = (l.take t).drop a ++ l[t] :: (l.take b).drop (t + 1) := by
  have e1 : l.take b = l.take t ++ l[t] :: (l.take b).drop (t + 1) := by
    have e2 : l.take t = (l.take b).take t := by rw [List.take_take, Nat.min_eq_left (by omega)]
    have e3 : (l.take b).drop t = l[t] :: (l.take b).drop (t + 1) := by
      rw [List.drop_eq_getElem_cons (by rw [List.length_take]; omega)]
      congr 1
      rw [List.getElem_take]
    rw [e2, ← e3, List.take_append_drop]
  conv => lhs; rw [e1]
  rw [List.drop_append_of_le_length (by rw [List.length_take]; omega)]
theorem mod_ne {L k t s : Nat} (h1 : t < s) (h2 : s - t < L) : (k + t) % L ≠ (k + s) % L := fun e => by
  have := Nat.sub_mod_eq_zero_of_mod_eq e.symm
  rw [show k + s - (k + t) = s - t by omega, Nat.mod_eq_of_lt h2] at this
  omega
section
variable {n k x : Nat} {gs : List Nat}
theorem dbl_at {s : Nat} (hs : s < 2 * gs.length) : (gs ++ gs)[s]? = gs[s % gs.length]? := by
  by_cases h : s < gs.length
  · rw [List.getElem?_append_left h, Nat.mod_eq_of_lt h]
  · rw [List.getElem?_append_right (by omega), Nat.mod_eq_sub_mod (by omega), Nat.mod_eq_of_lt (by omega)]
theorem rdbl_at (hk : k < 2 * gs.length) {t : Nat} (ht : t < 2 * gs.length) : (rot k (gs ++ gs))[t]? = gs[(k + t) % gs.length]? := by
  have hl : (gs ++ gs).length = 2 * gs.length := by rw [List.length_append]; omega
  rw [rot_at (by omega) (by omega), hl, dbl_at (Nat.mod_lt _ (by omega)), Nat.mod_mod_of_dvd _ (Nat.dvd_mul_left _ _)]
theorem seg_ne (g : Groups n gs) (hk : k < 2 * gs.length) {i j : Nat} (hij : i < j) (hj : j < 2 * gs.length) : xorAll (((rot k (gs ++ gs)).take j).drop i) ≠ 0 := by
  have hL : 0 < gs.length := by omega
  have hl : (rot k (gs ++ gs)).length = 2 * gs.length := by rw [rot_len (by rw [List.length_append]; omega), List.length_append]; omega
  obtain ⟨t0, h1, h2, h3, h4⟩ : ∃ t0, i ≤ t0 ∧ t0 < j ∧ t0 - i < gs.length ∧ j - 1 - t0 < gs.length := by
    by_cases hd : j - i ≤ gs.length
    · exact ⟨i, by omega, by omega, by omega, by omega⟩
    · exact ⟨i + gs.length - 1, by omega, by omega, by omega, by omega⟩
  rw [seg_split h1 h2 (by omega)]
  have e0 : (rot k (gs ++ gs))[t0]'(by omega) = gs[(k + t0) % gs.length]'(Nat.mod_lt _ hL) := by
    have := rdbl_at (gs := gs) hk (t := t0) (by omega)
    rw [List.getElem?_eq_getElem (by omega), List.getElem?_eq_getElem (Nat.mod_lt _ hL)] at this
    exact Option.some.inj this
  rw [e0]
  have hne := g.ne _ (List.getElem_mem (Nat.mod_lt (k + t0) hL))
  obtain ⟨b, hb⟩ := Nat.exists_testBit_of_ne_zero hne
  have other : ∀ t y, t < 2 * gs.length → (k + t) % gs.length ≠ (k + t0) % gs.length → (rot k (gs ++ gs))[t]? = some y → y.testBit b = false := by
    intro t y ht hne2 hy
    rw [rdbl_at hk ht, List.getElem?_eq_getElem (Nat.mod_lt _ hL)] at hy
    have hy := Option.some.inj hy
    subst hy
    have := groups_two g (Nat.mod_lt (k + t) hL) (Nat.mod_lt (k + t0) hL) hne2
    have h2 := congrArg (fun z => z.testBit b) this
    simp only [Nat.testBit_and, hb, Bool.and_true, Nat.zero_testBit] at h2
    exact h2
  refine xor_one (fun y hy => ?_) (fun y hy => ?_) hb
  · obtain ⟨t, a1, a2, a3⟩ := seg_mem hy
    exact other t y (by omega) (mod_ne a2 (by omega)) a3
  · obtain ⟨t, a1, a2, a3⟩ := seg_mem hy
    exact other t y (by omega) (Ne.symm (mod_ne (by omega) (by omega))) a3
theorem co_seg {ms : List Nat} {i j : Nat} (hij : i ≤ j) : co x ms j = co x ms i ^^^ xorAll ((ms.take j).drop i) := by
  unfold co
  have e : ms.take j = ms.take i ++ (ms.take j).drop i := by
    have : ms.take i = (ms.take j).take i := by rw [List.take_take, Nat.min_eq_left hij]
    rw [this, List.take_append_drop]
  conv => lhs; rw [e]
  rw [xorAll_app, Nat.xor_assoc]
theorem clean_none (g : Groups n gs) (hk : k < 2 * gs.length) : clP (lP x (rot k (gs ++ gs))) (gs ++ gs).length (gs ++ gs).length = [] := by
  have hl : (gs ++ gs).length = 2 * gs.length := by rw [List.length_append]; omega
  rw [hl]
  apply List.eq_nil_iff_forall_not_mem.mpr
  rintro ⟨i, j⟩ hm
  rw [mem_clP] at hm
  obtain ⟨hi, hj, hp⟩ := hm
  have hp := of_decide_eq_true hp
  obtain ⟨hne, h1, h2⟩ := hp
  have hL : 0 < gs.length := by omega
  have em : (rot k (gs ++ gs)).getD i 0 = gs[(k + i) % gs.length]'(Nat.mod_lt _ hL) := by
    rw [List.getD_eq_getElem?_getD, rdbl_at hk hi, List.getElem?_eq_getElem (Nat.mod_lt _ hL)]; rfl
  rw [em] at h1 h2
  have hw := List.getElem_mem (l := gs) (Nat.mod_lt (k + i) hL)
  generalize gs[(k + i) % gs.length]'(Nat.mod_lt _ hL) = w at *
  obtain ⟨X, hX0, hXg, hXe⟩ : ∃ X, X ≠ 0 ∧ (X &&& w = 0 ∨ X &&& w = w) ∧ co x (rot k (gs ++ gs)) j = co x (rot k (gs ++ gs)) i ^^^ X := by
    have sub : ∀ a b, ∀ m ∈ ((rot k (gs ++ gs)).take b).drop a, m ∈ gs := fun a b m hm => by
      have := rot_mem m (List.mem_of_mem_take (List.mem_of_mem_drop hm))
      rcases List.mem_append.mp this with h | h <;> exact h
    by_cases hlt : i < j
    · exact ⟨_, seg_ne g hk hlt hj, union_and g hw _ (sub i j), co_seg (by omega)⟩
    · refine ⟨_, seg_ne g hk (by omega : j < i) hi, union_and g hw _ (sub j i), ?_⟩
      rw [co_seg (x := x) (ms := rot k (gs ++ gs)) (i := j) (j := i) (by omega), Nat.xor_assoc, Nat.xor_self, Nat.xor_zero]
  have eX : co x (rot k (gs ++ gs)) j ^^^ co x (rot k (gs ++ gs)) i = X := by
    rw [hXe, Nat.xor_comm, ← Nat.xor_assoc, Nat.xor_self, Nat.zero_xor]
  rw [eX] at h1
  rcases hXg with e | e
  · rw [h1] at e; exact hX0 e
  · rw [h1] at e
    rw [e] at hXe
    exact h2 hXe
end
structure MOk (many : Nat) (ms : List Nat) : Prop where
  pos : 0 < many
  le : many ≤ 8
  lt : ∀ m ∈ ms, m < 2 ^ many
  x0 : xorAll ms = 0
  len : 0 < ms.length
  len2 : ms.length ≤ 100
abbrev clL (x : Nat) (ms : List Nat) : List (Nat × Nat) := clP (lP x ms) ms.length ms.length
def RowP (p : Nat) (h : MH) (R : Nat → List Nat → Prop) (v : Val) : Prop := ∃ n many ms, v = .tup [.ref n, .int (many : Nat)] ∧ n ≠ p ∧ h[n]? = some (.lst (nvs ms)) ∧ MOk many ms ∧ R many ms
def RC_ (many : Nat) (ms : List Nat) : Prop := ∀ x, clL x ms = []
def RU_ (many : Nat) (ms : List Nat) : Prop := ∀ x, clL x ms ≠ []
def RA_ (many : Nat) (ms : List Nat) : Prop := True
theorem RowP.any {p : Nat} {h : MH} {R : Nat → List Nat → Prop} {v : Val} (r : RowP p h R v) : RowP p h RA_ v := by
  obtain ⟨n, many, ms, e, hn, hc, ok, hr⟩ := r
  exact ⟨n, many, ms, e, hn, hc, ok, trivial⟩
structure Rows (p : Nat) (h : MH) (rs : List Val) : Prop where
  all : ∀ v ∈ rs, RowP p h RA_ v
  c : ∃ v ∈ rs, RowP p h RC_ v
  u : ∃ v ∈ rs, RowP p h RU_ v
  len : 0 < rs.length
  len2 : rs.length ≤ 4
def TP (R : Nat → List Nat → Prop) (v : Val) : Prop := ∃ ns many x ms, v = tv ns many x ms ∧ x < 2 ^ many ∧ MOk many ms ∧ R x ms
def TC_ (x : Nat) (ms : List Nat) : Prop := clL x ms = []
def TU_ (x : Nat) (ms : List Nat) : Prop := clL x ms ≠ []
theorem pick5 {r : Int} (h0 : 0 ≤ r) (h1 : r < 5) : ∃ many : Nat, 0 < many ∧ many ≤ 8 ∧ L2.atI [Val.int 2, Val.int 3, Val.int 1, Val.int 4, Val.int 8] r = some (.int (many : Nat)) := by
  have : r = 0 ∨ r = 1 ∨ r = 2 ∨ r = 3 ∨ r = 4 := by omega
  rcases this with h | h | h | h | h <;> subst h
  · exact ⟨2, by omega, by omega, rfl⟩
  · exact ⟨3, by omega, by omega, rfl⟩
  · exact ⟨1, by omega, by omega, rfl⟩
  · exact ⟨4, by omega, by omega, rfl⟩
  · exact ⟨8, by omega, by omega, rfl⟩
theorem pick4 {r : Int} (h0 : 0 ≤ r) (h1 : r < 4) : ∃ many : Nat, 1 < many ∧ many ≤ 8 ∧ L2.atI [Val.int 2, Val.int 3, Val.int 4, Val.int 8] r = some (.int (many : Nat)) := by
  have : r = 0 ∨ r = 1 ∨ r = 2 ∨ r = 3 := by omega
  rcases this with h | h | h | h <;> subst h
  · exact ⟨2, by omega, by omega, rfl⟩
  · exact ⟨3, by omega, by omega, rfl⟩
  · exact ⟨4, by omega, by omega, rfl⟩
  · exact ⟨8, by omega, by omega, rfl⟩
theorem pick5b {r : Int} (h0 : 0 ≤ r) (h1 : r < 5) : ∃ many : Nat, 0 < many ∧ many ≤ 8 ∧ L2.atI [Val.int 2, Val.int 3, Val.int 4, Val.int 6, Val.int 8] r = some (.int (many : Nat)) := by
  have : r = 0 ∨ r = 1 ∨ r = 2 ∨ r = 3 ∨ r = 4 := by omega
  rcases this with h | h | h | h | h <;> subst h
  · exact ⟨2, by omega, by omega, rfl⟩
  · exact ⟨3, by omega, by omega, rfl⟩
  · exact ⟨4, by omega, by omega, rfl⟩
  · exact ⟨6, by omega, by omega, rfl⟩
  · exact ⟨8, by omega, by omega, rfl⟩
theorem pick3 {a b c r : Int} (h0 : 0 ≤ r) (h1 : r < 3) : ∃ w : Int, (w = a ∨ w = b ∨ w = c) ∧ L2.atI [Val.int a, Val.int b, Val.int c] r = some (.int w) := by
  have : r = 0 ∨ r = 1 ∨ r = 2 := by omega
  rcases this with h | h | h <;> subst h
  · exact ⟨a, .inl rfl, rfl⟩
  · exact ⟨b, .inr (.inl rfl), rfl⟩
  · exact ⟨c, .inr (.inr rfl), rfl⟩
theorem MOk.rot {many k : Nat} {ms : List Nat} (m : MOk many ms) (hk : k < ms.length) : MOk many (rot k ms) :=
  ⟨m.pos, m.le, fun x hx => m.lt x (rot_mem x hx), by rw [rot_xor]; exact m.x0, by rw [rot_len (by omega)]; exact m.len, by rw [rot_len (by omega)]; exact m.len2⟩
theorem nvs_inj {a b : List Nat} (h : nvs a = nvs b) : a = b := by
  induction a generalizing b with
  | nil => cases b with
    | nil => rfl
    | cons _ _ => cases h
  | cons x a ih => cases b with
    | nil => cases h
    | cons y b =>
      have h : nv x :: nvs a = nv y :: nvs b := h
      injection h with h1 h2
      rw [ih h2]
      have : (x : Int) = (y : Int) := Val.int.inj h1
      rw [show x = y by omega]
theorem RowP.same {p : Nat} {h : MH} {R : Nat → List Nat → Prop} {n many : Nat} {ms : List Nat} (r : RowP p h R (.tup [.ref n, .int (many : Nat)])) (hc : h[n]? = some (.lst (nvs ms))) : R many ms := by
  obtain ⟨n2, many2, ms2, e, _, hc2, _, hr⟩ := r
  simp only [Val.tup.injEq, List.cons.injEq, Val.ref.injEq, Val.int.injEq, and_true] at e
  obtain ⟨e1, e2⟩ := e
  subst e1
  have e3 : many = many2 := by omega
  subst e3
  rw [hc] at hc2
  have := nvs_inj (Cell.lst.inj (Option.some.inj hc2))
  rw [this]; exact hr
def TA_ (x : Nat) (ms : List Nat) : Prop := True
structure Tours (ts : List Val) : Prop where
  all : ∀ v ∈ ts, TP TA_ v
  c : ∃ v ∈ ts, TP TC_ v
  u : ∃ v ∈ ts, TP TU_ v
  len : 0 < ts.length
  len2 : ts.length ≤ 4
theorem sn_step {m1 m2 : SM} {env : ME} {h : MH} {P : Po} (mid : ME → MH → Prop) (h1 : SN (m1 env h) ⟨mid, P.r, P.b, P.c⟩) (h2 : ∀ e h', mid e h' → SN (m2 e h') P) : SN (sSeq m1 m2 env h) P := by
  rw [sn_seq]
  exact SN.mono h1 h2 (fun _ _ q => q) (fun _ _ q => q) (fun _ _ q => q)
def E3 (v : Val) (p : Nat) (a b : Sl) (rs : List Val) (x4 x5 x6 : Sl) : ME := [.val v, .val (.ref p), a, .own (.lst rs), x4, x5, x6, .no, .no, .no, .no, .no, .no, .no, .no]
theorem nvs_sl_inj {n a b : Nat} (ha : a < 2 ^ n) (hb : b < 2 ^ n) (h : sv n a = sv n b) : a = b := by
  have h := nvs_inj (Val.tup.inj h)
  rw [← bitsX_sl ha, ← bitsX_sl hb, h]
theorem svs_inj {n : Nat} : ∀ {a b : List Nat}, (∀ m ∈ a, m < 2 ^ n) → (∀ m ∈ b, m < 2 ^ n) → a.map (sv n) = b.map (sv n) → a = b
  | [], [], _, _, _ => rfl
  | [], _ :: _, _, _, h => by simp at h
  | _ :: _, [], _, _, h => by simp at h
  | x :: a, y :: b, ha, hb, h => by
    rw [List.map_cons, List.map_cons] at h
    injection h with h1 h2
    rw [nvs_sl_inj (ha x (List.mem_cons_self ..)) (hb y (List.mem_cons_self ..)) h1, svs_inj (fun m hm => ha m (List.mem_cons_of_mem _ hm)) (fun m hm => hb m (List.mem_cons_of_mem _ hm)) h2]
theorem TP.same {R : Nat → List Nat → Prop} {ns : List Str} {many x : Nat} {ms : List Nat} (r : TP R (tv ns many x ms)) (hx : x < 2 ^ many) (ok : MOk many ms) : R x ms := by
  obtain ⟨ns2, many2, x2, ms2, e, hx2, ok2, hr⟩ := r
  unfold tv at e
  simp only [Val.tup.injEq, List.cons.injEq, and_true] at e
  obtain ⟨_, e1, e2⟩ := e
  have hn : many = many2 := by
    have := congrArg List.length e1
    simpa using this
  subst hn
  rw [bv_ba, bv_ba] at e1
  have e3 : ba many x = ba many x2 := by
    have inj : ∀ a b : List Int, a.map Val.int = b.map Val.int → a = b := by
      intro a
      induction a with
      | nil => intro b h; cases b with
        | nil => rfl
        | cons _ _ => simp at h
      | cons y a ih => intro b h; cases b with
        | nil => simp at h
        | cons z b =>
          rw [List.map_cons, List.map_cons] at h
          injection h with h1 h2
          rw [ih b h2, Val.int.inj h1]
    exact inj _ _ e1
  rw [(ba_inj hx hx2).mp e3, svs_inj ok.lt ok2.lt e2]
  exact hr
theorem len_pairs {h : MH} {c : Nat} {cl : List (Nat × Nat)} (hc : h[c]? = some (.lst (cl.map pv))) (Q : Val → MH → Prop) : RK (fLen [.val (.ref c)] h) Q ↔ Q (.int cl.length) h := by
  simp [hc]
end HT

set_option Elab.async false
set_option linter.all false
set_option maxRecDepth 100000
set_option maxHeartbeats 4000000
set_option autoImplicit false
namespace HT
open PySem L2 Mi
def tpD (l : List Nat) : PyData := .tuple (l.map fun m : Nat => PyData.int m)
theorem eqvAll_tups : ∀ a b : List (List Nat), PyData.eqvAll (a.map tpD) (b.map tpD) = decide (a = b)
  | [], [] => rfl
  | [], _ :: _ => rfl
  | _ :: _, [] => rfl
  | x :: xs, y :: ys => by
    rw [List.map_cons, List.map_cons, PyData.eqvAll, eqvAll_tups xs ys]
    unfold tpD
    rw [PyData.eqv, eqvAll_nats]
    by_cases h : x = y
    · subst h; simp
    · simp [h]
theorem mapM_sv_pd (h : MH) (n : Nat) : ∀ ms : List Nat, (ms.map (sv n)).mapM (pd h 49) = some ((ms.map (sl n)).map tpD)
  | [] => rfl
  | m :: ms => by
    rw [List.map_cons, List.mapM_cons, mapM_sv_pd h n ms]
    have : pd h 49 (sv n m) = some (tpD (sl n m)) := by
      show ((nvs (sl n m)).mapM (pd h 48)).map PyData.tuple = _
      rw [mapM_nats_pd h 47]; rfl
    rw [this]; rfl
theorem sls_inj {n : Nat} {a b : List Nat} (ha : ∀ m ∈ a, m < 2 ^ n) (hb : ∀ m ∈ b, m < 2 ^ n) : a.map (sl n) = b.map (sl n) ↔ a = b := by
  constructor
  · intro h
    refine svs_inj ha hb ?_
    have := congrArg (fun l => l.map fun x => Val.tup (nvs x)) h
    simp only [List.map_map] at this
    exact this
  · intro h; rw [h]
theorem eq_steps {h : MH} {n i : Nat} {x y : List Nat} (hx : ∀ m ∈ x, m < 2 ^ n) (hy : ∀ m ∈ y, m < 2 ^ n) (hi : h[i]? = some (.lst (y.map (sv n)))) (Q : Val → MH → Prop) : RK (fEq (.cell (.lst (x.map (sv n)))) (.val (.ref i)) h) Q ↔ Q (.bl (decide (x = y))) h := by
  have e1 : pdO h (.cell (.lst (x.map (sv n)))) = some (.list ((x.map (sl n)).map tpD)) := by
    show ((x.map (sv n)).mapM (pd h 49)).map PyData.list = _
    rw [mapM_sv_pd]; rfl
  have e2 : pdO h (.val (.ref i)) = some (.list ((y.map (sl n)).map tpD)) := by
    show pd h 50 (.ref i) = _
    unfold pd
    simp only [hi]
    rw [mapM_sv_pd]; rfl
  unfold fEq
  rw [e1, e2]
  simp only
  rw [PyData.eqv, eqvAll_tups]
  simp only [sls_inj hx hy]
  exact rk_some ..
theorem cut_takeV {α : Type} (f : α → Val) (ms : List α) (k : Nat) : cutM (ms.map f) none (some (k : Int)) = (ms.take k).map f := by
  unfold cutM HT.sIx
  simp
  rw [if_neg (by omega)]
  omega
theorem cut_dropV {α : Type} (f : α → Val) {ms : List α} {k : Nat} (hk : k ≤ ms.length) : cutM (ms.map f) (some (k : Int)) none = (ms.drop k).map f := by
  unfold cutM HT.sIx
  simp
  rw [if_neg (by omega), Nat.min_eq_left hk, List.take_of_length_le (by simp)]
theorem xor_rot (k : Nat) (ms : List Nat) : xorAll (rot k ms) = xorAll ms := by
  unfold rot
  rw [xorAll_app, Nat.xor_comm, ← xorAll_app, List.take_append_drop]
theorem tuple_ref {n : Nat} {h : MH} {vs : List Val} (hn : h[n]? = some (.lst vs)) {Q : Val → MH → Prop} : RK (fTuple [.val (.ref n)] h) Q ↔ Q (.tup vs) h := by
  unfold fTuple itmOf lisOf
  simp only [hn]
  exact rk_some ..
theorem sl_sorted (n m : Nat) : (sl n m).Pairwise (· < ·) := by
  unfold sl
  exact List.Pairwise.filter _ List.pairwise_lt_range
theorem bitsX_lt {n : Nat} : ∀ {l : List Nat}, (∀ k ∈ l, k < n) → bitsX l < 2 ^ n := by
  intro l
  induction l with
  | nil => intro _; simp [bitsX]; exact Nat.two_pow_pos n
  | cons k l ih =>
    intro h
    have e : bitsX (k :: l) = 2 ^ k ^^^ bitsX l := by
      unfold bitsX
      rw [List.foldl_cons, bitsX_foldl, Nat.zero_xor]; rfl
    rw [e]
    exact Nat.xor_lt_two_pow (Nat.pow_lt_pow_right (by omega) (h k (by simp))) (ih fun j hj => h j (by simp [hj]))
theorem sl_perm {n : Nat} {l : List Nat} (hn : l.Nodup) (hl : ∀ k ∈ l, k < n) : (sl n (bitsX l)).Perm l := by
  rw [List.perm_ext_iff_of_nodup (sl_nodup n _) hn]
  intro k
  unfold sl
  rw [List.mem_filter, List.mem_range, bitsX_test l hn]
  constructor
  · intro h; exact of_decide_eq_true h.2
  · intro h; exact ⟨hl k h, decide_eq_true h⟩
theorem sortI_sl {n : Nat} {l : List Nat} (hn : l.Nodup) (hl : ∀ k ∈ l, k < n) : sortI (l.map fun k : Nat => (k : Int)) = (sl n (bitsX l)).map fun k : Nat => (k : Int) := by
  symm
  apply sortI_uniq
  · exact (sl_perm hn hl).map _
  · rw [List.pairwise_map]
    exact (sl_sorted n _).imp fun h => by omega
theorem mapM_nvs (l : List Nat) : (nvs l).mapM intOf = some (l.map fun k : Nat => (k : Int)) := by
  induction l with
  | nil => rfl
  | cons k l ih =>
    show ((nv k) :: nvs l).mapM intOf = _
    rw [List.mapM_cons, ih]; rfl
theorem sortV_sl {n : Nat} {l : List Nat} (hn : l.Nodup) (hl : ∀ k ∈ l, k < n) : sortV (nvs l) = some (nvs (sl n (bitsX l))) := by
  unfold sortV
  rw [mapM_nvs]
  simp only [sortI_sl hn hl]
  simp [nvs, nv]
theorem sorted_sl {n : Nat} {l : List Nat} {o : Opd} {h : MH} (ho : lisOf o h = some (nvs l)) (hn : l.Nodup) (hl : ∀ k ∈ l, k < n) (Q : Cell → MH → Prop) : RK (fSorted [o] h) Q ↔ Q (.lst (nvs (sl n (bitsX l)))) h := by
  unfold fSorted
  simp only [ho]
  rw [sortV_sl hn hl]
  exact rk_some ..
def cuv (cs : List Nat) : Val := .tup (nvs cs)
theorem comp_live {n : Nat} {tg : Tgt} {tt : EM Bool} {te : EM Val} {env0 : ME} {vs : List Val} {Q : List Val → MH → Prop} (I : Nat → List Val → MH → Prop) {h : MH} (h0 : I 0 [] h)
    (hc : ∀ i acc h, I i acc h → h[n]? = some (.lst vs))
    (step : ∀ i v acc h, vs[i]? = some v → I i acc h → ∃ env1, tg v env0 = some env1 ∧ OK (tt env1 h) fun k h1 => if k = true then OK (te env1 h1) (fun u h2 => acc.length < 100000 ∧ I (i + 1) (acc ++ [u]) h2) else I (i + 1) acc h1) (last : ∀ acc h, I vs.length acc h → Q acc h) : OK (loopC (.live n) tg tt te env0 ((Src.live n).size h + 1) 0 [] h) Q := by
  have es : (Src.live n).size h = vs.length := by
    unfold Src.size
    simp only [hc 0 [] h h0]
  rw [es]
  have key : ∀ (f i : Nat) (acc : List Val) (h : MH), I i acc h → i ≤ vs.length → vs.length < f + i → OK (loopC (.live n) tg tt te env0 f i acc h) Q := by
    intro f
    induction f with
    | zero => intro i acc h _ h1 h2; omega
    | succ f ih =>
      intro i acc h hI h1 h2
      unfold loopC
      have ea : (Src.live n).at i h = some vs[i]? := by
        unfold Src.at
        simp only [hc i acc h hI]
      rw [ea]
      by_cases hi : i < vs.length
      · rw [List.getElem?_eq_getElem hi]
        obtain ⟨env1, e1, q⟩ := step i vs[i] acc h (List.getElem?_eq_getElem hi) hI
        simp only [e1]
        rw [ok_bindN]
        refine OK.mono q fun k h1 q => ?_
        cases k with
        | true =>
          simp only [if_true] at q ⊢
          rw [ok_bindN]
          refine OK.mono q fun u h2 ⟨hl, q⟩ => ?_
          rw [if_pos hl]
          exact ih (i + 1) _ _ q (by omega) (by omega)
        | false =>
          simp only [Bool.false_eq_true, if_false] at q ⊢
          exact ih (i + 1) _ _ q (by omega) (by omega)
      · rw [List.getElem?_eq_none (by omega)]
        have : i = vs.length := by omega
        subst this
        simpa using last acc h hI
  exact key _ 0 [] h h0 (Nat.zero_le _) (by omega)
theorem pdO_cuv (h : MH) (cs : List Nat) : pdO h (.val (cuv cs)) = some (.tuple (cs.map fun m : Nat => PyData.int m)) := by
  show ((nvs cs).mapM (pd h 49)).map PyData.tuple = _
  rw [mapM_nats_pd h 48]; rfl
theorem eq_cuv (cs : List Nat) (h : MH) (Q : Val → MH → Prop) : RK (fEq (.val (cuv cs)) (.val (.tup [])) h) Q ↔ Q (.bl (decide (cs = []))) h := by
  unfold fEq
  rw [pdO_cuv, show pdO h (.val (.tup [])) = _ from pdO_cuv h []]
  simp only
  rw [PyData.eqv, eqvAll_nats]
  exact rk_some ..
theorem ne_cuv (cs : List Nat) (h : MH) (Q : Val → MH → Prop) : RK (fNe (.val (cuv cs)) (.val (.tup [])) h) Q ↔ Q (.bl (!decide (cs = []))) h := by
  unfold fNe
  rw [pdO_cuv, show pdO h (.val (.tup [])) = _ from pdO_cuv h []]
  simp only
  rw [PyData.eqv, eqvAll_nats]
  exact rk_some ..
theorem in_cuv (cs : List Nat) (k : Nat) (h : MH) (Q : Val → MH → Prop) : RK (fIn (.val (.int (k : Int))) (.val (cuv cs)) h) Q ↔ Q (.bl (decide (k ∈ cs))) h := by
  have e : fInB (.val (.int (k : Int))) (.val (cuv cs)) h = some (decide (k ∈ cs)) := by
    unfold fInB
    simp only [pdO_cuv]
    show some ((cs.map fun m : Nat => PyData.int m).any fun z => PyData.eqv z (.int (k : Int))) = _
    rw [any_nats]
  unfold fIn
  rw [e]
  exact rk_some ..
theorem notIn_own (cs : List Nat) (k : Nat) (h : MH) (Q : Val → MH → Prop) : RK (fNotIn (.val (.int (k : Int))) (.cell (.lst (nvs cs))) h) Q ↔ Q (.bl (!decide (k ∈ cs))) h := by
  refine notIn_eq ?_
  unfold fInB
  simp only [pdO_cell]
  show some ((cs.map fun m : Nat => PyData.int m).any fun z => PyData.eqv z (.int (k : Int))) = _
  rw [any_nats]
theorem eqv_bool (a b : Bool) : PyData.eqv (.bool a) (.bool b) = decide (a = b) := by
  unfold PyData.eqv
  cases a <;> cases b <;> rfl
theorem ne_bl (a b : Bool) (h : MH) (Q : Val → MH → Prop) : RK (fNe (.val (.bl a)) (.val (.bl b)) h) Q ↔ Q (.bl (!decide (a = b))) h := by
  unfold fNe
  show RK (some (.bl (!PyData.eqv (.bool a) (.bool b)), h)) Q ↔ _
  rw [eqv_bool]
  exact rk_some ..
theorem mapM_bools_pd (h : MH) (n : Nat) : ∀ bs : List Bool, (bs.map Val.bl).mapM (pd h (n + 1)) = some (bs.map PyData.bool)
  | [] => rfl
  | b :: bs => by
    rw [List.map_cons, List.mapM_cons, mapM_bools_pd h n bs]; rfl
theorem in_bools {h : MH} {n : Nat} {bs : List Bool} (hc : h[n]? = some (.lst (bs.map .bl))) (b : Bool) (Q : Val → MH → Prop) : RK (fIn (.val (.bl b)) (.val (.ref n)) h) Q ↔ Q (.bl (decide (b ∈ bs))) h := by
  have e1 : pdO h (.val (.ref n)) = some (.list (bs.map PyData.bool)) := by
    show (match h[n]? with
      | some (.lst vs) => (vs.mapM (pd h 49)).map PyData.list
      | some (.frz vs) => (vs.mapM (pd h 49)).map PyData.list
      | _ => none) = _
    rw [hc]
    simp only
    rw [mapM_bools_pd h 48]; rfl
  have e : fInB (.val (.bl b)) (.val (.ref n)) h = some (decide (b ∈ bs)) := by
    unfold fInB
    simp only [e1]
    show some ((bs.map PyData.bool).any fun z => PyData.eqv z (.bool b)) = _
    congr 1
    clear hc e1
    induction bs with
    | nil => rfl
    | cons a bs ih =>
      rw [List.map_cons, List.any_cons, ih, eqv_bool]
      cases a <;> cases b <;> simp
  unfold fIn
  rw [e]
  exact rk_some ..
theorem nats_of_ints : ∀ l : List Int, (∀ i ∈ l, 0 ≤ i) → l.map Val.int = nvs (l.map Int.toNat) ∧ (l.map Int.toNat).map (fun k : Nat => (k : Int)) = l
  | [], _ => ⟨rfl, rfl⟩
  | i :: l, hp => by
    obtain ⟨a, b⟩ := nats_of_ints l fun i hi => hp i (List.mem_cons_of_mem _ hi)
    have := hp i List.mem_cons_self
    obtain ⟨k, rfl⟩ := Int.eq_ofNat_of_zero_le this
    constructor
    · show Val.int k :: l.map Val.int = nv ((k : Int).toNat) :: nvs (l.map Int.toNat)
      rw [a]; simp [nv]
    · show (((k : Int).toNat : Nat) : Int) :: (l.map Int.toNat).map (fun k : Nat => (k : Int)) = _
      rw [b]; simp
theorem cast_perm {a b : List Nat} (h : (a.map fun k : Nat => (k : Int)).Perm (b.map fun k : Nat => (k : Int))) : a.Perm b := by
  have := h.map Int.toNat
  rw [List.map_map, List.map_map] at this
  have e : ∀ l : List Nat, l.map (Int.toNat ∘ fun k : Nat => (k : Int)) = l := fun l => by
    rw [show (Int.toNat ∘ fun k : Nat => (k : Int)) = id from funext fun k => by simp]
    exact List.map_id l
  rw [e, e] at this
  exact this
theorem sorted_nats {l : List Nat} {o : Opd} {h : MH} (ho : lisOf o h = some (nvs l)) (Q : Cell → MH → Prop) (hq : ∀ l' : List Nat, l'.Perm l → Q (.lst (nvs l')) h) : RK (fSorted [o] h) Q := by
  unfold fSorted
  simp only [ho]
  unfold sortV
  rw [mapM_nvs]
  have hp := sortI_perm (l.map fun k : Nat => (k : Int))
  obtain ⟨a, b⟩ := nats_of_ints (sortI (l.map fun k : Nat => (k : Int))) fun i hi => by
    have := hp.subset hi
    rw [List.mem_map] at this
    obtain ⟨k, _, rfl⟩ := this
    exact Int.natCast_nonneg k
  show RK (some (Cell.lst ((sortI (l.map fun k : Nat => (k : Int))).map Val.int), h)) Q
  rw [a, rk_some]
  refine hq _ (cast_perm ?_)
  rw [b]
  exact hp
theorem nvs_set (A : List Nat) (q f : Nat) : nvs (A.set q f) = (nvs A).set q (.int (f : Nat)) := by
  unfold nvs; rw [List.map_set]; rfl
theorem prs_get {D : List PI2} {i : Nat} {v : Val} (h : (D.map prV)[i]? = some v) : ∃ d, D[i]? = some d ∧ v = prV d := by
  rw [List.getElem?_map] at h
  obtain ⟨d, hd, rfl⟩ := Option.map_eq_some_iff.mp h
  exact ⟨d, hd, rfl⟩
theorem ok_tr1 {env : ME} {h : MH} (m : EM Val) (Q : Val → MH → Prop) : OK (xTR1 m env h) Q ↔ OK (m env h) fun v h1 => ∃ n, v = .int n ∧ rgB 0 n = true ∧ Q (.tup (rngV 0 n.toNat)) h1 := by
  unfold xTR1
  rw [ok_bind]
  cases m env h with
  | ok v h1 =>
    cases v <;> simp [ok_ite]
  | _ => exact ⟨fun h => h.run.elim, fun h => h.run.elim⟩
theorem rng_nvs (N : Nat) : rngV 0 N = nvs (List.range N) := rngV_nvs N
theorem pickI {L : List Int} {r : Int} (h0 : 0 ≤ r) (h1 : r < L.length) : ∃ w ∈ L, L2.atI (L.map Val.int) r = some (.int w) := by
  obtain ⟨j, rfl⟩ := Int.eq_ofNat_of_zero_le h0
  have hj : j < L.length := by omega
  refine ⟨L[j], List.getElem_mem hj, ?_⟩
  rw [atI_ofNat, List.getElem?_map, List.getElem?_eq_getElem hj]; rfl
theorem ne_cuvs (x y : List Nat) (h : MH) (Q : Val → MH → Prop) : RK (fNe (.val (cuv x)) (.val (cuv y)) h) Q ↔ Q (.bl (!decide (x = y))) h := by
  unfold fNe
  rw [pdO_cuv, pdO_cuv]
  simp only
  rw [PyData.eqv, eqvAll_nats]
  exact rk_some ..
end HT

set_option Elab.async false
set_option linter.all false
set_option maxRecDepth 100000
set_option maxHeartbeats 2000000
set_option autoImplicit false
namespace Mi
open PySem L2
section
variable {h : MH} {env : ME}
@[simp] theorem ok_isE (i : Nat) (cn : Str) (b : Bool) (Q : Val → MH → Prop) {e : Exc} (he : env[i]? = some (.exn e)) (hc : e.c = cn) (hf : e.fs ≠ []) : OK (xIsE i cn b env h) Q ↔ Q (.bl b) h := by
  unfold xIsE
  rw [he]
  simp only [hc, if_true]
  cases q : e.fs with
  | nil => exact absurd q hf
  | cons a l => exact ok_ok ..
theorem ok_field (i : Nat) (cn f : Str) (Q : Val → MH → Prop) {e : Exc} {v : Val} (he : env[i]? = some (.exn e)) (hc : e.c = cn) (hl : e.fs.lookup f = some v) : OK (xField i cn f env h) Q ↔ Q v h := by
  unfold xField
  rw [he]
  simp only [hc, if_true, hl]
  exact ok_ok ..
theorem pd_eq {h : MH} {a b : Opd} {x y : PyData} (ha : pdO h a = some x) (hb : pdO h b = some y) (Q : Val → MH → Prop) : RK (fEq a b h) Q ↔ Q (.bl (PyData.eqv x y)) h := by
  unfold fEq
  rw [ha, hb]
  exact rk_some ..
theorem eqv_str (a b : Str) : PyData.eqv (.str a) (.str b) = decide (a = b) := by
  show (a == b) = _
  by_cases e : a = b
  · subst e; simp
  · simp [e]
@[simp] theorem eq_strS (a b : Str) (Q : Val → MH → Prop) : RK (fEq (.val (.str a)) (.val (.str b)) h) Q ↔ Q (.bl (decide (a = b))) h := by
  rw [pd_eq rfl rfl, eqv_str]
@[simp] theorem eq_blB (a b : Bool) (Q : Val → MH → Prop) : RK (fEq (.val (.bl a)) (.val (.bl b)) h) Q ↔ Q (.bl (decide (a = b))) h := by
  rw [pd_eq rfl rfl, HT.eqv_bool]
end
end Mi

set_option Elab.async false
set_option linter.all false
set_option maxRecDepth 100000
set_option maxHeartbeats 2000000
set_option autoImplicit false
namespace HT
open PySem L2 Mi
def Gd (p d : Nat) (h : MH) : Nat → Val → Prop
  | 0, _ => False
  | n + 1, v => v = .non ∨ (∃ b, v = .bl b) ∨ (∃ i, v = .int i) ∨ (∃ s : Str, v = .str s ∧ s.length ≤ 100) ∨ (∃ us, v = .tup us ∧ us.length ≤ 10000 ∧ ∀ u ∈ us, Gd p d h n u) ∨ ∃ q us, v = .ref q ∧ q ≠ p ∧ q ≠ d ∧ h[q]? = some (.lst us) ∧ us.length ≤ 10000 ∧ ∀ u ∈ us, Gd p d h n u
section
variable {p d : Nat} {h : MH} {n : Nat}
def isNum : Val → Bool
  | .int i => decide (0 ≤ i)
  | _ => false
def numB (v : Val) (most : Int) : Bool := match v with
  | .int i => decide (0 ≤ i ∧ i ≤ most)
  | _ => false
def askB (many last : Int) : Val → Option Int
  | .tup [.int i, .int j] => if last < i ∧ 0 ≤ i ∧ i < many ∧ 0 ≤ j ∧ j ≤ 1 then some i else none
  | _ => none
def asksL (many : Int) : Int → List Val → Bool
  | _, [] => true
  | last, v :: vs => match askB many last v with
    | some i => asksL many i vs
    | none => false
def asksV (many : Int) : Val → Bool
  | .tup vs => asksL many (-1) vs
  | _ => false
theorem is_number_ok {v : Val} (g : Gd p d h (n + 1) v) : OK (F_is_number [v] h) fun r h' => r = .bl (isNum v) ∧ h' = h := by
  unfold F_is_number
  rw [fun_ok]
  refine ⟨rfl, ?_⟩
  rcases g with rfl | ⟨b, rfl⟩ | ⟨i, rfl⟩ | ⟨s, rfl, _⟩ | ⟨us, rfl, _⟩ | ⟨q, us, rfl, _, _, hq, _⟩
  all_goals simp [tyName, isTy, isNum, truth]
  simp [hq]
theorem law_number_ok {v : Val} {most : Int} (g : Gd p d h (n + 1) v) : OK (F__law_number [v, .int most] h) fun r h' => r = .bl (numB v most) ∧ h' = h := by
  unfold F__law_number
  rw [fun_ok]
  refine ⟨rfl, ?_⟩
  rcases g with rfl | ⟨b, rfl⟩ | ⟨i, rfl⟩ | ⟨s, rfl, _⟩ | ⟨us, rfl, _⟩ | ⟨q, us, rfl, _, _, hq, _⟩
  all_goals simp [tyName, isTy, numB, truth]
  · split <;> intros <;> omega
  simp [hq]
theorem gd_up : ∀ {n : Nat} {v : Val}, Gd p d h n v → Gd p d h (n + 1) v
  | n + 1, v, g => by
    rcases g with g | g | g | g | ⟨us, e, l, g⟩ | ⟨q, us, e, a, b, c, l, g⟩
    · exact .inl g
    · exact .inr (.inl g)
    · exact .inr (.inr (.inl g))
    · exact .inr (.inr (.inr (.inl g)))
    · exact .inr (.inr (.inr (.inr (.inl ⟨us, e, l, fun u hu => gd_up (g u hu)⟩))))
    · exact .inr (.inr (.inr (.inr (.inr ⟨q, us, e, a, b, c, l, fun u hu => gd_up (g u hu)⟩))))
theorem gd_two {vs : List Val} (h2 : ¬ vs.length = 2) : ∀ many last, askB many last (.tup vs) = none := by
  intro many last
  rcases vs with _ | ⟨a, _ | ⟨b, _ | ⟨c, vs⟩⟩⟩
  · simp [askB]
  · simp [askB]
  · simp at h2
  · simp [askB]
theorem askB_num {a b : Val} {many last : Int} (q : ¬ (isNum a = true ∧ isNum b = true)) : askB many last (.tup [a, b]) = none := by
  cases a <;> cases b <;> simp [askB, isNum] at q ⊢
  omega
theorem is_asks_of_ok {v : Val} {many : Int} (g : Gd p d h (n + 3) v) : OK (F_is_asks_of [.int many, v] h) fun r h' => r = .bl (asksV many v) ∧ h' = h := by
  unfold F_is_asks_of
  rw [fun_ok]
  refine ⟨rfl, ?_⟩
  rcases g with rfl | ⟨b, rfl⟩ | ⟨i, rfl⟩ | ⟨s, rfl, _⟩ | ⟨vs, rfl, hvl, hv⟩ | ⟨q, us, rfl, _, _, hq, _⟩
  · simp [tyName, isTy, asksV, truth]
  · simp [tyName, isTy, asksV, truth]
  · simp [tyName, isTy, asksV, truth]
  · simp [tyName, isTy, asksV, truth]
  · refine sn_step (fun e h' => h' = h ∧ e = [.val (.int many), .val (.tup vs), .no, .no]) (by simp [tyName, isTy, truth]) ?_
    rintro e h1 ⟨rfl, rfl⟩
    refine sn_step (fun e h' => h' = h1 ∧ e = [.val (.int many), .val (.tup vs), .val (.int (-1)), .no]) (by simp) ?_
    rintro e h1 ⟨rfl, rfl⟩
    refine sn_step (fun e h' => h' = h1 ∧ asksV many (.tup vs) = true) ?_ ?_
    · rw [sn_for]
      simp
      refine fold_inv (fun i e h' => h' = h1 ∧ ∃ last a, e = [.val (.int many), .val (.tup vs), .val (.int last), a] ∧ asksV many (.tup vs) = asksL many last (vs.drop i)) ⟨rfl, _, _, rfl, rfl⟩ ?_ ?_
      · rintro i v env h2 hi ⟨rfl, last, a, rfl, hl⟩
        have gv := hv v (List.mem_of_getElem? hi)
        have hi' : i < vs.length := (List.getElem?_eq_some_iff.mp hi).1
        have ed : vs.drop i = v :: vs.drop (i + 1) := by
          rw [List.drop_eq_getElem_cons hi', (List.getElem?_eq_some_iff.mp hi).2]
        rw [ed] at hl
        simp only [asksL] at hl
        refine ⟨_, rfl, ?_⟩
        let pre : ME := [.val (.int many), .val (.tup vs), .val (.int last), .val v]
        refine sn_step (fun e h' => h' = h2 ∧ e = pre ∧ ∃ x y, v = .tup [x, y]) ?_ ?_
        · rcases gv with rfl | ⟨b, rfl⟩ | ⟨i, rfl⟩ | ⟨s, rfl, _⟩ | ⟨us, rfl, _⟩ | ⟨q, us, rfl, _, _, hq, _⟩
          · simp [tyName, isTy, truth, hl, askB]
          · simp [tyName, isTy, truth, hl, askB]
          · simp [tyName, isTy, truth, hl, askB]
          · simp [tyName, isTy, truth, hl, askB]
          · simp [tyName, isTy, truth]
            split
            · rename_i h2
              refine ⟨rfl, ?_⟩
              rcases us with _ | ⟨x, _ | ⟨y, _ | ⟨z, us⟩⟩⟩ <;> simp at h2 ⊢
              omega
            · rename_i h2
              rw [hl, gd_two (by omega)]
          · simp [tyName, isTy, truth, hl, askB, hq]
        rintro e h3 ⟨rfl, rfl, x, y, rfl⟩
        obtain ⟨gx, gy⟩ : Gd p d h3 (n + 1) x ∧ Gd p d h3 (n + 1) y := by
          rcases gv with e | ⟨_, e⟩ | ⟨_, e⟩ | ⟨_, e, _⟩ | ⟨us, e, _, g⟩ | ⟨_, _, e, _⟩
          · cases e
          · cases e
          · cases e
          · cases e
          · cases e; exact ⟨g x (by simp), g y (by simp)⟩
          · cases e
        refine sn_step (fun e h' => h' = h3 ∧ e = pre ∧ isNum x = true ∧ isNum y = true) ?_ ?_
        · simp [pre]
          refine OK.mono (is_number_ok gx) ?_
          rintro r h4 ⟨rfl, rfl⟩
          simp [truth]
          by_cases nx : isNum x = true
          · simp [nx]
            refine OK.mono (is_number_ok gy) ?_
            rintro r h5 ⟨rfl, rfl⟩
            simp [truth]
            by_cases ny : isNum y = true
            · simp [ny]
            · simp [ny, hl, askB_num (a := x) (b := y) (fun z => ny z.2)]
          · simp [nx, hl, askB_num (a := x) (b := y) (fun z => nx z.1)]
        rintro e h4 ⟨rfl, rfl, nx, ny⟩
        cases x <;> simp [isNum] at nx
        cases y <;> simp [isNum] at ny
        rename_i a b
        simp only [askB] at hl
        by_cases c1 : a ≤ last
        · rw [if_neg (by omega)] at hl
          simp [pre, hl, c1]
        · by_cases c2 : many ≤ a
          · rw [if_neg (by omega)] at hl
            simp [pre, hl, c1, c2]
          · by_cases c3 : 1 < b
            · rw [if_neg (by omega)] at hl
              simp [pre, hl, c1, c2, c3]
            · rw [if_pos (by omega)] at hl
              simp [pre, c1, c2, c3, hl]
      · rintro env h2 ⟨rfl, last, a, rfl, hl⟩
        simp [asksL] at hl
        exact ⟨rfl, hl⟩
    rintro e h2 ⟨rfl, e⟩
    simp [e]
  · simp [tyName, isTy, asksV, truth, hq]
theorem askB_numB {a b : Val} {many last : Int} (q : ¬ (numB a (many - 1) = true ∧ numB b 1 = true)) : askB many last (.tup [a, b]) = none := by
  cases a <;> cases b <;> simp [askB, numB] at q ⊢
  omega
theorem pairs_good_ok {v : Val} {many : Int} (g : Gd p d h (n + 3) v) : OK (F__law_pairs_good [.int many, v] h) fun r h' => r = .bl (asksV many v) ∧ h' = h := by
  unfold F__law_pairs_good
  rw [fun_ok]
  refine ⟨rfl, ?_⟩
  rcases g with rfl | ⟨b, rfl⟩ | ⟨i, rfl⟩ | ⟨s, rfl, _⟩ | ⟨vs, rfl, hvl, hv⟩ | ⟨q, us, rfl, _, _, hq, _⟩
  · simp [tyName, isTy, asksV, truth]
  · simp [tyName, isTy, asksV, truth]
  · simp [tyName, isTy, asksV, truth]
  · simp [tyName, isTy, asksV, truth]
  · refine sn_step (fun e h' => h' = h ∧ e = [.val (.int many), .val (.tup vs), .no, .no]) (by simp [tyName, isTy, truth]) ?_
    rintro e h1 ⟨rfl, rfl⟩
    refine sn_step (fun e h' => h' = h1 ∧ e = [.val (.int many), .val (.tup vs), .val (.int (-1)), .no]) (by simp) ?_
    rintro e h1 ⟨rfl, rfl⟩
    refine sn_step (fun e h' => h' = h1 ∧ asksV many (.tup vs) = true) ?_ ?_
    · rw [sn_for]
      simp
      refine fold_inv (fun i e h' => h' = h1 ∧ ∃ last a, e = [.val (.int many), .val (.tup vs), .val (.int last), a] ∧ asksV many (.tup vs) = asksL many last (vs.drop i)) ⟨rfl, _, _, rfl, rfl⟩ ?_ ?_
      · rintro i v env h2 hi ⟨rfl, last, a, rfl, hl⟩
        have gv := hv v (List.mem_of_getElem? hi)
        have hi' : i < vs.length := (List.getElem?_eq_some_iff.mp hi).1
        have ed : vs.drop i = v :: vs.drop (i + 1) := by
          rw [List.drop_eq_getElem_cons hi', (List.getElem?_eq_some_iff.mp hi).2]
        rw [ed] at hl
        simp only [asksL] at hl
        refine ⟨_, rfl, ?_⟩
        let pre : ME := [.val (.int many), .val (.tup vs), .val (.int last), .val v]
        refine sn_step (fun e h' => h' = h2 ∧ e = pre ∧ ∃ x y : Int, v = .tup [.int x, .int y] ∧ askB many last v = some x) ?_ ?_
        · rcases gv with rfl | ⟨b, rfl⟩ | ⟨i, rfl⟩ | ⟨s, rfl, _⟩ | ⟨us, rfl, _, gu⟩ | ⟨q, us, rfl, _, _, hq, _⟩
          · simp [tyName, isTy, truth, hl, askB]
          · simp [tyName, isTy, truth, hl, askB]
          · simp [tyName, isTy, truth, hl, askB]
          · simp [tyName, isTy, truth, hl, askB]
          · rw [sn_if]
            by_cases h2 : us.length = 2
            · rcases us with _ | ⟨x, _ | ⟨y, _ | ⟨z, us⟩⟩⟩
              · simp at h2
              · simp at h2
              · simp [tyName, isTy, truth]
                refine OK.mono (law_number_ok (n := n) (gu x (by simp))) ?_
                rintro r h3 ⟨rfl, rfl⟩
                simp [truth]
                by_cases nx : numB x (many - 1) = true
                · simp [nx]
                  refine OK.mono (law_number_ok (n := n) (gu y (by simp))) ?_
                  rintro r h4 ⟨rfl, rfl⟩
                  simp [truth]
                  by_cases ny : numB y 1 = true
                  · simp [ny]
                    obtain ⟨a, rfl⟩ : ∃ a, x = .int a := by cases x <;> simp [numB] at nx ⊢
                    obtain ⟨b, rfl⟩ : ∃ a, y = .int a := by cases y <;> simp [numB] at ny ⊢
                    simp [numB] at nx ny
                    simp only [askB] at hl
                    by_cases c1 : a ≤ last
                    · rw [if_neg (by omega)] at hl
                      simp [pre, hl, c1]
                    · rw [if_pos (by omega)] at hl
                      simp [pre, c1, hl, askB]
                      omega
                  · simp [ny, hl, askB_numB (a := x) (b := y) (fun z => ny z.2)]
                · simp [nx, hl, askB_numB (a := x) (b := y) (fun z => nx z.1)]
              · simp at h2
            · have : ¬ ((us.length : Int) = 2) := by omega
              simp [tyName, isTy, truth, this, hl, gd_two h2]
          · simp [tyName, isTy, truth, hl, askB, hq]
        rintro e h3 ⟨rfl, rfl, x, y, rfl, ea⟩
        rw [ea] at hl
        simp [pre, hl]
      · rintro env h2 ⟨rfl, last, a, rfl, hl⟩
        simp [asksL] at hl
        exact ⟨rfl, hl⟩
    rintro e h2 ⟨rfl, e⟩
    simp [e]
  · simp [tyName, isTy, asksV, truth, hq]
theorem is_asks_ok {v tour : Val} {ns ts : List Val} (hn : ts[0]? = some (.tup ns)) (ht : tour = .tup ts) (g : Gd p d h (n + 3) v) : OK (F_is_asks [tour, v] h) fun r h' => r = .bl (asksV ns.length v) ∧ h' = h := by
  subst ht
  unfold F_is_asks
  rw [fun_ok]
  refine ⟨rfl, ?_⟩
  cases ts with
  | nil => simp at hn
  | cons t ts =>
    simp at hn
    subst hn
    simp
    exact is_asks_of_ok g
def stgB (v : Val) : Bool := numB v 59
theorem is_stage_ok {v : Val} (g : Gd p d h (n + 1) v) : OK (F_is_stage [v] h) fun r h' => r = .bl (stgB v) ∧ h' = h := by
  unfold F_is_stage
  rw [fun_ok]
  refine ⟨rfl, ?_⟩
  rw [sn_retS]
  simp
  refine OK.mono (is_number_ok g) ?_
  rintro r h1 ⟨rfl, rfl⟩
  cases v <;> simp [isNum, stgB, numB, truth]
  rename_i i
  by_cases c : 0 ≤ i
  · simp [c]
    omega
  · simp [c]
end
end HT

set_option Elab.async false
set_option linter.all false
set_option maxRecDepth 100000
set_option maxHeartbeats 2000000
set_option autoImplicit false
namespace HT
open PySem L2 Mi
def wv (w : String) : Val := .str (Str.ofString w)
def mtB : Val → Bool
  | .tup [] => true
  | _ => false
def lineB (many : Int) : Val → Option String
  | .tup [.str s, b, c, e] => if s ≠ Str.ofString "if" ∧ s ≠ Str.ofString "go" then some "word" else if stgB b = false then some "stage" else if asksV many c = false then some "asks"
    else if s = Str.ofString "go" then (if stgB e = true then none else some "last") else if asksV many e = true ∧ mtB e = false then none else some "last"
  | _ => some "word"
def codeL (many : Int) : Nat → List Val → Option (Int × String)
  | _, [] => none
  | i, v :: vs => match lineB many v with
    | some w => some ((i : Int), w)
    | none => codeL many (i + 1) vs
def fault (many : Int) : Val → Option (Int × String)
  | .tup vs => if 1000 < vs.length then some (-1, "shape") else codeL many 0 vs
  | _ => some (-1, "shape")
def fv : Option (Int × String) → Val
  | none => .non
  | some (at_, w) => .tup [.int at_, wv w]
def bcE (at_ : Int) (w : String) : Exc := ⟨"BadCode", [("at", .int at_), ("word", wv w)]⟩
theorem line_none {many : Int} {v : Val} (h : ∀ s b c e, v ≠ .tup [.str s, b, c, e]) : lineB many v = some "word" := by
  unfold lineB
  split
  · rename_i s b c e
    exact absurd rfl (h s b c e)
  · rfl
theorem ifgo (s : Str) (h : MH) (Q : Val → MH → Prop) : RK (fNotIn (.val (.str s)) (.val (.tup [.str (Str.ofString "if"), .str (Str.ofString "go")])) h) Q ↔ Q (.bl (decide (s ≠ Str.ofString "if" ∧ s ≠ Str.ofString "go"))) h := by
  rw [show ([.str (Str.ofString "if"), .str (Str.ofString "go")] : List Val) = [Str.ofString "if", Str.ofString "go"].map .str from rfl, notIn_strsT]
  have e : (!(([Str.ofString "if", Str.ofString "go"].map PyData.str).any fun z => PyData.eqv z (.str s))) = decide (s ≠ Str.ofString "if" ∧ s ≠ Str.ofString "go") := by
    simp only [List.map_cons, List.map_nil, List.any_cons, List.any_nil, eqv_str, Bool.or_false]
    by_cases a : s = Str.ofString "if"
    · simp [a]
    · by_cases b : s = Str.ofString "go"
      · simp [b]
      · simp [a, b, Ne.symm a, Ne.symm b]
  rw [e]
section
variable {p d : Nat} {h : MH} {n : Nat}
theorem check_ok {thing : Val} {ns ts : List Val} (hn : ts[0]? = some (.tup ns)) (g : Gd p d h (n + 6) thing) : OX (F_check_code [.tup ts, thing] h) (fun v h' => fault ns.length thing = none ∧ (∃ vs, thing = .tup vs ∧ v = .int vs.length) ∧ h' = h) (fun e h' => ∃ at_ w, fault ns.length thing = some (at_, w) ∧ e = bcE at_ w ∧ h' = h) := by
  unfold F_check_code
  refine fun_ox rfl ?_
  refine sx_step (fun e h' => h' = h ∧ e = [.val (.tup ts), .val thing, .no, .no] ∧ ∃ vs, thing = .tup vs ∧ vs.length ≤ 1000) ?_ ?_
  · refine sx_if ?_
    rcases g with rfl | ⟨b, rfl⟩ | ⟨i, rfl⟩ | ⟨s, rfl, _⟩ | ⟨vs, rfl, hvl, hv⟩ | ⟨q, us, rfl, _, _, hq, _⟩
    · simp [tyName, isTy, truth]
      refine sx_raise2 ?_
      simp
      exact ⟨_, _, ⟨rfl, rfl⟩, -1, "shape", rfl, rfl⟩
    · simp [tyName, isTy, truth]
      refine sx_raise2 ?_
      simp
      exact ⟨_, _, ⟨rfl, rfl⟩, -1, "shape", rfl, rfl⟩
    · simp [tyName, isTy, truth]
      refine sx_raise2 ?_
      simp
      exact ⟨_, _, ⟨rfl, rfl⟩, -1, "shape", rfl, rfl⟩
    · simp [tyName, isTy, truth]
      refine sx_raise2 ?_
      simp
      exact ⟨_, _, ⟨rfl, rfl⟩, -1, "shape", rfl, rfl⟩
    · simp [tyName, isTy, truth]
      split
      · rename_i hb
        refine sx_raise2 ?_
        simp
        exact ⟨_, _, ⟨rfl, rfl⟩, -1, "shape", by simp [fault]; omega, rfl⟩
      · rename_i hb
        refine sx_nil ?_
        exact ⟨rfl, rfl, by omega⟩
    · simp [tyName, isTy, truth, hq]
      refine sx_raise2 ?_
      simp
      exact ⟨_, _, ⟨rfl, rfl⟩, -1, "shape", rfl, rfl⟩
  rintro e h1 ⟨rfl, rfl, vs, rfl, hvl⟩
  have hv : ∀ v ∈ vs, Gd p d h1 (n + 5) v := by
    rcases g with e | ⟨_, e⟩ | ⟨_, e⟩ | ⟨_, e, _⟩ | ⟨us, e, _, g⟩ | ⟨_, _, e, _⟩
    all_goals cases e
    exact g
  have hf : fault ns.length (.tup vs) = codeL ns.length 0 vs := by simp [fault]; omega
  refine sx_step (fun e h' => h' = h1 ∧ codeL ns.length 0 vs = none ∧ ∃ a b, e = [.val (.tup ts), .val (.tup vs), a, b]) ?_ ?_
  · refine sx_for (vs := rngV 0 vs.length) (fun i e h' => h' = h1 ∧ (∃ a b, e = [.val (.tup ts), .val (.tup vs), a, b]) ∧ codeL ns.length 0 vs = codeL ns.length i (vs.drop i)) ?_ ?_ ?_
    · simp
      omega
    · rintro i v env h2 hi ⟨rfl, ⟨a, b, rfl⟩, hc⟩
      obtain ⟨hi', rfl⟩ := rng_at hi
      refine ⟨_, rfl, ?_⟩
      have ed : vs.drop i = vs[i] :: vs.drop (i + 1) := List.drop_eq_getElem_cons hi'
      rw [ed] at hc
      simp only [codeL] at hc
      have gv := hv vs[i] (List.getElem_mem hi')
      have ei : vs[i]? = some vs[i] := List.getElem?_eq_getElem hi'
      generalize hw : vs[i] = v at *
      let pre : ME := [.val (.tup ts), .val (.tup vs), .val (.int i), .val v]
      have bad : ∀ w, lineB ns.length v = some w → codeL ns.length 0 vs = some ((i : Int), w) := fun w e => by rw [hc, e]
      refine sx_step (fun e h' => h' = h2 ∧ e = pre) (.sn ?_) ?_
      · simp [ei, pre]
      rintro e h3 ⟨rfl, rfl⟩
      have RS : ∀ (u : Val) (w : String) (P : Po), u = v → lineB ns.length v = some w → SX (Two.sRaise "BadCode" (vCons (xVar 2) (vCons (xC (wv w)) vNil)) [.val (.tup ts), .val (.tup vs), .val (.int i), .val u] h3) P (fun e _ h' => ∃ at_ w, fault ns.length (.tup vs) = some (at_, w) ∧ e = bcE at_ w ∧ h' = h3) := fun u w P hu hw => by
        subst hu
        refine sx_raise2 ?_
        simp
        exact ⟨_, _, ⟨rfl, rfl⟩, i, w, by rw [hf]; exact bad w hw, rfl⟩
      refine sx_step (fun e h' => h' = h3 ∧ e = pre ∧ ∃ x b c e, v = .tup [x, b, c, e]) ?_ ?_
      · refine sx_if ?_
        rcases gv with e | ⟨_, e⟩ | ⟨_, e⟩ | ⟨_, e, _⟩ | ⟨us, e, _, gu⟩ | ⟨q, us, e, _, _, hq, _⟩
        · simp [pre, e, tyName, isTy, truth]
          exact RS _ "word" _ e.symm (by rw [e]; rfl)
        · simp [pre, e, tyName, isTy, truth]
          exact RS _ "word" _ e.symm (by rw [e]; rfl)
        · simp [pre, e, tyName, isTy, truth]
          exact RS _ "word" _ e.symm (by rw [e]; rfl)
        · simp [pre, e, tyName, isTy, truth]
          exact RS _ "word" _ e.symm (by rw [e]; rfl)
        · simp [pre, e, tyName, isTy, truth]
          split
          · rename_i hl
            refine sx_nil ⟨rfl, rfl, ?_⟩
            rcases us with _ | ⟨x, _ | ⟨y, _ | ⟨z, _ | ⟨z2, _ | ⟨z3, us⟩⟩⟩⟩⟩ <;> simp at hl ⊢
            omega
          · rename_i hl
            refine RS _ "word" _ e.symm (by rw [e]; exact line_none fun s b c y z => by cases z; simp at hl)
        · simp [pre, e, tyName, isTy, truth, hq]
          exact RS _ "word" _ e.symm (by rw [e]; rfl)
      rintro e h4 ⟨rfl, rfl, x, b, c, y, ev⟩
      have RS : ∀ (w : String) (P : Po), lineB ns.length v = some w → SX (Two.sRaise "BadCode" (vCons (xVar 2) (vCons (xC (wv w)) vNil)) [.val (.tup ts), .val (.tup vs), .val (.int i), .val (.tup [x, b, c, y])] h4) P (fun e _ h' => ∃ at_ w, fault ns.length (.tup vs) = some (at_, w) ∧ e = bcE at_ w ∧ h' = h4) := fun w P hw => RS _ w P ev.symm hw
      have gg : ∀ u ∈ [x, b, c, y], Gd p d h4 (n + 4) u := by
        rcases gv with e | ⟨_, e⟩ | ⟨_, e⟩ | ⟨_, e, _⟩ | ⟨us, e, _, g⟩ | ⟨_, _, e, _⟩
        all_goals rw [ev] at e; cases e
        exact g
      subst ev
      have gx := gg x (by simp)
      have gb := gg b (by simp)
      have gc := gg c (by simp)
      have gy := gg y (by simp)
      refine sx_step (fun e h' => h' = h4 ∧ e = pre ∧ ∃ s, x = .str s ∧ (s = Str.ofString "if" ∨ s = Str.ofString "go")) ?_ ?_
      · refine sx_if ?_
        have wd : (∀ s, x ≠ .str s) → lineB ns.length (.tup [x, b, c, y]) = some "word" := fun z => line_none fun s b' c' y' q => by cases q; exact z _ rfl
        rcases gx with e | ⟨_, e⟩ | ⟨_, e⟩ | ⟨s, e, _⟩ | ⟨us, e, _⟩ | ⟨q, us, e, _, _, hq, _⟩
        · subst e
          simp [pre, tyName, isTy, truth]
          exact RS "word" _ (wd (by simp))
        · subst e
          simp [pre, tyName, isTy, truth]
          exact RS "word" _ (wd (by simp))
        · subst e
          simp [pre, tyName, isTy, truth]
          exact RS "word" _ (wd (by simp))
        · subst e
          simp [pre, tyName, isTy, truth]
          rw [ifgo]
          by_cases c1 : s = Str.ofString "if"
          · simp [c1]
            exact sx_nil (by simp)
          · by_cases c2 : s = Str.ofString "go"
            · simp [c2]
              exact sx_nil (by simp)
            · simp [c1, c2]
              exact RS "word" _ (by simp [lineB, c1, c2])
        · subst e
          simp [pre, tyName, isTy, truth]
          exact RS "word" _ (wd (by simp))
        · subst e
          simp [pre, tyName, isTy, truth, hq]
          exact RS "word" _ (wd (by simp))
      rintro e h5 ⟨rfl, rfl, s, rfl, hs⟩
      have hs' : ¬ (s ≠ Str.ofString "if" ∧ s ≠ Str.ofString "go") := by
        rintro ⟨a, b⟩
        rcases hs with hs | hs
        · exact a hs
        · exact b hs
      refine sx_step (fun e h' => h' = h5 ∧ e = pre ∧ stgB b = true) ?_ ?_
      · refine sx_if ?_
        simp [pre]
        refine OK.mono (is_stage_ok gb) ?_
        rintro r h6 ⟨rfl, rfl⟩
        simp [truth]
        by_cases q : stgB b = true
        · simp [q]
          exact sx_nil (by simp)
        · simp [q]
          exact RS "stage" _ (by simp only [lineB, if_neg hs']; simp [q])
      rintro e h6 ⟨rfl, rfl, q1⟩
      refine sx_step (fun e h' => h' = h6 ∧ e = pre ∧ asksV ns.length c = true) ?_ ?_
      · refine sx_if ?_
        simp [pre]
        refine OK.mono (is_asks_ok hn rfl gc) ?_
        rintro r h7 ⟨rfl, rfl⟩
        simp [truth]
        by_cases q : asksV ns.length c = true
        · simp [q]
          exact sx_nil (by simp)
        · simp [q]
          exact RS "asks" _ (by simp only [lineB, if_neg hs']; simp [q, q1])
      rintro e h7 ⟨rfl, rfl, q2⟩
      have cont : lineB ns.length (.tup [.str s, b, c, y]) = none → ((∃ a b, pre = [.val (.tup ts), .val (.tup vs), a, b]) ∧ codeL ns.length 0 vs = codeL ns.length (i + 1) (vs.drop (i + 1))) := fun q => ⟨⟨_, _, rfl⟩, by rw [hc, q]⟩
      have le : lineB ns.length (.tup [.str s, b, c, y]) = if s = Str.ofString "go" then (if stgB y = true then none else some "last") else if asksV ns.length y = true ∧ mtB y = false then none else some "last" := by
        simp only [lineB, if_neg hs']
        simp [q1, q2]
      rcases hs with hs | hs
      · subst hs
        have ng : ¬ (Str.ofString "if" = Str.ofString "go") := by decide
        rw [if_neg ng] at le
        refine sx_step (fun e h' => h' = h7 ∧ e = pre) ?_ ?_
        · refine sx_if ?_
          simp [pre, ng]
          exact sx_nil (by simp)
        rintro e h8 ⟨rfl, rfl⟩
        refine sx_if ?_
        simp [pre]
        refine OK.mono (is_asks_ok hn rfl gy) ?_
        rintro r h9 ⟨rfl, rfl⟩
        simp [truth]
        by_cases q : asksV ns.length y = true
        · obtain ⟨us, rfl⟩ : ∃ us, y = .tup us := by cases y <;> simp [asksV] at q ⊢
          simp [q]
          cases us with
          | nil =>
            simp
            exact RS "last" _ (by rw [le]; simp [mtB])
          | cons u us =>
            have hl : ¬ ((us.length : Int) + 1 = 0) := by omega
            simp [hl]
            exact sx_nil ⟨rfl, cont (by rw [le, if_pos ⟨q, rfl⟩])⟩
        · simp [q]
          exact RS "last" _ (by rw [le, if_neg (fun z => q z.1)])
      · subst hs
        rw [if_pos rfl] at le
        refine sx_step (fun e h' => h' = h7 ∧ e = pre ∧ stgB y = true) ?_ ?_
        · refine sx_if ?_
          simp [pre]
          refine OK.mono (is_stage_ok gy) ?_
          rintro r h8 ⟨rfl, rfl⟩
          simp [truth]
          by_cases q : stgB y = true
          · simp [q]
            exact sx_nil (by simp)
          · simp [q]
            exact RS "last" _ (by rw [le, if_neg q])
        rintro e h8 ⟨rfl, rfl, q3⟩
        refine sx_if ?_
        have ng : ¬ (Str.ofString "go" = Str.ofString "if") := by decide
        simp [pre, ng]
        exact sx_nil ⟨rfl, cont (by rw [le, if_pos q3])⟩
    · rintro env h2 ⟨rfl, ⟨a, b, rfl⟩, hc⟩
      rw [rng_len] at hc
      simp [codeL] at hc
      exact ⟨rfl, hc, a, b, rfl⟩
  rintro e h2 ⟨rfl, hc, a, b, rfl⟩
  refine .sn ?_
  simp [hf, hc]
end
end HT

set_option Elab.async false
set_option linter.all false
set_option maxRecDepth 100000
set_option maxHeartbeats 2000000
set_option autoImplicit false
namespace HT
open PySem L2 Mi
section
variable {p d : Nat} {h : MH} {n : Nat}
theorem law_fault_ok {thing : Val} {many : Int} (g : Gd p d h (n + 6) thing) : OK (F__law_fault [.int many, thing] h) fun r h' => r = fv (fault many thing) ∧ h' = h := by
  unfold F__law_fault
  rw [fun_ok]
  refine ⟨rfl, ?_⟩
  refine sn_step (fun e h' => h' = h ∧ e = [.val (.int many), .val thing, .no, .no] ∧ ∃ vs, thing = .tup vs ∧ vs.length ≤ 1000) ?_ ?_
  · rcases g with rfl | ⟨b, rfl⟩ | ⟨i, rfl⟩ | ⟨s, rfl, _⟩ | ⟨vs, rfl, hvl, hv⟩ | ⟨q, us, rfl, _, _, hq, _⟩
    · simp [tyName, isTy, truth, fault, fv, wv]
    · simp [tyName, isTy, truth, fault, fv, wv]
    · simp [tyName, isTy, truth, fault, fv, wv]
    · simp [tyName, isTy, truth, fault, fv, wv]
    · by_cases hb : 1000 < vs.length
      · have hb' : (1000 : Int) < vs.length := by omega
        simp [tyName, isTy, truth, fault, fv, wv, hb, hb']
      · have hb' : ¬ (1000 : Int) < vs.length := by omega
        simp [tyName, isTy, truth, hb']
        omega
    · simp [tyName, isTy, truth, fault, fv, wv, hq]
  rintro e h1 ⟨rfl, rfl, vs, rfl, hvl⟩
  have hv : ∀ v ∈ vs, Gd p d h1 (n + 5) v := by
    rcases g with e | ⟨_, e⟩ | ⟨_, e⟩ | ⟨_, e, _⟩ | ⟨us, e, _, g⟩ | ⟨_, _, e, _⟩
    all_goals cases e
    exact g
  have hf : fault many (.tup vs) = codeL many 0 vs := by simp [fault]; omega
  rw [hf]
  refine sn_step (fun e h' => h' = h1 ∧ codeL many 0 vs = none) ?_ ?_
  · rw [sn_for]
    simp
    refine ⟨by omega, ?_⟩
    refine fold_inv (fun i e h' => h' = h1 ∧ (∃ a b, e = [.val (.int many), .val (.tup vs), a, b]) ∧ codeL many 0 vs = codeL many i (vs.drop i)) ⟨rfl, ⟨_, _, rfl⟩, rfl⟩ ?_ ?_
    · rintro i v env h2 hi ⟨rfl, ⟨a, b, rfl⟩, hc⟩
      obtain ⟨hi', rfl⟩ := rng_at hi
      refine ⟨_, rfl, ?_⟩
      have ed : vs.drop i = vs[i] :: vs.drop (i + 1) := List.drop_eq_getElem_cons hi'
      rw [ed] at hc
      simp only [codeL] at hc
      have gv := hv vs[i] (List.getElem_mem hi')
      have ei : vs[i]? = some vs[i] := List.getElem?_eq_getElem hi'
      generalize hw : vs[i] = v at *
      let pre : ME := [.val (.int many), .val (.tup vs), .val (.int i), .val v]
      have bad : ∀ w, lineB many v = some w → Val.tup [.int i, wv w] = fv (codeL many 0 vs) := fun w e => by rw [hc, e]; rfl
      refine sn_step (fun e h' => h' = h2 ∧ e = pre) ?_ ?_
      · simp [ei, pre]
      rintro e h3 ⟨rfl, rfl⟩
      refine sn_step (fun e h' => h' = h3 ∧ e = pre ∧ ∃ s b c e, v = .tup [.str s, b, c, e] ∧ (s = Str.ofString "if" ∨ s = Str.ofString "go")) ?_ ?_
      · rw [sn_if]
        rcases gv with e | ⟨_, e⟩ | ⟨_, e⟩ | ⟨_, e, _⟩ | ⟨us, e, _, gu⟩ | ⟨q, us, e, _, _, hq, _⟩
        · simp [pre, e, tyName, isTy, truth]
          exact bad "word" (by rw [e]; rfl)
        · simp [pre, e, tyName, isTy, truth]
          exact bad "word" (by rw [e]; rfl)
        · simp [pre, e, tyName, isTy, truth]
          exact bad "word" (by rw [e]; rfl)
        · simp [pre, e, tyName, isTy, truth]
          exact bad "word" (by rw [e]; rfl)
        · by_cases hl : us.length = 4
          · rcases us with _ | ⟨x, _ | ⟨b, _ | ⟨c, _ | ⟨y, _ | ⟨z3, us⟩⟩⟩⟩⟩
            · simp at hl
            · simp at hl
            · simp at hl
            · simp at hl
            · have wd : (∀ s, x ≠ .str s) → Val.tup [.int i, wv "word"] = fv (codeL many 0 vs) := fun z => bad "word" (by rw [e]; exact line_none fun s b' c' y' q => by cases q; exact z _ rfl)
              have gx := gu x (by simp)
              subst e
              rcases gx with e | ⟨_, e⟩ | ⟨_, e⟩ | ⟨s, e, _⟩ | ⟨us, e, _⟩ | ⟨q, us, e, _, _, hq, _⟩
              · subst e
                simp [pre, tyName, isTy, truth]
                exact wd (by simp)
              · subst e
                simp [pre, tyName, isTy, truth]
                exact wd (by simp)
              · subst e
                simp [pre, tyName, isTy, truth]
                exact wd (by simp)
              · subst e
                simp [pre, tyName, isTy, truth]
                rw [ifgo]
                by_cases c1 : s = Str.ofString "if"
                · simp [c1]
                · by_cases c2 : s = Str.ofString "go"
                  · simp [c2]
                  · simp [c1, c2]
                    exact bad "word" (by simp [lineB, c1, c2])
              · subst e
                simp [pre, tyName, isTy, truth]
                exact wd (by simp)
              · subst e
                simp [pre, tyName, isTy, truth, hq]
                exact wd (by simp)
            · simp at hl
          · have hl' : ¬ ((us.length : Int) = 4) := by omega
            simp [pre, e, tyName, isTy, truth, hl']
            exact bad "word" (by rw [e]; exact line_none fun s b c y z => by cases z; simp at hl)
        · simp [pre, e, tyName, isTy, truth, hq]
          exact bad "word" (by rw [e]; rfl)
      rintro e h4 ⟨rfl, rfl, s, b, c, y, ev, hs⟩
      have gg : ∀ u ∈ [.str s, b, c, y], Gd p d h4 (n + 4) u := by
        rcases gv with e | ⟨_, e⟩ | ⟨_, e⟩ | ⟨_, e, _⟩ | ⟨us, e, _, g⟩ | ⟨_, _, e, _⟩
        all_goals rw [ev] at e; cases e
        exact g
      subst ev
      have gb := gg b (by simp)
      have gc := gg c (by simp)
      have gy := gg y (by simp)
      have hs' : ¬ (s ≠ Str.ofString "if" ∧ s ≠ Str.ofString "go") := by
        rintro ⟨a, b⟩
        rcases hs with hs | hs
        · exact a hs
        · exact b hs
      refine sn_step (fun e h' => h' = h4 ∧ e = pre ∧ stgB b = true) ?_ ?_
      · rw [sn_if]
        simp [pre]
        refine OK.mono (law_number_ok gb) ?_
        rintro r h6 ⟨rfl, rfl⟩
        simp [truth]
        by_cases q : stgB b = true
        · simp [show numB b 59 = true from q, q]
        · simp [show ¬ numB b 59 = true from q]
          exact bad "stage" (by simp only [lineB, if_neg hs']; simp [q])
      rintro e h6 ⟨rfl, rfl, q1⟩
      refine sn_step (fun e h' => h' = h6 ∧ e = pre ∧ asksV many c = true) ?_ ?_
      · rw [sn_if]
        simp [pre]
        refine OK.mono (pairs_good_ok gc) ?_
        rintro r h7 ⟨rfl, rfl⟩
        simp [truth]
        by_cases q : asksV many c = true
        · simp [q]
        · simp [q]
          exact bad "asks" (by simp only [lineB, if_neg hs']; simp [q, q1])
      rintro e h7 ⟨rfl, rfl, q2⟩
      have cont : lineB many (.tup [.str s, b, c, y]) = none → (∃ a b, pre = [.val (.int many), .val (.tup vs), a, b]) ∧ codeL many 0 vs = codeL many (i + 1) (vs.drop (i + 1)) := fun q => ⟨⟨_, _, rfl⟩, by rw [hc, q]⟩
      have le : lineB many (.tup [.str s, b, c, y]) = if s = Str.ofString "go" then (if stgB y = true then none else some "last") else if asksV many y = true ∧ mtB y = false then none else some "last" := by
        simp only [lineB, if_neg hs']
        simp [q1, q2]
      rcases hs with hs | hs
      · subst hs
        have ng : ¬ (Str.ofString "if" = Str.ofString "go") := by decide
        rw [if_neg ng] at le
        rw [sn_if]
        simp [pre]
        refine OK.mono (pairs_good_ok gy) ?_
        rintro r h9 ⟨rfl, rfl⟩
        simp [truth]
        by_cases q : asksV many y = true
        · obtain ⟨us, rfl⟩ : ∃ us, y = .tup us := by cases y <;> simp [asksV] at q ⊢
          simp [q]
          cases us with
          | nil =>
            simp
            exact bad "last" (by rw [le]; simp [mtB])
          | cons u us =>
            have hl : ¬ ((us.length : Int) + 1 = 0) := by omega
            simp [hl]
            exact (cont (by rw [le, if_pos ⟨q, rfl⟩])).2
        · simp [q]
          exact bad "last" (by rw [le, if_neg (fun z => q z.1)])
      · subst hs
        have ng : ¬ (Str.ofString "go" = Str.ofString "if") := by decide
        rw [if_pos rfl] at le
        rw [sn_if]
        simp [pre]
        refine OK.mono (law_number_ok gy) ?_
        rintro r h8 ⟨rfl, rfl⟩
        simp [truth]
        by_cases q : stgB y = true
        · simp [show numB y 59 = true from q]
          exact (cont (by rw [le, if_pos q])).2
        · simp [show ¬ numB y 59 = true from q]
          exact bad "last" (by rw [le, if_neg q])
    · rintro env h2 ⟨rfl, ⟨a, b, rfl⟩, hc⟩
      rw [rng_len] at hc
      simp [codeL] at hc
      exact ⟨rfl, hc⟩
  rintro e h2 ⟨rfl, hc⟩
  simp [hc, fv]
end
end HT

set_option Elab.async false
set_option linter.all false
set_option maxRecDepth 100000
set_option maxHeartbeats 2000000
set_option autoImplicit false
namespace HT
open PySem L2 Mi
section
variable {p d : Nat} {h : MH} {n : Nat}
theorem is_code_ok {thing : Val} {ns ts : List Val} (hn : ts[0]? = some (.tup ns)) (g : Gd p d h (n + 6) thing) : OK (F_is_code [.tup ts, thing] h) fun r h' => r = .bl (decide (fault ns.length thing = none)) ∧ h' = h := by
  unfold F_is_code
  rw [fun_ok]
  refine ⟨rfl, ?_⟩
  refine sn_step (fun e h' => fault ns.length thing = none ∧ h' = h) ?_ ?_
  · refine sn_try0 ?_
    refine sx_drop ?_
    simp
    refine ⟨(check_ok hn g).run.imp (fun q => OK.mono q ?_) ?_⟩
    · rintro v h1 ⟨hf, _, rfl⟩
      exact ⟨hf, rfl⟩
    · rintro ⟨e, h1, q, at_, w, hf, rfl, rfl⟩
      refine ⟨_, _, q, rfl, ?_⟩
      simp [hf]
  rintro e h1 ⟨hf, rfl⟩
  simp [hf]
def toldV (many : Int) (thing : Val) (ln : Nat) : Val := match fault many thing with
  | none => .tup [wv "told", .int ln]
  | some (at_, w) => .tup [wv "bad", .int at_, wv w]
def lenV : Val → Nat
  | .tup vs => vs.length
  | _ => 0
theorem told_ok {thing : Val} {ns ts : List Val} (hn : ts[0]? = some (.tup ns)) (g : Gd p d h (n + 6) thing) : OK (F__law_told [.tup ts, thing] h) fun r h' => r = toldV ns.length thing (lenV thing) ∧ h' = h := by
  unfold F__law_told
  rw [fun_ok]
  refine ⟨rfl, ?_⟩
  refine sn_tryS ?_
  refine sx_told ?_
  simp
  refine ⟨(check_ok hn g).run.imp (fun q => OK.mono q ?_) ?_⟩
  · rintro v h1 ⟨hf, ⟨vs, rfl, rfl⟩, rfl⟩
    simp [toldV, hf, lenV, wv]
  · rintro ⟨e, h1, q, at_, w, hf, rfl, rfl⟩
    refine ⟨_, _, q, rfl, ?_⟩
    have f1 : ∀ (h : MH) (Q : Val → MH → Prop) (env : ME) (b : Bool), env[2]? = some (.exn (bcE at_ w)) → (OK (xIsE 2 "BadCode" b env h) Q ↔ Q (.bl b) h) := fun h Q env b he => ok_isE 2 _ b Q he rfl (by simp [bcE])
    have f2 : ∀ (h : MH) (Q : Val → MH → Prop) (env : ME), env[2]? = some (.exn (bcE at_ w)) → (OK (xField 2 "BadCode" "at" env h) Q ↔ Q (.int at_) h) := fun h Q env he => ok_field 2 _ _ Q he rfl rfl
    have f3 : ∀ (h : MH) (Q : Val → MH → Prop) (env : ME), env[2]? = some (.exn (bcE at_ w)) → (OK (xField 2 "BadCode" "word" env h) Q ↔ Q (wv w) h) := fun h Q env he => ok_field 2 _ _ Q he rfl rfl
    generalize hE : (wipeX ([Val.tup ts, thing].map Sl.val ++ List.replicate (3 - 2) Sl.no)).set 2 (.exn (bcE at_ w)) = E
    have hE : (wipeX [Sl.val (.tup ts), Sl.val thing, Sl.no]).set 2 (.exn (bcE at_ w)) = E := hE
    have he : E[2]? = some (.exn (bcE at_ w)) := by rw [← hE]; rfl
    simp only [hE]
    simp [f1 _ _ _ _ he, truth]
    simp [f2 _ _ _ he, f3 _ _ _ he, toldV, hf, wv]
def Ev : Nat → Val → Prop
  | 0, _ => False
  | n + 1, v => (∃ i, v = .int i) ∨ (∃ s, v = .str s) ∨ ∃ us, v = .tup us ∧ us.length ≤ 1000 ∧ ∀ u ∈ us, Ev n u
theorem evenR : ∀ (n : Nat) (v : Val) (h : MH), Ev n v → OK (R__law_even n [v, v] h) fun r h' => r = .bl true ∧ h' = h
  | n + 1, v, h, e => by
    show OK (G__law_even (R__law_even n) [v, v] h) _
    unfold G__law_even
    rw [fun_ok]
    refine ⟨rfl, ?_⟩
    rcases e with ⟨i, rfl⟩ | ⟨s, rfl⟩ | ⟨us, rfl, hl, hu⟩
    · simp [tyName, isTy, truth]
    · simp [tyName, isTy, truth]
    · refine sn_step (fun _ _ => False) ?_ (fun _ _ z => z.elim)
      simp [tyName, isTy, truth]
      refine ⟨by omega, ?_⟩
      refine comp_inv (fun _ acc h2 => acc = [] ∧ h2 = h) ⟨rfl, rfl⟩ ?_ ?_
      · rintro j w acc h2 hv ⟨rfl, rfl⟩
        obtain ⟨hj, rfl⟩ := rng_at hv
        refine ⟨_, rfl, ?_⟩
        simp [hj, wipeM]
        refine OK.mono (evenR n _ h2 (hu _ (List.getElem_mem hj))) ?_
        rintro r h3 ⟨rfl, rfl⟩
        simp [truth]
      · rintro acc h2 ⟨rfl, rfl⟩
        simp
theorem even_ok {v : Val} {h : MH} (p : Ev 6 v) : OK (F__law_even [v, v] h) fun r h' => r = .bl true ∧ h' = h := by
  unfold F__law_even
  exact evenR 6 v h p
theorem ev_told (many : Int) (thing : Val) (k : Nat) : Ev 6 (toldV many thing k) := by
  unfold toldV
  split
  · exact .inr (.inr ⟨_, rfl, by simp, fun u hu => by
      simp at hu
      rcases hu with rfl | rfl
      · exact .inr (.inl ⟨_, rfl⟩)
      · exact .inl ⟨_, rfl⟩⟩)
  · exact .inr (.inr ⟨_, rfl, by simp, fun u hu => by
      simp at hu
      rcases hu with rfl | rfl | rfl
      · exact .inr (.inl ⟨_, rfl⟩)
      · exact .inl ⟨_, rfl⟩
      · exact .inr (.inl ⟨_, rfl⟩)⟩)
theorem asked_ok {thing : Val} {ns ts : List Val} (hn : ts[0]? = some (.tup ns)) (g : Gd p d h (n + 6) thing) : OK (F__law_asked [.tup ts, thing] h) fun r h' => r = .bl true ∧ h' = h := by
  unfold F__law_asked
  rw [fun_ok]
  refine ⟨rfl, ?_⟩
  have hn0 : L2.atI ts 0 = some (.tup ns) := by rw [atI_nn _ (by omega)]; exact hn
  let pre : ME := [.val (.tup ts), .val thing, .val (fv (fault ns.length thing))]
  refine sn_step (fun e h' => h' = h ∧ e = pre ++ [.no, .no]) ?_ ?_
  · simp [hn]
    refine OK.mono (law_fault_ok g) ?_
    rintro r h1 ⟨rfl, rfl⟩
    exact ⟨rfl, rfl⟩
  rintro e h1 ⟨rfl, rfl⟩
  refine sn_step (fun e h' => h' = h1 ∧ e = pre ++ [.val (toldV ns.length thing (lenV thing)), .no]) ?_ ?_
  · simp [pre]
    cases q : fault ns.length thing with
    | none =>
      obtain ⟨vs, rfl⟩ : ∃ vs, thing = .tup vs := by cases thing <;> simp [fault] at q ⊢
      simp [fv, isNonO, toldV, q, lenV, wv]
    | some r =>
      obtain ⟨a, w⟩ := r
      simp [fv, isNonO, toldV, q, wv]
  rintro e h2 ⟨rfl, rfl⟩
  refine sn_step (fun e h' => h' = h2 ∧ e = pre ++ [.val (toldV ns.length thing (lenV thing)), .val (.bl (decide (fault ns.length thing = none)))]) ?_ ?_
  · simp [pre]
    refine OK.mono (is_code_ok hn g) ?_
    rintro r h3 ⟨rfl, rfl⟩
    exact ⟨rfl, rfl⟩
  rintro e h3 ⟨rfl, rfl⟩
  simp [pre]
  refine OK.mono (told_ok hn g) ?_
  rintro r h4 ⟨rfl, rfl⟩
  refine OK.mono (even_ok (ev_told _ _ _)) ?_
  rintro r h5 ⟨rfl, rfl⟩
  have hb : isNonO (.val (fv (fault ns.length thing))) = decide (fault ns.length thing = none) := by
    cases fault ns.length thing with
    | none => rfl
    | some r => rfl
  simp [truth, tyName, isTy, hb]
end
end HT

set_option Elab.async false
set_option linter.all false
set_option maxRecDepth 100000
set_option maxHeartbeats 2000000
set_option autoImplicit false
namespace HT
open PySem L2 Mi
structure DC (kvs : List (Key × Val)) : Prop where
  nd : (kvs.map (·.1)).Nodup
  ok : ∀ kv ∈ kvs, (∃ i : Nat, i < 30 ∧ kv.1 = .inl (i : Int)) ∧ ∃ x y : Int, kv.2 = .tup [.int x, .int y] ∧ 0 ≤ x ∧ x < 16
theorem nd_len {α : Type} [DecidableEq α] : ∀ (l l' : List α), l.Nodup → (∀ a ∈ l, a ∈ l') → l.length ≤ l'.length
  | [], _, _, _ => Nat.zero_le _
  | a :: l, l', n, s => by
    obtain ⟨n1, n2⟩ := List.nodup_cons.mp n
    have := nd_len l (l'.erase a) n2 fun b hb => (List.mem_erase_of_ne fun z => n1 (by rw [← z]; exact hb)).mpr (s b (List.mem_cons_of_mem _ hb))
    rw [List.length_erase_of_mem (s a List.mem_cons_self)] at this
    have h0 := List.length_pos_of_mem (s a List.mem_cons_self)
    rw [List.length_cons]
    omega
theorem DC.len {kvs : List (Key × Val)} (c : DC kvs) : kvs.length ≤ 30 := by
  have h : ∀ k ∈ kvs.map (·.1), k ∈ (List.range 30).map fun i : Nat => (Sum.inl (i : Int) : Key) := by
    intro k hk
    obtain ⟨kv, hkv, rfl⟩ := List.mem_map.mp hk
    obtain ⟨⟨i, hi, e⟩, _⟩ := c.ok kv hkv
    exact List.mem_map.mpr ⟨i, List.mem_range.mpr hi, e.symm⟩
  have := nd_len _ _ c.nd h
  simpa using this
structure PanAt (p d : Nat) (h : MH) : Prop where
  ne : p ≠ d
  pan : ∃ a b c : Int, h[p]? = some (.lst [.int a, .int b, .int c, .ref d])
  dic : ∃ kvs, h[d]? = some (.dK kvs) ∧ DC kvs
structure Up (p d : Nat) (h h' : MH) : Prop where
  pot : PanAt p d h'
  keep : ∀ n, n ≠ p → n ≠ d → n < h.length → h'[n]? = h[n]?
  len : h.length ≤ h'.length
section
variable {p d : Nat} {h h1 h2 : MH}
theorem notIn_dk {kvs : List (Key × Val)} {i : Int} {Q : Val → MH → Prop} (e : h[d]? = some (.dK kvs)) : RK (fNotIn (.val (.int i)) (.val (.ref d)) h) Q ↔ Q (.bl (!(valK kvs (.inl i)).isSome)) h := by
  refine notIn_eq ?_
  unfold fInB
  have e1 : pdO h (.val (.ref d)) = none := by
    show pd h 50 (.ref d) = none
    unfold pd
    simp only [e]
  simp only [e1]
  simp only [dctOf, e, Mi.cellGet, keyOf, Option.map_some]
theorem cset_dk {kvs : List (Key × Val)} {i : Int} {v : Val} (hl : kvs.length ≤ 30) : Mi.cellSet (.dK kvs) (.int i) v = some (.dK (putM kvs (.inl i) v)) := by
  have : kvs.length < 100000 := by omega
  unfold Mi.cellSet
  simp [keyOf, this]
theorem cget_dk {kvs : List (Key × Val)} {i : Int} : Mi.cellGet (.dK kvs) (.int i) = some (valK kvs (.inl i)) := rfl
theorem refQ_dk {kvs : List (Key × Val)} {i : Int} {Q : Val → MH → Prop} : refQ Q (.int i) h (some (.dK kvs)) ↔ atQ Q (valK kvs (.inl i)) h := Iff.rfl
theorem putM_new {kvs : List (Key × Val)} {k : Key} {v : Val} (h : valK kvs k = none) : putM kvs k v = kvs ++ [(k, v)] := by
  unfold putM
  rw [if_neg]
  intro z
  obtain ⟨kv, hk, e⟩ := List.any_eq_true.mp z
  unfold valK at h
  have := Option.map_eq_none_iff.mp h
  have := List.find?_eq_none.mp this kv hk
  exact this e
theorem DC.put {kvs : List (Key × Val)} {i : Nat} {x y : Int} (c : DC kvs) (hi : i < 30) (h : valK kvs (.inl (i : Int)) = none) (hx : 0 ≤ x ∧ x < 16) : DC (putM kvs (.inl (i : Int)) (.tup [.int x, .int y])) ∧ valK (putM kvs (.inl (i : Int)) (.tup [.int x, .int y])) (.inl (i : Int)) = some (.tup [.int x, .int y]) := by
  rw [putM_new h]
  have hn : ∀ kv ∈ kvs, ¬ kv.1 = .inl (i : Int) := fun kv hk e => by
    unfold valK at h
    have := List.find?_eq_none.mp (Option.map_eq_none_iff.mp h) kv hk
    exact this (decide_eq_true e)
  refine ⟨⟨?_, fun kv hk => ?_⟩, ?_⟩
  · rw [List.map_append]
    refine List.nodup_append.mpr ⟨c.nd, by simp, fun a ha b hb => ?_⟩
    obtain ⟨kv, hk, rfl⟩ := List.mem_map.mp ha
    simp at hb
    subst hb
    exact hn kv hk
  · rcases List.mem_append.mp hk with hk | hk
    · exact c.ok kv hk
    · simp at hk
      subst hk
      exact ⟨⟨i, hi, rfl⟩, x, y, rfl, hx⟩
  · unfold valK
    rw [List.find?_append, List.find?_eq_none.mpr fun kv hk => by simpa using hn kv hk]
    simp
theorem DC.get {kvs : List (Key × Val)} {k : Key} {v : Val} (c : DC kvs) (e : valK kvs k = some v) : ∃ x y : Int, v = .tup [.int x, .int y] ∧ 0 ≤ x ∧ x < 16 := by
  unfold valK at e
  obtain ⟨kv, e1, rfl⟩ := Option.map_eq_some_iff.mp e
  exact (c.ok kv (List.mem_of_find?_eq_some e1)).2
theorem PanAt.lt (j : PanAt p d h) : p < h.length ∧ d < h.length := by
  obtain ⟨_, _, _, e⟩ := j.pan
  obtain ⟨_, e2, _⟩ := j.dic
  exact ⟨(List.getElem?_eq_some_iff.mp e).1, (List.getElem?_eq_some_iff.mp e2).1⟩
theorem Up.refl (hp : PanAt p d h) : Up p d h h := ⟨hp, fun _ _ _ _ => rfl, Nat.le_refl _⟩
theorem Up.trans (u : Up p d h h1) (v : Up p d h1 h2) : Up p d h h2 := ⟨v.pot, fun n hn hm hl => (v.keep n hn hm (Nat.lt_of_lt_of_le hl u.len)).trans (u.keep n hn hm hl), Nat.le_trans u.len v.len⟩
theorem PanAt.app (j : PanAt p d h) (c : Cell) : PanAt p d (h ++ [c]) := by
  obtain ⟨l1, l2⟩ := j.lt
  obtain ⟨a, b, c', e⟩ := j.pan
  obtain ⟨kvs, e2, q⟩ := j.dic
  exact ⟨j.ne, ⟨a, b, c', by rw [List.getElem?_append_left l1]; exact e⟩, kvs, by rw [List.getElem?_append_left l2]; exact e2, q⟩
theorem Up.app (u : Up p d h h1) (c : Cell) : Up p d h (h1 ++ [c]) := ⟨u.pot.app c, fun n hn hm hl => by
  rw [List.getElem?_append_left (Nat.lt_of_lt_of_le hl u.len)]; exact u.keep n hn hm hl, by rw [List.length_append]; exact Nat.le_trans u.len (Nat.le_add_right _ _)⟩
theorem kept_up (u : Up p d h h1) {n : Nat} (np : n ≠ p) (nd : n ≠ d) {c : Cell} (e : h[n]? = some c) : h1[n]? = some c := by
  rw [u.keep n np nd (List.getElem?_eq_some_iff.mp e).1, e]
theorem Up.setP (u : Up p d h h1) (a b c : Int) : Up p d h (h1.set p (.lst [.int a, .int b, .int c, .ref d])) := by
  obtain ⟨l1, l2⟩ := u.pot.lt
  obtain ⟨kvs, e2, q⟩ := u.pot.dic
  exact ⟨⟨u.pot.ne, ⟨a, b, c, List.getElem?_set_self l1⟩, kvs, by rw [List.getElem?_set_ne u.pot.ne]; exact e2, q⟩, fun n hn hm hl => by rw [List.getElem?_set_ne (Ne.symm hn)]; exact u.keep n hn hm hl, by rw [List.length_set]; exact u.len⟩
theorem Up.setD (u : Up p d h h1) {kvs : List (Key × Val)} (q : DC kvs) : Up p d h (h1.set d (.dK kvs)) := by
  obtain ⟨l1, l2⟩ := u.pot.lt
  obtain ⟨a, b, c, e⟩ := u.pot.pan
  exact ⟨⟨u.pot.ne, ⟨a, b, c, by rw [List.getElem?_set_ne (Ne.symm u.pot.ne)]; exact e⟩, kvs, List.getElem?_set_self l2, q⟩, fun n hn hm hl => by rw [List.getElem?_set_ne (Ne.symm hm)]; exact u.keep n hn hm hl, by rw [List.length_set]; exact u.len⟩
theorem draw_up {place k : Nat} (hj : PanAt p d h) (hp : place < 30) (hk : k < 1000000) : OK (F__law_grain [.ref p, .int (place : Int), .int (k : Int)] h) fun v h' => ∃ r : Nat, v = .int (r : Int) ∧ (r < k ∨ r = 0) ∧ Up p d h h' := by
  unfold F__law_grain
  rw [fun_ok]
  refine ⟨rfl, ?_⟩
  let pre : ME := [.val (.ref p), .val (.int (place : Int)), .val (.int (k : Int)), .no, .no, .no]
  refine sn_step (fun e h' => 2 ≤ k ∧ h' = h ∧ e = pre) ?_ ?_
  · rw [sn_if]
    simp
    by_cases q : (k : Int) < 2
    · simp [q]
      exact ⟨0, rfl, .inr rfl, Up.refl hj⟩
    · simp [q]
      exact ⟨by omega, rfl⟩
  rintro e h1 ⟨k2, rfl, rfl⟩
  have hk0 : ¬ ((k : Int) = 0) := by omega
  have md : ∀ i : Int, ∃ r : Nat, i % (k : Int) = (r : Int) ∧ r < k := fun i => ⟨(i % (k : Int)).toNat, by have := Int.emod_nonneg i hk0; omega, by have := Int.emod_lt_of_pos i (show (0 : Int) < k by omega); have := Int.emod_nonneg i hk0; omega⟩
  refine sn_step (fun e h' => Up p d h1 h' ∧ e = pre) ?_ ?_
  · obtain ⟨a, b, c, e⟩ := hj.pan
    simp [pre, e]
    exact ⟨_, ⟨2, rfl, rfl⟩, (Up.refl hj).setP _ _ _⟩
  rintro e h2 ⟨u2, rfl⟩
  refine sn_step (fun e h' => Up p d h1 h' ∧ e = pre) ?_ ?_
  · obtain ⟨a, b, c, e⟩ := u2.pot.pan
    rw [sn_if]
    simp [pre, e]
    by_cases q : (k : Int) ≤ b
    · simp [q, e]
      obtain ⟨r, er, hr⟩ := md b
      refine ⟨by omega, ⟨by omega, by omega⟩, _, ⟨1, rfl, rfl⟩, r, er, .inl hr, u2.setP _ _ _⟩
    · simp [q]
      exact u2
  rintro e h3 ⟨u3, rfl⟩
  refine sn_step (fun e h' => Up p d h1 h' ∧ e = pre) ?_ ?_
  · obtain ⟨a, b, c, e⟩ := u3.pot.pan
    simp [pre, e]
    exact ⟨cMul_r (by omega), cMul_r (by omega), u3.setP _ _ _⟩
  rintro e h4 ⟨u4, rfl⟩
  refine sn_step (fun e h' => Up p d h1 h' ∧ e = pre ∧ ∃ kvs, h'[d]? = some (.dK kvs) ∧ ∃ v, valK kvs (.inl (place : Int)) = some v) ?_ ?_
  · obtain ⟨a, b, c, e⟩ := u4.pot.pan
    obtain ⟨kvs, e2, q⟩ := u4.pot.dic
    have hl := q.len
    have l2 := u4.pot.lt.2
    rw [sn_if]
    simp [pre, e]
    rw [notIn_dk e2]
    cases hv : valK kvs (.inl (place : Int)) with
    | some v =>
      simp
      exact ⟨u4, kvs, e2, v, hv⟩
    | none =>
      simp [e, e2, cset_dk hl]
      obtain ⟨q1, q2⟩ := q.put (y := a / 2147483648) hp hv (x := a / 8192 % 16) ⟨by omega, by omega⟩
      exact ⟨u4.setD q1, _, List.getElem?_set_self l2, _, q2⟩
  rintro e h5 ⟨u5, rfl, kvs, ed, v, hv⟩
  obtain ⟨a, b, c, e⟩ := u5.pot.pan
  have hdc : DC kvs := by
    obtain ⟨kvs', e2, q⟩ := u5.pot.dic
    rw [ed] at e2
    cases e2
    exact q
  obtain ⟨x, y, rfl, x0, x1⟩ := hdc.get hv
  refine sn_step (fun e h' => h' = h5 ∧ e = [.val (.ref p), .val (.int (place : Int)), .val (.int (k : Int)), .no, .val (.int x), .val (.int y)]) ?_ ?_
  · simp [pre, e, ed, refQ_dk, hv]
  rintro e' h6 ⟨rfl, rfl⟩
  refine sn_step (fun e h' => h' = h6 ∧ e = [.val (.ref p), .val (.int (place : Int)), .val (.int (k : Int)), .no, .val (.int x), .val (.int y)]) ?_ ?_
  · rw [sn_if]
    simp
    by_cases q : x < 3
    · obtain ⟨r, er, hr⟩ := md y
      have : x = 0 ∨ x = 1 ∨ x = 2 := by omega
      rcases this with rfl | rfl | rfl
      · simp
        exact ⟨by omega, 0, rfl, .inr rfl, u5⟩
      · simp
        exact ⟨by omega, k - 1, by omega, .inl (by omega), u5⟩
      · simp
        exact ⟨by omega, r, er, .inl hr, u5⟩
    · simp [q]
  rintro e' h7 ⟨rfl, rfl⟩
  simp [e]
  obtain ⟨r, er, hr⟩ := md (a / 2097152)
  exact ⟨by omega, r, er, .inl hr, u5⟩
end
end HT

set_option Elab.async false
set_option linter.all false
set_option maxRecDepth 100000
set_option maxHeartbeats 2000000
set_option autoImplicit false
namespace HT
open PySem L2 Mi
theorem abs_int (i : Int) (h : MH) (Q : Val → MH → Prop) : RK (fAbs [.val (.int i)] h) Q ↔ Q (.int (if i < 0 then -i else i)) h := by
  show RK (some _) Q ↔ _
  exact rk_some ..
theorem scr_lis {is : List Int} {v : Val} {h : MH} (hv : Scr is v h) : lisOf (.val v) h = some (is.map .int) := by
  rcases hv with rfl | ⟨n, rfl, hn⟩
  · rfl
  · simp [lisOf, hn]
theorem cut_ints (is : List Int) (lo hi : Option Int) : ∃ js : List Int, cutM (is.map .int) lo hi = js.map .int := by
  unfold cutM
  exact ⟨_, by rw [← List.map_drop, ← List.map_take]⟩
theorem pan_ok {is : List Int} {v : Val} {h : MH} (hv : Scr is v h) : OK (F__law_pan [v] h) fun r h' => r = .ref (h.length + 1) ∧ PanAt (h.length + 1) h.length h' := by
  unfold F__law_pan
  rw [fun_ok]
  refine ⟨rfl, ?_⟩
  refine sn_step (fun e h' => h' = h ++ [.dK []] ∧ e = [.val v, .own (.lst [.int 33133, .int 0, .int 0, .ref h.length]), .no, .no]) ?_ ?_
  · simp
  rintro e h1 ⟨rfl, rfl⟩
  have hv1 : Scr is v (h ++ [.dK []]) := by
    rcases hv with e | ⟨n, e, hn⟩
    · exact .inl e
    · exact .inr ⟨n, e, by rw [List.getElem?_append_left (List.getElem?_eq_some_iff.mp hn).1]; exact hn⟩
  obtain ⟨js, hj⟩ := cut_ints is none (some 58)
  refine sn_step (fun e h' => h' = h ++ [.dK []] ∧ ∃ (a b c : Int) (x y : Sl), e = [.val v, .own (.lst [.int a, .int b, .int c, .ref h.length]), x, y]) ?_ ?_
  · rw [sn_for]
    simp
    rw [sl_lst _ (scr_lis hv1), hj]
    simp
    refine fold_inv (fun i e h' => h' = h ++ [.dK []] ∧ ∃ (a b c : Int) (x y : Sl), e = [.val v, .own (.lst [.int a, .int b, .int c, .ref h.length]), x, y]) ⟨rfl, _, _, _, _, _, rfl⟩ ?_ ?_
    · rintro i u env h2 hu ⟨rfl, a, b, c, x, y, rfl⟩
      rw [List.getElem?_map] at hu
      obtain ⟨k, hk, rfl⟩ := Option.map_eq_some_iff.mp hu
      refine ⟨_, rfl, ?_⟩
      refine sn_step (fun e h' => h' = h ++ [.dK []] ∧ ∃ z : Int, e = [.val v, .own (.lst [.int a, .int b, .int c, .ref h.length]), .val (.int k), .val (.int z)]) ?_ ?_
      · simp only [sn_set, ok_op, ok_v, ok_call, ok_aCons, ok_aNil, ok_var, ok_c]
        refine ⟨_, rfl, ?_⟩
        rw [int_int, abs_int, shl_int']
        refine ⟨⟨by omega, by omega, by decide⟩, ?_⟩
        rw [mod_int']
        have h2 : (0 : Int) < 1 * 2 ^ (1300 : Int).toNat := by
          rw [Int.one_mul]
          exact Int.pow_pos (by omega)
        exact ⟨h2, rfl, _, rfl⟩
      rintro e h3 ⟨rfl, z, rfl⟩
      refine sn_step (fun e h' => h' = h ++ [.dK []] ∧ ∃ a' : Int, e = [.val v, .own (.lst [.int a', .int b, .int c, .ref h.length]), .val (.int k), .val (.int z)]) ?_ ?_
      · simp
        exact cMul_r (by omega)
      rintro e h4 ⟨rfl, a', rfl⟩
      simp
      exact fun _ => ⟨_, ⟨1, rfl, rfl⟩, a', z, c, rfl⟩
    · rintro env h2 ⟨rfl, a, b, c, x, y, rfl⟩
      exact ⟨rfl, a, b, c, x, y, rfl⟩
  rintro e h2 ⟨rfl, a, b, c, x, y, rfl⟩
  simp
  exact ⟨by simp, ⟨a, b, c, by simp⟩, [], by simp, by simp, by simp⟩
end HT

set_option Elab.async false
set_option linter.all false
set_option maxRecDepth 100000
set_option maxHeartbeats 2000000
set_option autoImplicit false
namespace HT
open PySem L2 Mi
section
variable {p d : Nat} {h h1 h2 : MH}
theorem gd_heap (u : Up p d h h1) : ∀ {n : Nat} {v : Val}, Gd p d h n v → Gd p d h1 n v
  | n + 1, v, g => by
    rcases g with g | g | g | g | ⟨us, e, l, g⟩ | ⟨q, us, e, a, b, c, l, g⟩
    · exact .inl g
    · exact .inr (.inl g)
    · exact .inr (.inr (.inl g))
    · exact .inr (.inr (.inr (.inl g)))
    · exact .inr (.inr (.inr (.inr (.inl ⟨us, e, l, fun w hw => gd_heap u (g w hw)⟩))))
    · exact .inr (.inr (.inr (.inr (.inr ⟨q, us, e, a, b, kept_up u a b c, l, fun w hw => gd_heap u (g w hw)⟩))))
theorem gd_non (n : Nat) : Gd p d h (n + 1) .non := .inl rfl
theorem gd_bl (n : Nat) (b : Bool) : Gd p d h (n + 1) (.bl b) := .inr (.inl ⟨b, rfl⟩)
theorem gd_int (n : Nat) (i : Int) : Gd p d h (n + 1) (.int i) := .inr (.inr (.inl ⟨i, rfl⟩))
theorem gd_str (n : Nat) {s : Str} (hs : s.length ≤ 100) : Gd p d h (n + 1) (.str s) := .inr (.inr (.inr (.inl ⟨s, rfl, hs⟩)))
theorem gd_tup (n : Nat) {us : List Val} (l : us.length ≤ 10000) (g : ∀ u ∈ us, Gd p d h n u) : Gd p d h (n + 1) (.tup us) := .inr (.inr (.inr (.inr (.inl ⟨us, rfl, l, g⟩))))
theorem gd_ref (n : Nat) {q : Nat} {us : List Val} (a : q ≠ p) (b : q ≠ d) (c : h[q]? = some (.lst us)) (l : us.length ≤ 10000) (g : ∀ u ∈ us, Gd p d h n u) : Gd p d h (n + 1) (.ref q) := .inr (.inr (.inr (.inr (.inr ⟨q, us, rfl, a, b, c, l, g⟩))))
theorem gd_add (k : Nat) {n : Nat} {v : Val} (g : Gd p d h n v) : Gd p d h (n + k) v := by
  induction k with
  | zero => exact g
  | succ k ih => exact gd_up ih
theorem gd_le {n m : Nat} (hm : n ≤ m) {v : Val} (g : Gd p d h n v) : Gd p d h m v := by
  obtain ⟨k, rfl⟩ := Nat.exists_eq_add_of_le hm
  exact gd_add k g
end
structure PS (many : Nat) (ps : List (Nat × Nat)) : Prop where
  asc : ps.Pairwise fun a b => a.1 < b.1
  lt : ∀ q ∈ ps, q.1 < many ∧ q.2 < 2
  len : ps.length ≤ many
def pvs (ps : List (Nat × Nat)) : Val := .tup (ps.map pv)
theorem asksL_ps {many : Nat} : ∀ (ps : List (Nat × Nat)) (last : Int), (∀ q ∈ ps, last < (q.1 : Int)) → ps.Pairwise (fun a b => a.1 < b.1) → (∀ q ∈ ps, q.1 < many ∧ q.2 < 2) → asksL many last (ps.map pv) = true
  | [], _, _, _, _ => rfl
  | q :: ps, last, hl, ha, hb => by
    obtain ⟨a1, a2⟩ := List.pairwise_cons.mp ha
    have q1 := hl q List.mem_cons_self
    have q2 := hb q List.mem_cons_self
    have e : askB many last (pv q) = some (q.1 : Int) := by
      simp only [pv, askB]
      rw [if_pos (by omega)]
    simp only [List.map_cons, asksL, e]
    exact asksL_ps ps _ (fun r hr => by have := a1 r hr; omega) a2 fun r hr => hb r (List.mem_cons_of_mem _ hr)
theorem PS.asks {many : Nat} {ps : List (Nat × Nat)} (P : PS many ps) : asksV many (pvs ps) = true := asksL_ps ps (-1) (fun q _ => by omega) P.asc P.lt
section
variable {p d : Nat} {h h1 h2 : MH}
theorem PS.gd {many : Nat} {ps : List (Nat × Nat)} (P : PS many ps) (hm : many ≤ 8) (n : Nat) : Gd p d h (n + 3) (pvs ps) := gd_tup _ (by have := P.len; simp; omega) fun u hu => by
  obtain ⟨q, hq, rfl⟩ := List.mem_map.mp hu
  exact gd_tup _ (by simp) fun w hw => by
    simp at hw
    rcases hw with rfl | rfl
    · exact gd_int _ _
    · exact gd_int _ _
structure PJ (least f j : Nat) (ps : List (Nat × Nat)) : Prop where
  asc : ps.Pairwise fun a b => a.1 < b.1
  lt : ∀ q ∈ ps, q.1 < j ∧ q.2 < 2
  len : ps.length ≤ j
  ne : 0 < least → f < j → ps ≠ []
theorem pairs_ok {many least : Nat} (hj : PanAt p d h) (hm : many ≤ 8) (h0 : 0 < many) : OK (F__law_pairs [.ref p, .int (many : Int), .int (least : Int)] h) fun v h' => ∃ ps, v = pvs ps ∧ PS many ps ∧ (0 < least → ps ≠ []) ∧ Up p d h h' := by
  unfold F__law_pairs
  rw [fun_ok]
  refine ⟨rfl, ?_⟩
  refine sn_step (fun e h' => Up p d h h' ∧ ∃ f : Nat, f < many ∧ e = [.val (.ref p), .val (.int (many : Int)), .val (.int (least : Int)), .val (.int (f : Int)), .no]) ?_ ?_
  · simp
    refine OK.mono (draw_up (place := 1) hj (by omega) (by omega)) ?_
    rintro v h1 ⟨r, rfl, hr, u⟩
    exact ⟨u, r, by omega, rfl⟩
  rintro e h1 ⟨u1, f, hf, rfl⟩
  simp
  refine ⟨by omega, ?_⟩
  refine comp_inv (fun j acc h2 => Up p d h h2 ∧ ∃ ps, acc = ps.map pv ∧ PJ least f j ps) ⟨u1, [], rfl, ⟨by simp, by simp, by simp, by omega⟩⟩ ?_ ?_
  · rintro j w acc h2 hv ⟨u2, ps, rfl, P⟩
    obtain ⟨hj', rfl⟩ := rng_at hv
    refine ⟨_, rfl, ?_⟩
    have keep : (¬ (j = f ∧ 0 < least)) → ∃ ps', ps.map pv = ps'.map pv ∧ PJ least f (j + 1) ps' := fun z => ⟨ps, rfl, P.asc, fun q hq => by have := P.lt q hq; omega, by have := P.len; omega, fun l0 fj => by
      have : f < j := by
        rcases Nat.lt_or_ge f j with q | q
        · exact q
        · exact absurd ⟨by omega, l0⟩ z
      exact P.ne l0 this⟩
    have add : ∀ h3, Up p d h h3 → OK (F__law_grain [.ref p, .int 2, .int 2] h3) fun a h4 => ps.length < 100000 ∧ Up p d h h4 ∧ ∃ ps', ps.map pv ++ [.tup [.int (j : Int), a]] = ps'.map pv ∧ PJ least f (j + 1) ps' := fun h3 u3 => by
      refine OK.mono (draw_up (place := 2) (k := 2) u3.pot (by omega) (by omega)) ?_
      rintro v h4 ⟨r, rfl, hr, u⟩
      refine ⟨by have := P.len; omega, u3.trans u, ps ++ [(j, r)], ?_, ?_, ?_, ?_, ?_⟩
      · simp [pv]
      · refine List.pairwise_append.mpr ⟨P.asc, by simp, fun a haa b hbb => ?_⟩
        simp at hbb
        subst hbb
        exact (P.lt a haa).1
      · intro q hq
        rcases List.mem_append.mp hq with hq | hq
        · have := P.lt _ hq
          omega
        · simp at hq
          subst hq
          simp
          omega
      · simp
        exact P.len
      · intro _ _ z
        simp at z
    have draw : (¬ (j = f ∧ 0 < least)) → OK (F__law_grain [.ref p, .int 3, .int 3] h2) fun v h_1 => RK (fEq (.val v) (.val (.int 0)) h_1) fun v h1 => blQ (fun k h1 => if k = true then OK (F__law_grain [.ref p, .int 2, .int 2] h1) fun a h1 => ps.length < 100000 ∧ Up p d h h1 ∧ ∃ ps', ps.map pv ++ [.tup [.int (j : Int), a]] = ps'.map pv ∧ PJ least f (j + 1) ps' else Up p d h h1 ∧ ∃ ps', ps.map pv = ps'.map pv ∧ PJ least f (j + 1) ps') v h1 := fun z => by
      refine OK.mono (draw_up (place := 3) (k := 3) u2.pot (by omega) (by omega)) ?_
      rintro v h4 ⟨r, rfl, hr, u⟩
      simp
      by_cases hr0 : r = 0
      · simp [hr0]
        simpa using add h4 (u2.trans u)
      · simp [hr0]
        exact ⟨u2.trans u, keep z⟩
    simp [wipeM]
    by_cases jf : j = f
    · by_cases l0 : 0 < least
      · simp [jf, l0]
        subst jf
        simpa using add h2 u2
      · simp [jf, l0]
        subst jf
        simpa using draw (fun z => l0 z.2)
    · have jf' : ¬ ((j : Int) = f) := by omega
      simp [jf']
      simpa using draw (fun z => jf z.1)
  · rintro acc h2 ⟨u2, ps, rfl, P⟩
    rw [rng_len] at P
    exact ⟨ps, rfl, ⟨P.asc, P.lt, P.len⟩, fun l0 => P.ne l0 (by omega), u2⟩
theorem stage_ok (hj : PanAt p d h) : OK (F__law_stage [.ref p] h) fun v h' => ∃ s : Nat, v = .int (s : Int) ∧ s < 60 ∧ Up p d h h' := by
  unfold F__law_stage
  rw [fun_ok]
  refine ⟨rfl, ?_⟩
  simp
  refine OK.mono (draw_up (place := 4) (k := 60) hj (by omega) (by omega)) ?_
  rintro v h1 ⟨r, rfl, hr, u1⟩
  refine OK.mono (draw_up (place := 5) (k := 4) u1.pot (by omega) (by omega)) ?_
  rintro v h2 ⟨i, rfl, hi, u2⟩
  have : i = 0 ∨ i = 1 ∨ i = 2 ∨ i = 3 := by omega
  rcases this with rfl | rfl | rfl | rfl
  · simp
    exact ⟨0, rfl, by omega, u1.trans u2⟩
  · simp
    exact ⟨59, rfl, by omega, u1.trans u2⟩
  · simp
    exact ⟨1, rfl, by omega, u1.trans u2⟩
  · simp
    exact ⟨r, rfl, by omega, u1.trans u2⟩
def LineV (many : Nat) (v : Val) : Prop := (∃ (st : Nat) (ps : List (Nat × Nat)) (s2 : Nat), v = .tup [wv "go", .int (st : Int), pvs ps, .int (s2 : Int)] ∧ st < 60 ∧ s2 < 60 ∧ PS many ps) ∨
  ∃ (st : Nat) (ps qs : List (Nat × Nat)), v = .tup [wv "if", .int (st : Int), pvs ps, pvs qs] ∧ st < 60 ∧ PS many ps ∧ PS many qs ∧ qs ≠ []
theorem line_ok {many : Nat} (hj : PanAt p d h) (hm : many ≤ 8) (h0 : 0 < many) : OK (F__law_line [.ref p, .int (many : Int)] h) fun v h' => LineV many v ∧ Up p d h h' := by
  unfold F__law_line
  rw [fun_ok]
  refine ⟨rfl, ?_⟩
  refine sn_step (fun e h' => Up p d h h' ∧ ∃ ps, PS many ps ∧ e = [.val (.ref p), .val (.int (many : Int)), .val (pvs ps)]) ?_ ?_
  · simp
    refine OK.mono (pairs_ok (least := 0) hj hm h0) ?_
    rintro v h1 ⟨ps, rfl, P, _, u⟩
    exact ⟨u, ps, P, rfl⟩
  rintro e h1 ⟨u1, ps, P, rfl⟩
  refine sn_step (fun e h' => Up p d h h' ∧ e = [.val (.ref p), .val (.int (many : Int)), .val (pvs ps)]) ?_ ?_
  · rw [sn_if]
    simp
    refine OK.mono (draw_up (place := 6) (k := 3) u1.pot (by omega) (by omega)) ?_
    rintro v h2 ⟨r, rfl, hr, u2⟩
    simp
    by_cases hr0 : r = 0
    · simp [hr0]
      refine OK.mono (stage_ok u2.pot) ?_
      rintro v h3 ⟨s, rfl, hs, u3⟩
      refine OK.mono (stage_ok u3.pot) ?_
      rintro v h4 ⟨s2, rfl, hs2, u4⟩
      exact ⟨.inl ⟨s, ps, s2, rfl, hs, hs2, P⟩, ((u1.trans u2).trans u3).trans u4⟩
    · simp [hr0]
      exact u1.trans u2
  rintro e h2 ⟨u2, rfl⟩
  simp
  refine OK.mono (stage_ok u2.pot) ?_
  rintro v h3 ⟨s, rfl, hs, u3⟩
  refine OK.mono (pairs_ok (least := 1) u3.pot hm h0) ?_
  rintro v h4 ⟨qs, rfl, Q, hq, u4⟩
  exact ⟨.inr ⟨s, ps, qs, rfl, hs, P, Q, hq (by omega)⟩, (u2.trans u3).trans u4⟩
theorem LineV.none {many : Nat} {v : Val} (l : LineV many v) : lineB many v = Option.none := by
  have e1 : ¬ (Str.ofString "go" ≠ Str.ofString "if" ∧ Str.ofString "go" ≠ Str.ofString "go") := by simp
  have e2 : ¬ (Str.ofString "if" ≠ Str.ofString "if" ∧ Str.ofString "if" ≠ Str.ofString "go") := by simp
  have st : ∀ s : Nat, s < 60 → stgB (.int (s : Int)) = true := fun s hs => by simp [stgB, numB]; omega
  rcases l with ⟨s, ps, s2, rfl, hs, hs2, P⟩ | ⟨s, ps, qs, rfl, hs, P, Q, hq⟩
  · simp only [wv, lineB, if_neg e1, st s hs, P.asks, st s2 hs2]
    simp
  · have ne : ¬ (Str.ofString "if" = Str.ofString "go") := by decide
    have em : mtB (pvs qs) = false := by
      cases qs with
      | nil => exact absurd rfl hq
      | cons a l => rfl
    simp only [wv, lineB, if_neg e2, st s hs, P.asks, if_neg ne, Q.asks, em]
    simp
theorem LineV.gd {many : Nat} {v : Val} (l : LineV many v) (hm : many ≤ 8) (n : Nat) : Gd p d h (n + 4) v := by
  have w2 : ∀ s ∈ ["go", "if"], (Str.ofString s).length ≤ 100 := by decide
  rcases l with ⟨s, ps, s2, rfl, hs, hs2, P⟩ | ⟨s, ps, qs, rfl, hs, P, Q, hq⟩
  · refine gd_tup _ (by simp) fun u hu => ?_
    simp at hu
    rcases hu with rfl | rfl | rfl | rfl
    · exact gd_str _ (w2 _ (by simp))
    · exact gd_int _ _
    · exact P.gd hm n
    · exact gd_int _ _
  · refine gd_tup _ (by simp) fun u hu => ?_
    simp at hu
    rcases hu with rfl | rfl | rfl | rfl
    · exact gd_str _ (w2 _ (by simp))
    · exact gd_int _ _
    · exact P.gd hm n
    · exact Q.gd hm n
end
end HT

set_option Elab.async false
set_option linter.all false
set_option maxRecDepth 100000
set_option maxHeartbeats 2000000
set_option autoImplicit false
namespace HT
open PySem L2 Mi
section
variable {p d : Nat} {h h1 h2 : MH}
theorem bool_int (i : Int) (Q : Val → MH → Prop) : RK (fBool [.val (.int i)] h) Q ↔ Q (.bl (i != 0)) h := by
  show RK (some _) Q ↔ _
  exact rk_some ..
theorem atQ_all {l : List Val} {k : Nat} {Q : Val → MH → Prop} (hk : k < l.length) (q : ∀ v ∈ l, Q v h) : atQ Q l[k]? h := by
  rw [List.getElem?_eq_getElem hk]
  exact q _ (List.getElem_mem hk)
theorem cut_sub {vs : List Val} {lo hi : Option Int} : ∀ u ∈ cutM vs lo hi, u ∈ vs := fun u hu => List.mem_of_mem_drop (List.mem_of_mem_take hu)
theorem cut_le (vs : List Val) (lo hi : Option Int) : (cutM vs lo hi).length ≤ vs.length := by
  unfold cutM
  simp
  omega
theorem rev_tup (vs : List Val) (Q : Val → MH → Prop) : RK (fRevT (.val (.tup vs)) h) Q ↔ Q (.tup vs.reverse) h := by
  show RK (some _) Q ↔ _
  exact rk_some ..
theorem gd_ps {many : Nat} {ps : List (Nat × Nat)} (P : PS many ps) (hm : many ≤ 8) : ∀ u ∈ ps.map pv, Gd p d h 2 u := fun u hu => by
  obtain ⟨q, hq, rfl⟩ := List.mem_map.mp hu
  exact gd_tup _ (by simp) fun w hw => by
    simp at hw
    rcases hw with rfl | rfl
    · exact gd_int _ _
    · exact gd_int _ _
theorem bad_pairs_ok {many : Nat} {ps : List (Nat × Nat)} (hj : PanAt p d h) (hm : many ≤ 8) (h0 : 0 < many) (P : PS many ps) : OK (F__law_bad_pairs [.ref p, .int (many : Int), pvs ps] h) fun v h' => Gd p d h' 3 v ∧ Up p d h h' := by
  have hpl : ps.length ≤ 8 := by have := P.len; omega
  unfold F__law_bad_pairs
  rw [fun_ok]
  refine ⟨rfl, ?_⟩
  let pre : ME := [.val (.ref p), .val (.int (many : Int)), .val (pvs ps)]
  refine sn_step (fun e h' => Up p d h h' ∧ ∃ k : Nat, k < 10 ∧ e = pre ++ [.val (.int (k : Int)), .no, .no, .no, .no, .no]) ?_ ?_
  · simp
    refine OK.mono (draw_up (place := 7) (k := 10) hj (by omega) (by omega)) ?_
    rintro v h1 ⟨r, rfl, hr, u⟩
    exact ⟨u, r, by omega, rfl⟩
  rintro e h1 ⟨u1, k, hk, rfl⟩
  refine sn_step (fun e h' => Up p d h h' ∧ ∃ a : Nat, (ps ≠ [] → a < ps.length) ∧ (a = 0 ∨ a < ps.length) ∧ e = pre ++ [.val (.int (k : Int)), .val (.int (a : Int)), .no, .no, .no, .no]) ?_ ?_
  · simp [pre, pvs]
    refine OK.mono (draw_up (place := 8) u1.pot (by omega) (by omega)) ?_
    rintro v h2 ⟨r, rfl, hr, u⟩
    refine ⟨u1.trans u, r, fun z => ?_, by omega, rfl⟩
    have := List.length_pos_iff.mpr z
    omega
  rintro e h2 ⟨u2, a, ha, ha0, rfl⟩
  refine sn_step (fun e h' => Up p d h h' ∧ ∃ x y : Nat, e = pre ++ [.val (.int (k : Int)), .val (.int (a : Int)), .val (.int (x : Int)), .val (.int (y : Int)), .no, .no]) ?_ ?_
  · cases ps with
    | nil =>
      simp [pre, pvs]
      exact ⟨u2, 0, rfl⟩
    | cons q qs =>
      have ha := ha (by simp)
      obtain ⟨q', hq'⟩ : ∃ q', (q :: qs)[a]? = some q' := ⟨_, List.getElem?_eq_getElem ha⟩
      have : ((q :: qs).map pv)[a]? = some (pv q') := by rw [List.getElem?_map, hq']; rfl
      simp [pre, pvs] at this ⊢
      rw [this]
      simp [pv]
      exact ⟨u2, ⟨_, rfl⟩, _, rfl⟩
  rintro e h3 ⟨u3, x, y, rfl⟩
  refine sn_step (fun e h' => Up p d h h' ∧ ∃ o, Gd p d h' 2 o ∧ e = pre ++ [.val (.int (k : Int)), .val (.int (a : Int)), .val (.int (x : Int)), .val (.int (y : Int)), .val o, .no]) ?_ ?_
  · simp [pre]
    rw [bool_int]
    have u4 := u3.app (.lst [.int (x : Int), .int (y : Int)])
    obtain ⟨l1, l2⟩ := u3.pot.lt
    have gl : Gd p d (h3 ++ [.lst [.int (x : Int), .int (y : Int)]]) 2 (.ref h3.length) := gd_ref 1 (by omega) (by omega) (last_at ..) (by simp) fun w hw => by
      simp at hw
      rcases hw with rfl | rfl
      · exact gd_int _ _
      · exact gd_int _ _
    have g2 : ∀ b, Gd p d (h3 ++ [.lst [.int (x : Int), .int (y : Int)]]) 2 b → Up p d h (h3 ++ [.lst [.int (x : Int), .int (y : Int)]]) ∧ Gd p d (h3 ++ [.lst [.int (x : Int), .int (y : Int)]]) 2 b := fun b g => ⟨u4, g⟩
    have gt : ∀ us : List Val, us.length ≤ 10 → (∀ u ∈ us, (∃ i, u = .int i) ∨ ∃ b, u = .bl b) → Gd p d (h3 ++ [.lst [.int (x : Int), .int (y : Int)]]) 2 (.tup us) := fun us hl hu => gd_tup 1 (by omega) fun u hu' => by
      rcases hu u hu' with ⟨i, rfl⟩ | ⟨b, rfl⟩
      · exact gd_int _ _
      · exact gd_bl _ _
    have fin : ∀ X, ((∃ b, X = .bl b) ∨ ∃ i, X = .int i) → ∀ b, atQ (fun v h1 => Up p d h h1 ∧ Gd p d h1 2 v) [Val.tup [.int (many : Int), .int (y : Int)], Val.tup [.int (x : Int), .int 2], Val.tup [.int (x : Int), .bl b], Val.tup [X, .int (y : Int)], Val.ref (List.length h3), Val.tup [.int (x : Int)], Val.tup [.int (x : Int), .int (y : Int), .int 0], .int (x : Int), Val.tup [.int (x : Int), .int (-1)], Val.non][k]? (h3 ++ [Cell.lst [.int (x : Int), .int (y : Int)]]) := fun X hX b => by
      refine atQ_all (by simpa using hk) fun v hv => g2 v ?_
      simp only [List.mem_cons, List.not_mem_nil, or_false] at hv
      rcases hv with rfl | rfl | rfl | rfl | rfl | rfl | rfl | rfl | rfl | rfl
      · exact gt _ (by simp) (by simp)
      · exact gt _ (by simp) (by simp)
      · exact gt _ (by simp) (by simp)
      · refine gt _ (by simp) fun u hu => ?_
        simp at hu
        rcases hu with rfl | rfl
        · rcases hX with h | h
          · exact .inr h
          · exact .inl h
        · exact .inl ⟨_, rfl⟩
      · exact gl
      · exact gt _ (by simp) (by simp)
      · exact gt _ (by simp) (by simp)
      · exact gd_int _ _
      · exact gt _ (by simp) (by simp)
      · exact gd_non _
    split
    · rw [bool_int]
      exact fin _ (.inl ⟨_, rfl⟩) _
    · exact fin _ (.inr ⟨_, rfl⟩) _
  rintro e h4 ⟨u4, o, ho, rfl⟩
  let pre2 (w : Nat) : ME := pre ++ [.val (.int (k : Int)), .val (.int (a : Int)), .val (.int (x : Int)), .val (.int (y : Int)), .val o, .val (.int (w : Int))]
  refine sn_step (fun e h' => Up p d h4 h' ∧ ∃ w : Nat, w < 5 ∧ e = pre2 w) ?_ ?_
  · simp [pre]
    refine OK.mono (draw_up (place := 9) (k := 5) u4.pot (by omega) (by omega)) ?_
    rintro v h1 ⟨r, rfl, hr, u⟩
    exact ⟨u, r, by omega, rfl⟩
  rintro e h5 ⟨u45, w, hw, rfl⟩
  have ho5 : Gd p d h5 2 o := gd_heap u45 ho
  have u5 := u4.trans u45
  have gp : ∀ lo hi, ∀ u ∈ cutM (ps.map pv) lo hi, Gd p d h5 2 u := fun lo hi u hu => gd_ps P hm u (cut_sub u hu)
  have lp : ∀ lo hi, (cutM (ps.map pv) lo hi).length ≤ 8 := fun lo hi => by have := cut_le (ps.map pv) lo hi; simp at this; omega
  refine sn_step (fun e h' => h' = h5 ∧ e = pre2 w) ?_ ?_
  · rw [sn_if]
    simp [pre2, pre, pvs]
    intro _ _
    refine ⟨by have := lp (some (-1)) none; omega, gd_tup _ (by have := lp (some (-1)) none; simp; omega) fun u hu => ?_, u5⟩
    rcases List.mem_append.mp hu with hu | hu
    · exact gd_ps P hm u hu
    · exact gp _ _ u hu
  rintro e h6 ⟨rfl, rfl⟩
  refine sn_step (fun e h' => h' = h6 ∧ e = pre2 w) ?_ ?_
  · rw [sn_if]
    simp [pre2, pre, pvs]
    intro _ _
    rw [rev_tup]
    refine ⟨gd_tup _ (by simp; omega) fun u hu => gd_ps P hm u (by simpa using hu), u5⟩
  rintro e h7 ⟨rfl, rfl⟩
  refine sn_step (fun e h' => h' = h7 ∧ e = pre2 w) ?_ ?_
  · rw [sn_if]
    simp [pre2, pre, pvs]
    intro _
    have u6 := u5.app (.lst (ps.map pv))
    obtain ⟨l1, l2⟩ := u5.pot.lt
    refine OK.mono (draw_up (place := 10) (k := 4) u6.pot (by omega) (by omega)) ?_
    rintro v h1 ⟨r, rfl, hr, u7⟩
    simp
    refine atQ_all (by simp; omega) fun v hv => ?_
    simp only [List.mem_cons, List.not_mem_nil, or_false] at hv
    refine ⟨?_, u6.trans u7⟩
    rcases hv with rfl | rfl | rfl | rfl
    · exact gd_ref _ (by omega) (by omega) (kept_up u7 (by omega) (by omega) (last_at ..)) (by simp; omega) (gd_ps P hm)
    · exact gd_non _
    · exact gd_str _ (by decide)
    · exact gd_int _ _
  rintro e h8 ⟨rfl, rfl⟩
  simp [pre2, pre, pvs]
  have l1 := lp none (some (a : Int))
  have l2 := lp (some ((a : Int) + 1)) none
  refine ⟨by omega, by omega, gd_tup _ (by simp; omega) fun u hu => ?_, u5⟩
  rcases List.mem_append.mp hu with hu | hu
  · exact gp _ _ u hu
  · rcases List.mem_cons.mp hu with rfl | hu
    · exact ho5
    · exact gp _ _ u hu
end
end HT

set_option Elab.async false
set_option linter.all false
set_option maxRecDepth 100000
set_option maxHeartbeats 2000000
set_option autoImplicit false
namespace HT
open PySem L2 Mi
section
variable {p d : Nat} {h h1 h2 : MH}
theorem upper_str {s : Str} (hs : s.length ≤ 100000) (Q : Val → MH → Prop) : RK (fUpper (.val (.str s)) [] h) Q ↔ Q (.str (Txt.upper s)) h := by
  have e : fUpper (.val (.str s)) [] h = some (.str (Txt.upper s), h) := if_pos hs
  rw [e]
  exact rk_some ..
theorem bent_ok {many kind : Nat} {s : Str} {st as la : Val} (hj : PanAt p d h) (hm : many ≤ 8) (h0 : 0 < many) (hk : kind < 4) (hs : s = Str.ofString "if" ∨ s = Str.ofString "go") (g0 : kind ≠ 0 → Gd p d h 3 st) (g1 : Gd p d h 4 st) (g2 : Gd p d h 4 as) (g3 : Gd p d h 4 la)
    (hp : 2 ≤ kind → (∃ ps, as = pvs ps ∧ PS many ps) ∧ (s = Str.ofString "if" → ∃ qs, la = pvs qs ∧ PS many qs)) :
    OK (F__law_bent [.ref p, .int (many : Int), .tup [.str s, st, as, la], .int (kind : Int)] h) fun v h' => Up p d h h' ∧ Gd p d h' 5 v ∧ (kind ≠ 0 → ∃ b c e, v = .tup [.str s, b, c, e] ∧ Gd p d h' 4 b ∧ Gd p d h' 4 c ∧ Gd p d h' 4 e ∧ (kind ≠ 1 → b = st)) := by
  have sl : s.length ≤ 100 := by rcases hs with rfl | rfl <;> decide
  have su : (Txt.upper s).length ≤ 100 := by rcases hs with rfl | rfl <;> decide
  unfold F__law_bent
  rw [fun_ok]
  refine ⟨rfl, ?_⟩
  let pre : ME := [.val (.ref p), .val (.int (many : Int)), .val (.tup [.str s, st, as, la]), .val (.int (kind : Int)), .val (.str s), .val st, .val as, .val la]
  refine sn_step (fun e h' => h' = h ∧ e = pre) (by simp [pre]) ?_
  rintro e h1 ⟨rfl, rfl⟩
  have four : ∀ {h' : MH} (us : List Val), us.length ≤ 10 → (∀ u ∈ us, Gd p d h' 4 u) → Gd p d h' 5 (.tup us) := fun us hl hu => gd_tup 4 (by omega) hu
  have t4 : ∀ {h'} (s : Str) (b c e : Val), s.length ≤ 100 → Gd p d h' 4 b → Gd p d h' 4 c → Gd p d h' 4 e → Gd p d h' 5 (.tup [.str s, b, c, e]) := fun {h'} s b c e sl gb gc ge => four _ (by simp) fun w hw => by
    simp at hw
    rcases hw with rfl | rfl | rfl | rfl
    · exact gd_str _ sl
    · exact gb
    · exact gc
    · exact ge
  refine sn_step (fun e h' => h' = h1 ∧ e = pre ∧ kind ≠ 0) ?_ ?_
  · rw [sn_if]
    by_cases k0 : kind = 0
    · subst k0
      simp [pre, okTy]
      rw [upper_str (by omega)]
      have u2 := (Up.refl hj).app (.lst [.str s, st, as, la])
      obtain ⟨l1, l2⟩ := hj.lt
      refine OK.mono (draw_up (place := 11) (k := 10) u2.pot (by omega) (by omega)) ?_
      rintro v h2 ⟨r, rfl, hr, u3⟩
      have u := u2.trans u3
      have t1 := gd_heap u g1
      have t2 := gd_heap u g2
      have t3 := gd_heap u g3
      have mem : ∀ w ∈ [Val.str s, st, as, la], Gd p d h2 4 w := fun w hw => by
        simp at hw
        rcases hw with rfl | rfl | rfl | rfl
        · exact gd_str _ sl
        · exact t1
        · exact t2
        · exact t3
      simp
      refine atQ_all (by simp; omega) fun v hv => ⟨u, ?_⟩
      simp only [List.mem_cons, List.not_mem_nil, or_false] at hv
      rcases hv with rfl | rfl | rfl | rfl | rfl | rfl | rfl | rfl | rfl | rfl
      · refine four _ (by simp) fun w hw => ?_
        simp at hw
        rcases hw with rfl | rfl | rfl | rfl
        · exact gd_str _ su
        · exact t1
        · exact t2
        · exact t3
      · refine four _ (by simp) fun w hw => mem w ?_
        simp at hw ⊢
        rcases hw with rfl | rfl | rfl | rfl <;> simp
      · exact gd_ref _ (by omega) (by omega) (kept_up u3 (by omega) (by omega) (last_at ..)) (by simp) mem
      · exact four _ (by have := cut_le [Val.str s, st, as, la] none (some 3); simp at this; omega) fun w hw => mem w (cut_sub w hw)
      · refine four _ (by simp) fun w hw => ?_
        simp at hw
        rcases hw with rfl | rfl | rfl | rfl | rfl
        · exact gd_str _ sl
        · exact t1
        · exact t2
        · exact t3
        · exact gd_int _ _
      · exact gd_non _
      · exact gd_str _ sl
      · refine four _ (by simp) fun w hw => ?_
        simp at hw
        rcases hw with rfl | rfl | rfl | rfl
        · exact gd_str _ (by decide)
        · exact t1
        · exact t2
        · exact t3
      · refine four _ (by simp) fun w hw => ?_
        simp at hw
        rcases hw with rfl | rfl | rfl | rfl
        · exact gd_non _
        · exact t1
        · exact t2
        · exact t3
      · exact four _ (by simp) (by simp)
    · have : ¬ ((kind : Int) = 0) := by omega
      simp [pre, k0]
  rintro e h2 ⟨rfl, rfl, k0⟩
  refine sn_step (fun e h' => h' = h2 ∧ e = pre ∧ kind ≠ 1) ?_ ?_
  · rw [sn_if]
    by_cases k1 : kind = 1
    · simp only [pre]
      subst k1
      simp
      have k0' : (1 : Nat) ≠ 0 := by omega
      refine OK.mono (draw_up (place := 12) (k := 8) hj (by omega) (by omega)) ?_
      rintro v h3 ⟨r, rfl, hr, u⟩
      simp
      refine atQ_all (by simp; omega) fun v hv => ?_
      have t1 := gd_heap u (g0 k0')
      have t2 := gd_heap u g2
      have t3 := gd_heap u g3
      have gv : Gd p d h3 4 v := by
        simp only [List.mem_cons, List.not_mem_nil, or_false] at hv
        rcases hv with rfl | rfl | rfl | rfl | rfl | rfl | rfl | rfl
        · exact gd_int _ _
        · exact gd_int _ _
        · exact gd_bl _ _
        · exact gd_non _
        · exact gd_str _ (by decide)
        · exact gd_tup _ (by simp) fun w hw => by
            simp at hw
            subst hw
            exact t1
        · exact gd_int _ _
        · exact gd_bl _ _
      exact ⟨u, t4 _ _ _ _ sl gv t2 t3, _, _, _, ⟨rfl, rfl, rfl⟩, gv, t2, t3⟩
    · have : ¬ ((kind : Int) = 1) := by omega
      simp [pre, k1, this]
  rintro e h3 ⟨rfl, rfl, k1⟩
  obtain ⟨⟨ps, rfl, P⟩, hla⟩ := hp (by omega)
  refine sn_step (fun e h' => h' = h3 ∧ e = pre ∧ kind ≠ 2) ?_ ?_
  · rw [sn_if]
    by_cases k2 : kind = 2
    · simp only [pre]
      subst k2
      simp
      refine OK.mono (bad_pairs_ok hj hm h0 P) ?_
      rintro v h4 ⟨gv, u⟩
      have t1 := gd_heap u g1
      have t3 := gd_heap u g3
      have gv := gd_up gv
      exact ⟨u, t4 _ _ _ _ sl t1 gv t3, _, _, _, ⟨rfl, rfl, rfl⟩, t1, gv, t3, rfl⟩
    · have : ¬ ((kind : Int) = 2) := by omega
      simp [pre, k2, this]
  rintro e h4 ⟨rfl, rfl, k2⟩
  refine sn_step (fun e h' => h' = h4 ∧ e = pre ∧ s = Str.ofString "if") ?_ ?_
  · rw [sn_if]
    rcases hs with rfl | rfl
    · have : ¬ (Str.ofString "if" = Str.ofString "go") := by decide
      simp [pre, this]
    · simp [pre]
      refine OK.mono (draw_up (place := 13) (k := 8) hj (by omega) (by omega)) ?_
      rintro v h5 ⟨r, rfl, hr, u⟩
      simp
      refine atQ_all (by simp; omega) fun v hv => ?_
      have t1 := gd_heap u g1
      have t2 := gd_heap u g2
      have gv : Gd p d h5 4 v := by
        simp only [List.mem_cons, List.not_mem_nil, or_false] at hv
        rcases hv with rfl | rfl | rfl | rfl | rfl | rfl | rfl | rfl
        · exact gd_int _ _
        · exact gd_int _ _
        · exact gd_bl _ _
        · exact gd_non _
        · exact gd_tup _ (by simp) fun w hw => by
            simp at hw
            subst hw
            exact gd_tup _ (by simp) fun w hw => by
              simp at hw
              rcases hw with rfl | rfl
              · exact gd_int _ _
              · exact gd_int _ _
        · exact gd_tup _ (by simp) (by simp)
        · exact gd_str _ (by decide)
        · exact gd_int _ _
      exact ⟨u, t4 _ _ _ _ sl t1 t2 gv, fun _ => ⟨_, _, _, ⟨rfl, rfl, rfl⟩, t1, t2, gv, fun _ => rfl⟩⟩
  rintro e h5 ⟨rfl, rfl, rfl⟩
  obtain ⟨qs, rfl, Q⟩ := hla rfl
  simp [pre]
  refine OK.mono (bad_pairs_ok hj hm h0 Q) ?_
  rintro v1 h6 ⟨gv1, u1⟩
  have hql : qs.length ≤ 8 := by have := Q.len; omega
  rw [show pvs qs = .tup (qs.map pv) from rfl, list_tup]
  have u2 := u1.app (.lst (qs.map pv))
  obtain ⟨l1, l2⟩ := u1.pot.lt
  refine OK.mono (bad_pairs_ok u2.pot hm h0 Q) ?_
  rintro v2 h7 ⟨gv2, u3⟩
  refine OK.mono (draw_up (place := 14) (k := 6) u3.pot (by omega) (by omega)) ?_
  rintro v h8 ⟨r, rfl, hr, u4⟩
  have u := (u2.trans u3).trans u4
  have ga : Gd p d (h6 ++ [.lst (qs.map pv)]) 3 v1 := gd_heap ((Up.refl u1.pot).app _) gv1
  simp
  refine atQ_all (by simp; omega) fun v hv => ?_
  have t1 := gd_heap u g1
  have t2 := gd_heap u g2
  have gv : Gd p d h8 4 v := by
    simp only [List.mem_cons, List.not_mem_nil, or_false] at hv
    rcases hv with rfl | rfl | rfl | rfl | rfl | rfl
    · exact gd_tup _ (by simp) (by simp)
    · exact gd_int _ _
    · exact gd_non _
    · exact gd_up (gd_heap (u3.trans u4) ga)
    · exact gd_ref _ (by omega) (by omega) (kept_up (u3.trans u4) (by omega) (by omega) (last_at ..)) (by simp; omega) fun w hw => gd_up (gd_ps Q hm w hw)
    · exact gd_up (gd_heap u4 gv2)
  exact ⟨u, t4 _ _ _ _ sl t1 t2 gv, fun _ => ⟨_, _, _, ⟨rfl, rfl, rfl⟩, t1, t2, gv, fun _ => rfl⟩⟩
end
end HT

set_option Elab.async false
set_option linter.all false
set_option maxRecDepth 100000
set_option maxHeartbeats 2000000
set_option autoImplicit false
namespace HT
open PySem L2 Mi
theorem nif : ¬ (Str.ofString "if" ≠ Str.ofString "if" ∧ Str.ofString "if" ≠ Str.ofString "go") := by simp
theorem ngo : ¬ (Str.ofString "go" ≠ Str.ofString "if" ∧ Str.ofString "go" ≠ Str.ofString "go") := by simp
theorem nig : ¬ (Str.ofString "if" = Str.ofString "go") := by decide
section
variable {many : Int} {b as la : Val}
theorem lb_stage_if (h : stgB b = false) : ∃ w, lineB many (.tup [.str (Str.ofString "if"), b, as, la]) = some w := ⟨"stage", by simp only [lineB, if_neg nif, h]; simp⟩
theorem lb_stage_go (h : stgB b = false) : ∃ w, lineB many (.tup [.str (Str.ofString "go"), b, as, la]) = some w := ⟨"stage", by simp only [lineB, if_neg ngo, h]; simp⟩
theorem lb_asks_if (h : stgB b = true) (h2 : asksV many as = false) : ∃ w, lineB many (.tup [.str (Str.ofString "if"), b, as, la]) = some w := ⟨"asks", by simp only [lineB, if_neg nif, h, h2]; simp⟩
theorem lb_asks_go (h : stgB b = true) (h2 : asksV many as = false) : ∃ w, lineB many (.tup [.str (Str.ofString "go"), b, as, la]) = some w := ⟨"asks", by simp only [lineB, if_neg ngo, h, h2]; simp⟩
theorem lb_last_if (h : stgB b = true) (h2 : asksV many as = true) (h3 : ¬ (asksV many la = true ∧ mtB la = false)) : ∃ w, lineB many (.tup [.str (Str.ofString "if"), b, as, la]) = some w := ⟨"last", by simp only [lineB, if_neg nif, h, h2, if_neg nig, if_neg h3]; simp⟩
theorem lb_last_go (h : stgB b = true) (h2 : asksV many as = true) (h3 : stgB la = false) : ∃ w, lineB many (.tup [.str (Str.ofString "go"), b, as, la]) = some w := ⟨"last", by simp only [lineB, if_neg ngo, h, h2, h3]; simp⟩
end
section
variable {p d : Nat} {h h1 h2 : MH}
def BadL (p d : Nat) (h : MH) (many : Int) (v : Val) : Prop := (∃ w, lineB many v = some w) ∧ Gd p d h 5 v
def gdB : Nat → Val → Bool
  | 0, _ => false
  | n + 1, .tup us => decide (us.length ≤ 10000) && us.all (gdB n)
  | _ + 1, .str s => decide (s.length ≤ 100)
  | _ + 1, .non => true
  | _ + 1, .bl _ => true
  | _ + 1, .int _ => true
  | _ + 1, _ => false
theorem gd_of : ∀ {n : Nat} {v : Val}, gdB n v = true → Gd p d h n v
  | n + 1, .tup us, e => by
    simp only [gdB, Bool.and_eq_true, decide_eq_true_eq, List.all_eq_true] at e
    exact gd_tup n e.1 fun u hu => gd_of (e.2 u hu)
  | n + 1, .str s, e => gd_str n (by simpa [gdB] using e)
  | n + 1, .non, _ => gd_non n
  | n + 1, .bl b, _ => gd_bl n b
  | n + 1, .int i, _ => gd_int n i
  | n + 1, .ref _, e => by simp [gdB] at e
  | n + 1, .kls _, e => by simp [gdB] at e
def LsB (p d : Nat) (h : MH) (many : Int) (k : Nat) (x : Sl) : Prop := ∃ ls, x = .own (.lst ls) ∧ ls.length ≤ k ∧ ∀ l ∈ ls, BadL p d h many l
theorem fault_one {many : Int} {v : Val} {w : String} (h : lineB many v = some w) : fault many (.tup [v]) = some (0, w) := by simp [fault, codeL, h]
theorem each_ok {many : Nat} {ns ts cs : List Val} (hj : PanAt p d h) (hm : many ≤ 8) (h0 : 0 < many) (hn : ts[0]? = some (.tup ns)) (hl : ns.length = many) (hc : cs.length ≤ 20) (gc : ∀ c ∈ cs, ∀ h, Gd p d h 5 c) : OK (F__law_each [.ref p, .tup ts, .int (many : Int), .tup cs] h) fun v h' => v = .bl true ∧ Up p d h h' := by
  unfold F__law_each
  rw [fun_ok]
  refine ⟨rfl, ?_⟩
  let mv (r : Nat) : Val := .tup [.tup [.int 0, .int (r : Int)]]
  let pre (r : Nat) : ME := [.val (.ref p), .val (.tup ts), .val (.int (many : Int)), .val (.tup cs), .val (mv r), .val (.int ((many : Int) - 1))]
  refine sn_step (fun e h' => Up p d h h' ∧ ∃ r : Nat, r < 2 ∧ e = pre r ++ [.no, .no, .no, .no]) ?_ ?_
  · simp
    refine OK.mono (draw_up (place := 23) (k := 2) hj (by omega) (by omega)) ?_
    rintro v h1 ⟨r, rfl, hr, u⟩
    refine ⟨u, r, by omega, rfl⟩
  rintro e h1 ⟨u1, r, hr, rfl⟩
  have asked : ∀ v, Gd p d h1 5 v → OK (F__law_asked [.tup ts, .tup (cs ++ [v])] h1) fun r h' => r = .bl true ∧ h' = h1 := fun v g => asked_ok (n := 0) hn (gd_tup 5 (by simp; omega) fun u hu => by
    rcases List.mem_append.mp hu with hu | hu
    · exact gc u hu h1
    · simp at hu
      subst hu
      exact g)
  have am : asksV many (mv r) = true := by
    simp only [mv, asksV, asksL, askB]
    rw [if_pos (by omega)]
  have em : mtB (mv r) = false := rfl
  have s0 : ∀ i : Int, 0 ≤ i → i ≤ 59 → stgB (.int i) = true := fun i a b => by simp [stgB, numB]; omega
  refine sn_step (fun e h' => h' = h1 ∧ ∃ x, LsB p d h1 many 5 x ∧ e = pre r ++ [x, .no, .no, .no]) ?_ ?_
  · simp [pre]
    refine ⟨_, rfl, by simp, fun l hl => ?_⟩
    simp only [List.mem_cons, List.not_mem_nil, or_false] at hl
    rcases hl with rfl | rfl | rfl | rfl | rfl
    · exact ⟨lb_last_if (s0 0 (by omega) (by omega)) rfl (by simp [mtB]), gd_of rfl⟩
    · exact ⟨lb_asks_if (s0 0 (by omega) (by omega)) (by simp [asksV, asksL, askB]), gd_of rfl⟩
    · exact ⟨lb_asks_if (s0 0 (by omega) (by omega)) (by simp [asksV, asksL, askB, h0]), gd_of rfl⟩
    · exact ⟨lb_last_if (s0 0 (by omega) (by omega)) rfl (by simp [asksV, asksL, askB, h0]), gd_of rfl⟩
    · exact ⟨lb_last_if (s0 0 (by omega) (by omega)) rfl (by simp [asksV, asksL, askB, h0]), gd_of rfl⟩
  rintro e h2 ⟨rfl, x, ⟨ls, rfl, hls, bl⟩, rfl⟩
  refine sn_step (fun e h' => h' = h2 ∧ ∃ x, LsB p d h2 many 12 x ∧ e = pre r ++ [x, .no, .no, .no]) ?_ ?_
  · simp [pre]
    rw [add_lst _ rfl rfl]
    refine ⟨by simp; omega, rfl, ls ++ _, rfl, by simp; omega, fun l hl => ?_⟩
    rcases List.mem_append.mp hl with hl | hl
    · exact bl l hl
    simp only [List.mem_cons, List.not_mem_nil, or_false] at hl
    rcases hl with rfl | rfl | rfl | rfl | rfl | rfl | rfl
    · exact ⟨lb_last_go (s0 0 (by omega) (by omega)) rfl rfl, gd_of rfl⟩
    · exact ⟨lb_asks_go (s0 59 (by omega) (by omega)) (by simp [asksV, asksL, askB]), gd_of rfl⟩
    · exact ⟨lb_stage_if rfl, gd_of rfl⟩
    · exact ⟨lb_stage_go rfl, gd_of rfl⟩
    · exact ⟨lb_asks_if (s0 0 (by omega) (by omega)) (by simp [asksV, asksL, askB]), gd_of rfl⟩
    · exact ⟨lb_last_go (s0 1 (by omega) (by omega)) rfl rfl, gd_of rfl⟩
    · exact ⟨lb_last_if (s0 1 (by omega) (by omega)) rfl (by simp [asksV]), gd_of rfl⟩
  rintro e h3 ⟨rfl, x, ⟨ls, rfl, hls, bl⟩, rfl⟩
  refine sn_step (fun e h' => h' = h3 ∧ ∃ x, LsB p d h3 many 15 x ∧ e = pre r ++ [x, .no, .no, .no]) ?_ ?_
  · rw [sn_if]
    simp [pre]
    split
    · rename_i h2m
      have h2m' : 1 < many := by omega
      rw [add_lst _ rfl rfl]
      refine ⟨by simp; omega, rfl, ls ++ _, rfl, by simp; omega, fun l hl => ?_⟩
      rcases List.mem_append.mp hl with hl | hl
      · exact bl l hl
      have c1 : ¬ ((many : Int) - 1 < 0) := by omega
      simp only [List.mem_cons, List.not_mem_nil, or_false] at hl
      have a1 : ∀ e : Int, 0 ≤ e → e ≤ 1 → asksV many (.tup [.tup [.int ((many : Int) - 1), .int e], .tup [.int 0, .int e]]) = false := fun e e0 e1 => by
        simp only [asksV, asksL, askB]
        rw [if_pos (by omega)]
        simp only
        rw [if_neg (by omega)]
      rcases hl with rfl | rfl | rfl
      · exact ⟨lb_asks_if (s0 0 (by omega) (by omega)) (a1 0 (by omega) (by omega)), gd_of rfl⟩
      · exact ⟨lb_last_if (s0 0 (by omega) (by omega)) rfl (by simp [a1 1 (by omega) (by omega)]), gd_of rfl⟩
      · refine ⟨lb_asks_go (s0 0 (by omega) (by omega)) ?_, gd_of rfl⟩
        simp only [asksV, asksL, askB]
        rw [if_pos (by omega)]
        simp only
        rw [if_neg (by omega)]
    · exact ⟨ls, rfl, by omega, bl⟩
  rintro e h4 ⟨rfl, x, ⟨ls, rfl, hls, bl⟩, rfl⟩
  refine sn_step (fun e h' => h' = h4 ∧ ∃ x, e = pre r ++ [.no, x, .no, .no]) ?_ ?_
  · rw [sn_forOwn]
    refine ⟨ls, rfl, ?_⟩
    refine fold_inv (fun i e h' => h' = h4 ∧ ∃ x, e = pre r ++ [.no, x, .no, .no]) ⟨rfl, _, rfl⟩ ?_ ?_
    · rintro i v env h5 hv ⟨rfl, x, rfl⟩
      obtain ⟨⟨w, hw⟩, gv⟩ := bl v (List.mem_of_getElem? hv)
      refine ⟨pre r ++ [.no, .val v, .no, .no], rfl, ?_⟩
      rw [sn_if]
      simp [pre]
      refine OK.mono (law_fault_ok (p := p) (d := d) (n := 0) (gd_tup 5 (by simp) fun u hu => ?_)) ?_
      · simp at hu
        subst hu
        exact gv
      rintro r' h6 ⟨rfl, rfl⟩
      rw [fault_one hw]
      simp [fv, isNonO]
      refine ⟨by omega, ?_⟩
      refine OK.mono (asked v gv) ?_
      rintro r' h7 ⟨rfl, rfl⟩
      simp [truth]
    · rintro env h5 ⟨rfl, x, rfl⟩
      exact ⟨rfl, x, rfl⟩
  rintro e h5 ⟨rfl, x, rfl⟩
  refine sn_step (fun e h' => h' = h5 ∧ ∃ x y gs, (∀ g ∈ gs, Gd p d h5 5 g) ∧ e = pre r ++ [.no, x, .own (.lst gs), y]) ?_ ?_
  · have cmp : ∀ e : Int, OK (foldC (tName 9) tTrue (xTup (vCons (xVar 9) (vCons (xC (.int e)) vNil))) (wipeM [.val (.ref p), .val (.tup ts), .val (.int (many : Int)), .val (.tup cs), .val (mv r), .val (.int ((many : Int) - 1)), .no, x, .no, .no] [9]) (rngV 0 many) [] h5) fun vs h' => h' = h5 ∧ vs.length ≤ 8 ∧ ∀ u ∈ vs, Gd p d h5 3 u := fun e => by
      refine comp_inv (fun j acc h' => h' = h5 ∧ acc.length ≤ j ∧ ∀ u ∈ acc, Gd p d h5 3 u) ⟨rfl, by simp, by simp⟩ ?_ ?_
      · rintro j v acc h6 hv ⟨rfl, ha, hg⟩
        obtain ⟨hj, rfl⟩ := rng_at hv
        refine ⟨_, rfl, ?_⟩
        simp [wipeM]
        refine ⟨by omega, by omega, fun u hu => ?_⟩
        rcases hu with hu | rfl
        · exact hg u hu
        · exact gd_of rfl
      · rintro acc h6 ⟨rfl, ha, hg⟩
        rw [rng_len] at ha
        exact ⟨rfl, by omega, hg⟩
    simp [pre]
    refine ⟨by omega, ?_⟩
    refine OK.mono (cmp 1) ?_
    rintro v1 h6 ⟨rfl, l1, g1⟩
    refine ⟨by omega, ?_⟩
    refine OK.mono (cmp 0) ?_
    rintro v2 h6 ⟨rfl, l2, g2⟩
    refine ⟨by omega, ?_⟩
    refine OK.mono (cmp 1) ?_
    rintro v3 h6 ⟨rfl, l3, g3⟩
    refine ⟨rfl, _, _, _, fun g hg => ?_, rfl, rfl, rfl⟩
    simp only [List.mem_cons, List.not_mem_nil, or_false] at hg
    rcases hg with rfl | rfl | rfl
    · exact gd_of rfl
    · refine gd_tup 4 (by simp) fun u hu => ?_
      simp only [List.mem_cons, List.not_mem_nil, or_false] at hu
      rcases hu with rfl | rfl | rfl | rfl
      · exact gd_of rfl
      · exact gd_of rfl
      · exact gd_tup 3 (by omega) g1
      · exact gd_of rfl
    · refine gd_tup 4 (by simp) fun u hu => ?_
      simp only [List.mem_cons, List.not_mem_nil, or_false] at hu
      rcases hu with rfl | rfl | rfl | rfl
      · exact gd_of rfl
      · exact gd_of rfl
      · exact gd_tup 3 (by omega) g2
      · exact gd_tup 3 (by omega) g3
  rintro e h6 ⟨rfl, x, y, gs, hg, rfl⟩
  simp [pre]
  refine comp_inv (fun j acc h' => acc = [] ∧ h' = h6) ⟨rfl, rfl⟩ ?_ ?_
  · rintro j v acc h7 hv ⟨rfl, rfl⟩
    refine ⟨_, rfl, ?_⟩
    simp [wipeM]
    refine ⟨by omega, ?_⟩
    refine OK.mono (asked v (hg v (List.mem_of_getElem? hv))) ?_
    rintro r' h8 ⟨rfl, rfl⟩
    simp [truth]
  · rintro acc h7 ⟨rfl, rfl⟩
    simp
    exact u1
end
end HT

set_option Elab.async false
set_option linter.all false
set_option maxRecDepth 100000
set_option maxHeartbeats 2000000
set_option autoImplicit false
namespace HT
open PySem L2 Mi
theorem ok_fnK {F : FM} {n : Nat} {q : List Nat} {m : EM (List Val)} {env : ME} {h : MH} {Q : Val → MH → Prop} (hq : OK (m env h) fun args h1 => args.length = n ∧ OK (F (permL q args) h1) Q) : OK (xFnK F n q m env h) Q := by
  unfold xFnK
  rw [ok_bind]
  refine OK.mono hq ?_
  rintro args h1 ⟨e, z⟩
  rw [if_pos e]
  exact z
theorem cut_take1 (vs : List Val) (k : Nat) : cutM vs none (some (k : Int)) = vs.take k := by
  unfold cutM HT.sIx
  simp
  rw [if_neg (by omega)]
  omega
theorem cut_drop1 {vs : List Val} {k : Nat} (hk : k ≤ vs.length) : cutM vs (some (k : Int)) none = vs.drop k := by
  unfold cutM HT.sIx
  simp
  rw [if_neg (by omega), Nat.min_eq_left hk, List.take_of_length_le (by simp)]
theorem cut_set {vs : List Val} {a : Nat} (b : Val) (ha : a < vs.length) : cutM vs none (some (a : Int)) ++ b :: cutM vs (some ((a : Int) + 1)) none = vs.set a b := by
  rw [cut_take1, show ((a : Int) + 1) = ((a + 1 : Nat) : Int) by omega, cut_drop1 (by omega), List.set_eq_take_append_cons_drop, if_pos ha]
section
variable {p d : Nat} {h h1 h2 : MH}
theorem mapM_some {f : Val → Option PyData} : ∀ {us : List Val}, (∀ u ∈ us, ∃ x, f u = some x) → ∃ xs, us.mapM f = some xs
  | [], _ => ⟨[], rfl⟩
  | u :: us, g => by
    obtain ⟨x, hx⟩ := g u List.mem_cons_self
    obtain ⟨xs, hxs⟩ := mapM_some fun w hw => g w (List.mem_cons_of_mem _ hw)
    exact ⟨x :: xs, by rw [List.mapM_cons, hx, hxs]; rfl⟩
theorem gd_pd : ∀ {n : Nat} {v : Val}, Gd p d h n v → ∃ x, pd h n v = some x
  | n + 1, v, g => by
    rcases g with rfl | ⟨b, rfl⟩ | ⟨i, rfl⟩ | ⟨s, rfl, _⟩ | ⟨us, rfl, _, g⟩ | ⟨q, us, rfl, _, _, hq, _, g⟩
    · exact ⟨_, rfl⟩
    · exact ⟨_, rfl⟩
    · exact ⟨_, rfl⟩
    · exact ⟨_, rfl⟩
    · obtain ⟨xs, hx⟩ := mapM_some fun u hu => gd_pd (g u hu)
      refine ⟨.tuple xs, ?_⟩
      show (us.mapM (pd h n)).map PyData.tuple = _
      rw [hx]
      rfl
    · obtain ⟨xs, hx⟩ := mapM_some fun u hu => gd_pd (g u hu)
      refine ⟨.list xs, ?_⟩
      unfold pd
      simp only [hq, hx]
      rfl
theorem eq_gd {a b : Val} {n : Nat} (hn : n ≤ 50) (ga : Gd p d h n a) (gb : Gd p d h n b) (Q : Val → MH → Prop) (q : ∀ t : Bool, Q (.bl t) h) : RK (fEq (.val a) (.val b) h) Q := by
  obtain ⟨x, hx⟩ := gd_pd (gd_le hn ga)
  obtain ⟨y, hy⟩ := gd_pd (gd_le hn gb)
  exact (pd_eq (a := .val a) (b := .val b) hx hy Q).mpr (q _)
structure Code (many : Nat) (ts cs ns : List Val) : Prop where
  m8 : many ≤ 8
  m0 : 0 < many
  tn : ts[0]? = some (.tup ns)
  nl : ns.length = many
  c0 : 0 < cs.length
  c9 : cs.length ≤ 9
  ln : ∀ c ∈ cs, LineV many c
theorem Code.gc {many : Nat} {ts cs ns : List Val} (C : Code many ts cs ns) (h : MH) : ∀ c ∈ cs, Gd p d h 5 c := fun c hc => (C.ln c hc).gd C.m8 1
theorem Code.none {many : Nat} {ts cs ns : List Val} (C : Code many ts cs ns) : fault many (.tup cs) = Option.none := by
  have h : ∀ (cs : List Val) (i : Nat), (∀ c ∈ cs, LineV many c) → codeL many i cs = Option.none := by
    intro cs
    induction cs with
    | nil => intro i _; rfl
    | cons c cs ih =>
      intro i hc
      simp only [codeL, (hc c List.mem_cons_self).none]
      exact ih _ fun c' h' => hc c' (List.mem_cons_of_mem _ h')
  have := C.c9
  simp only [fault]
  rw [if_neg (by omega)]
  exact h cs 0 C.ln
theorem asks_all {many : Nat} {ts cs ns : List Val} (C : Code many ts cs ns) {us : List Val} (hl : us.length ≤ 10000) (g : ∀ u ∈ us, Gd p d h 5 u) : OK (F__law_asked [.tup ts, .tup us] h) fun r h' => r = .bl true ∧ h' = h := asked_ok (n := 0) C.tn (gd_tup 5 hl g)
theorem check_code_ok (p d : Nat) {many : Nat} {ts cs ns : List Val} (C : Code many ts cs ns) : OK (F_check_code [.tup ts, .tup cs] h) fun v h' => v = .int cs.length ∧ h' = h := by
  have hc9 := C.c9
  rcases (check_ok (p := p) (d := d) (n := 0) C.tn (gd_tup 5 (us := cs) (by omega) (C.gc h))).run with q | ⟨e, h', _, a, w, hf, _⟩
  · refine OK.mono q ?_
    rintro v h' ⟨_, ⟨vs, e, rfl⟩, rfl⟩
    cases e
    exact ⟨rfl, rfl⟩
  · rw [C.nl, C.none] at hf
    cases hf
theorem add1 {xs : List Val} {n : Nat} (y : Val) (gx : ∀ u ∈ xs, Gd p d h n u) (gy : Gd p d h n y) : ∀ u ∈ xs ++ [y], Gd p d h n u := fun u hu => by
  rcases List.mem_append.mp hu with hu | hu
  · exact gx u hu
  · simp at hu
    subst hu
    exact gy
def nm8 : List Val := [wv "a", wv "b", wv "c1", wv "cylinde0", wv "homes", wv "part2", wv "q", wv "zz"]
end
structure Bn (many : Nat) (p d : Nat) (h : MH) (kk : Nat) (s : Str) (st b : Val) : Prop where
  g : Gd p d h 5 b
  f : kk ≠ 0 → ∃ b1 c e, b = .tup [.str s, b1, c, e] ∧ Gd p d h 4 b1 ∧ Gd p d h 4 c ∧ Gd p d h 4 e ∧ (kk ≠ 1 → b1 = st)
structure Ln (many : Nat) (v : Val) (s : Str) (st as la : Val) : Prop where
  e : v = .tup [.str s, st, as, la]
  wd : s = Str.ofString "if" ∨ s = Str.ofString "go"
  g : ∀ p d h, Gd p d h 3 st ∧ Gd p d h 4 as ∧ Gd p d h 4 la
  a : ∃ ps, as = pvs ps ∧ PS many ps
  l : s = Str.ofString "if" → ∃ qs, la = pvs qs ∧ PS many qs
theorem LineV.split {many : Nat} {v : Val} (l : LineV many v) (hm : many ≤ 8) : ∃ s st as la, Ln many v s st as la := by
  rcases l with ⟨s, ps, s2, rfl, hs, hs2, P⟩ | ⟨s, ps, qs, rfl, hs, P, Q, hq⟩
  · exact ⟨_, _, _, _, rfl, .inr rfl, fun p d h => ⟨gd_of rfl, gd_up (P.gd hm 0), gd_of rfl⟩, ⟨ps, rfl, P⟩, fun z => absurd z.symm nig⟩
  · exact ⟨_, _, _, _, rfl, .inl rfl, fun p d h => ⟨gd_of rfl, gd_up (P.gd hm 0), gd_up (Q.gd hm 0)⟩, ⟨ps, rfl, P⟩, fun _ => ⟨qs, rfl, Q⟩⟩
theorem bent_ln {p d many kind : Nat} {h : MH} {v : Val} {s : Str} {st as la : Val} (hj : PanAt p d h) (hm : many ≤ 8) (h0 : 0 < many) (hk : kind < 4) (L : Ln many v s st as la) : OK (F__law_bent [.ref p, .int (many : Int), v, .int (kind : Int)] h) fun b h' => Up p d h h' ∧ Bn many p d h' kind s st b := by
  obtain ⟨g1, g2, g3⟩ := L.g p d h
  rw [L.e]
  refine OK.mono (bent_ok hj hm h0 hk L.wd (fun _ => g1) (gd_up g1) g2 g3 fun _ => ⟨L.a, L.l⟩) ?_
  rintro b h' ⟨u, g, f⟩
  exact ⟨u, g, f⟩
theorem set_gd {p d n i : Nat} {h : MH} {xs : List Val} {y : Val} (gx : ∀ u ∈ xs, Gd p d h n u) (gy : Gd p d h n y) : ∀ u ∈ xs.set i y, Gd p d h n u := fun u hu => by
  rcases List.mem_or_eq_of_mem_set hu with hu | rfl
  · exact gx u hu
  · exact gy
structure Us (p d : Nat) (h : MH) (n : Nat) (w : Sl) : Prop where
  ex : ∃ us, w = .val (.tup us) ∧ us.length = n ∧ ∀ u ∈ us, Gd p d h 5 u
def E16 (v : Val) (p : Nat) (a b c t o x s k i w r g : Sl) : ME := [.val v, .val (.ref p), .val (.tup nm8), a, b, c, t, o, x, s, k, i, w, r, g, .no]
structure Lp (v : Val) (p d j : Nat) (e : ME) (h : MH) : Prop where
  pan : PanAt p d h
  ex : ∃ a b c t o x s k i w r g, e = E16 v p a b c t o x s k i w r g
  code : 0 < j → ∃ (many : Nat) (ts cs ns : List Val) (a c o s k i w r g : Sl), Code many ts cs ns ∧ e = E16 v p a (.val (.int (many : Int))) c (.val (.tup ts)) o (.val (.tup cs)) s k i w r g
theorem mul_tup {h : MH} {xs : List Val} {k : Int} {Q : Opd → MH → Prop} (hx : xs ≠ [] ∧ 2 ≤ k ∧ k ≤ 1000 ∧ xs.length ≤ 1000) : RK (fMul (.val (.tup xs)) (.val (.int k)) h) Q ↔ Q (.val (.tup (List.replicate k.toNat xs).flatten)) h := by
  have e : fMul (.val (.tup xs)) (.val (.int k)) h = some (.val (.tup (List.replicate k.toNat xs).flatten), h) := if_pos hx
  rw [e]
  exact rk_some ..
theorem law_ok {is : List Int} {v : Val} {h : MH} (hv : Scr is v h) : OK (F_law [v] h) fun r _ => r = .bl true := by
  unfold F_law
  rw [fun_ok]
  refine ⟨rfl, ?_⟩
  refine sn_step (fun e h' => ∃ p d, PanAt p d h' ∧ e = [.val v, .val (.ref p)] ++ List.replicate 14 .no) ?_ ?_
  · simp
    refine OK.mono (pan_ok hv) ?_
    rintro r h1 ⟨rfl, hp⟩
    exact ⟨_, ⟨_, hp⟩, rfl⟩
  rintro e h1 ⟨p, d, hp, rfl⟩
  refine sn_step (fun e h' => h' = h1 ∧ e = [.val v, .val (.ref p), .val (.tup nm8)] ++ List.replicate 13 .no) (by simp [nm8, wv]) ?_
  rintro e h2 ⟨rfl, rfl⟩
  refine sn_step (fun e h' => Lp v p d 1 e h') ?_ ?_
  · rw [sn_for]
    simp
    refine fold_inv (Lp v p d) ⟨hp, ⟨_, _, _, _, _, _, _, _, _, _, _, _, rfl⟩, fun z => absurd z (by omega)⟩ ?_ ?_
    · rintro j u env h3 hu ⟨hp3, ⟨a, b, c, t, o, x, s, k, i, w, r, g, rfl⟩, _⟩
      obtain ⟨hj, rfl⟩ := rng_at hu
      refine ⟨_, rfl, ?_⟩
      refine sn_step (fun e h' => PanAt p d h' ∧ ∃ many : Nat, many ≤ 8 ∧ 0 < many ∧ e = E16 v p (.val (.int (j : Int))) (.val (.int (many : Int))) c t o x s k i w r g) ?_ ?_
      · simp [E16]
        refine OK.mono (draw_up (place := 15) (k := 8) hp3 (by omega) (by omega)) ?_
        rintro v h4 ⟨r, rfl, hr, u4⟩
        simp
        exact ⟨u4.pot, 1 + r, by omega, by omega, by omega⟩
      rintro e h4 ⟨hp4, many, m8, m0, rfl⟩
      refine sn_step (fun e h' => h' = h4 ∧ e = E16 v p (.val (.int (j : Int))) (.val (.int (many : Int))) (.val (.tup (rngV 0 many))) t o x s k i w r g) ?_ ?_
      · simp [E16]
        rw [ok_tr1, ok_var]
        exact ⟨_, rfl, _, rfl, by unfold rgB; simp; omega, rfl, rfl⟩
      rintro e h5 ⟨rfl, rfl⟩
      refine sn_step (fun e h' => PanAt p d h' ∧ ∃ ts ns, ts[0]? = some (Val.tup ns) ∧ ns.length = many ∧ e = E16 v p (.val (.int (j : Int))) (.val (.int (many : Int))) (.val (.tup (rngV 0 many))) (.val (.tup ts)) o x s k i w r g) ?_ ?_
      · simp [E16]
        refine ⟨by omega, ?_⟩
        refine comp_inv (fun j acc h' => PanAt p d h' ∧ acc.length ≤ j) ⟨hp4, by simp⟩ ?_ ?_
        · rintro j' u acc h6 hv ⟨hp6, ha⟩
          obtain ⟨hj', rfl⟩ := rng_at hv
          refine ⟨_, rfl, ?_⟩
          simp [wipeM]
          refine OK.mono (draw_up (place := 16) (k := 2) hp6 (by omega) (by omega)) ?_
          rintro v h7 ⟨r, rfl, hr, u7⟩
          exact ⟨by omega, u7.pot, by omega⟩
        · rintro acc h6 ⟨hp6, ha⟩
          refine ⟨hp6, _, cutM nm8 none (some (many : Int)), ?_, ?_, rfl⟩
          · rfl
          · rw [cut_take1, List.length_take]
            have : nm8.length = 8 := rfl
            omega
      rintro e h6 ⟨hp6, ts, ns, tn, nl, rfl⟩
      refine sn_step (fun e h' => PanAt p d h' ∧ ∃ cs, Code many ts cs ns ∧ e = E16 v p (.val (.int (j : Int))) (.val (.int (many : Int))) (.val (.tup (rngV 0 many))) (.val (.tup ts)) o (.val (.tup cs)) s k i w r g) ?_ ?_
      · simp [E16]
        refine OK.mono (draw_up (place := 17) (k := 9) hp6 (by omega) (by omega)) ?_
        rintro v' h7 ⟨r, rfl, hr, u7⟩
        rw [add_int]
        refine ⟨_, rfl, ⟨by omega, by omega⟩, ?_⟩
        have hr9 : (1 + (r : Int)).toNat = 1 + r := by omega
        rw [hr9]
        refine comp_inv (fun j acc h' => PanAt p d h' ∧ acc.length = j ∧ ∀ c ∈ acc, LineV many c) ⟨u7.pot, rfl, by simp⟩ ?_ ?_
        · rintro j' u acc h8 hv ⟨hp8, ha, hl⟩
          obtain ⟨hj', rfl⟩ := rng_at hv
          refine ⟨_, rfl, ?_⟩
          simp [wipeM]
          refine OK.mono (line_ok hp8 m8 m0) ?_
          rintro v h9 ⟨lv, u9⟩
          refine ⟨by omega, u9.pot, by omega, fun c hc => ?_⟩
          rcases hc with hc | rfl
          · exact hl c hc
          · exact lv
        · rintro acc h8 ⟨hp8, ha, hl⟩
          rw [rng_len] at ha
          exact ⟨hp8, m8, m0, tn, nl, by omega, by omega, hl⟩
      rintro e h7 ⟨hp7, cs, C, rfl⟩
      have gc := C.gc (p := p) (d := d)
      have c9 := C.c9
      refine sn_step (fun e h' => h' = h7 ∧ e = E16 v p (.val (.int (j : Int))) (.val (.int (many : Int))) (.val (.tup (rngV 0 many))) (.val (.tup ts)) o (.val (.tup cs)) s k i w r g) ?_ ?_
      · rw [sn_if]
        simp [E16]
        refine OK.mono (asks_all C (by omega) (gc h7)) ?_
        rintro r1 h8 ⟨rfl, rfl⟩
        simp [truth]
        refine OK.mono (asks_all (p := p) (d := d) C (by simp) (by simp)) ?_
        rintro r1 h9 ⟨rfl, rfl⟩
        simp [truth]
        refine ok_fnK ?_
        simp [permL]
        refine OK.mono (check_code_ok p d C) ?_
        rintro r1 h10 ⟨rfl, rfl⟩
        refine OK.mono (even_ok (.inl ⟨_, rfl⟩)) ?_
        rintro r1 h11 ⟨rfl, rfl⟩
        simp [truth]
      rintro e h8 ⟨rfl, rfl⟩
      refine sn_step (fun e h' => PanAt p d h' ∧ e = E16 v p (.val (.int (j : Int))) (.val (.int (many : Int))) (.val (.tup (rngV 0 many))) (.val (.tup ts)) o (.val (.tup cs)) s k i w r g) ?_ ?_
      · rw [sn_if]
        simp [E16]
        refine OK.mono (each_ok hp7 m8 m0 tn nl (by omega) fun c hc h => gc h c hc) ?_
        rintro r1 h9 ⟨rfl, u9⟩
        simp [truth]
        exact u9.pot
      rintro e h9 ⟨hp9, rfl⟩
      refine sn_step (fun e h' => PanAt p d h' ∧ ∃ k i w r, e = E16 v p (.val (.int (j : Int))) (.val (.int (many : Int))) (.val (.tup (rngV 0 many))) (.val (.tup ts)) o (.val (.tup cs)) s k i w r g) ?_ ?_
      · rw [sn_for]
        simp
        let B (k i w r : Sl) : ME := E16 v p (.val (.int (j : Int))) (.val (.int (many : Int))) (.val (.tup (rngV 0 many))) (.val (.tup ts)) o (.val (.tup cs)) s k i w r g
        refine fold_inv (fun _ e h' => PanAt p d h' ∧ ∃ k i w r, e = B k i w r) ⟨hp9, _, _, _, _, rfl⟩ ?_ (fun env h q => q)
        rintro kk u env h10 hu ⟨hp10, k, i, w, r, rfl⟩
        obtain ⟨hk4, rfl⟩ := rng_at hu
        have e0 : (0 : Int) + (kk : Int) = (kk : Int) := by omega
        rw [e0]
        refine ⟨B (.val (.int (kk : Int))) i w r, rfl, ?_⟩
        refine sn_step (fun e h' => PanAt p d h' ∧ ∃ a : Nat, a < cs.length ∧ e = B (.val (.int (kk : Int))) (.val (.int (a : Int))) w r) ?_ ?_
        · have c0 := C.c0
          simp [B, E16]
          refine OK.mono (draw_up (place := 18) hp10 (by omega) (by omega)) ?_
          rintro v' h11 ⟨r', rfl, hr, u11⟩
          exact ⟨u11.pot, r', by omega, rfl⟩
        rintro e h11 ⟨hp11, a, ha, rfl⟩
        have ea : cs[a]? = some cs[a] := List.getElem?_eq_getElem ha
        obtain ⟨s1, st, as, la, L⟩ := (C.ln cs[a] (List.getElem_mem ha)).split m8
        refine sn_step (fun e h' => PanAt p d h' ∧ ∃ b, Bn many p d h' kk s1 st b ∧ e = B (.val (.int (kk : Int))) (.val (.int (a : Int))) (.val (.tup (cs.set a b))) r) ?_ ?_
        · simp [B, E16, ea]
          refine OK.mono (bent_ln hp11 m8 m0 hk4 L) ?_
          rintro b h12 ⟨u12, b12⟩
          have l1 := cut_le cs none (some (a : Int))
          have l2 := cut_le cs (some ((a : Int) + 1)) none
          refine ⟨by omega, by omega, u12.pot, b, b12, ?_⟩
          rw [cut_set b ha]
        rintro e h12 ⟨hp12, b, b12, rfl⟩
        have gs12 : ∀ u ∈ cs.set a b, Gd p d h12 5 u := set_gd (gc h12) b12.g
        refine sn_step (fun e h' => h' = h12 ∧ e = B (.val (.int (kk : Int))) (.val (.int (a : Int))) (.val (.tup (cs.set a b))) r) ?_ ?_
        · rw [sn_if]
          simp [B, E16]
          refine OK.mono (asks_all C (by simp; omega) gs12) ?_
          rintro r1 h13 ⟨rfl, rfl⟩
          simp [truth]
        rintro e h13 ⟨rfl, rfl⟩
        refine sn_step (fun e h' => Up p d h13 h' ∧ ∃ o : Nat, o < cs.length ∧ e = B (.val (.int (kk : Int))) (.val (.int (a : Int))) (.val (.tup (cs.set a b))) (.val (.int (o : Int)))) ?_ ?_
        · have c0 := C.c0
          simp [B, E16]
          refine OK.mono (draw_up (place := 19) hp12 (by omega) (by omega)) ?_
          rintro v' h14 ⟨r', rfl, hr, u14⟩
          exact ⟨u14, r', by omega, rfl⟩
        rintro e h14 ⟨u14, o', ho, rfl⟩
        have hp14 := u14.pot
        have gs14 : ∀ u ∈ cs.set a b, Gd p d h14 5 u := fun u hu => gd_heap u14 (gs12 u hu)
        have eo : cs[o']? = some cs[o'] := List.getElem?_eq_getElem ho
        have eb : (cs.set a b)[o']? = some ((cs.set a b)[o']'(by simpa using ho)) := List.getElem?_eq_getElem _
        have gw := gs14 _ (List.getElem_mem (by simpa using ho : o' < (cs.set a b).length))
        refine sn_step (fun e h' => PanAt p d h' ∧ ∃ w, Us p d h' cs.length w ∧ e = B (.val (.int (kk : Int))) (.val (.int (a : Int))) w (.val (.int (o' : Int)))) ?_ ?_
        · have hs : (cs.set a b).length = cs.length := by simp
          rw [sn_if]
          refine OK.mono (Q := fun k h1 => h1 = h14) ?_ ?_
          · rcases id gw with e | ⟨_, e⟩ | ⟨_, e⟩ | ⟨_, e, _⟩ | ⟨ws, e, _, g⟩ | ⟨q, ws, e, _, _, hq, _⟩
            · simp [B, E16, eb, e, tyName, isTy, truth]
            · simp [B, E16, eb, e, tyName, isTy, truth]
            · simp [B, E16, eb, e, tyName, isTy, truth]
            · simp [B, E16, eb, e, tyName, isTy, truth]
            · have gw := gw
              simp only [e] at gw
              simp [B, E16, eb, eo, e, tyName, isTy, truth]
              intro _
              exact eq_gd (n := 5) (by omega) gw (gc h14 _ (List.getElem_mem ho)) _ (fun t => by simp)
            · simp [B, E16, eb, e, tyName, isTy, truth, hq]
          rintro k h15 rfl
          cases k with
          | true =>
            obtain ⟨s2, st2, as2, la2, L2⟩ := (C.ln cs[o'] (List.getElem_mem ho)).split m8
            simp [B, E16, eo]
            refine OK.mono (draw_up (place := 20) (k := 4) hp14 (by omega) (by omega)) ?_
            rintro v' h16 ⟨r', rfl, hr, u16⟩
            refine OK.mono (bent_ln u16.pot m8 m0 (by omega) L2) ?_
            rintro b2 h17 ⟨u17, b17⟩
            have l1 := cut_le (cs.set a b) none (some (o' : Int))
            have l2 := cut_le (cs.set a b) (some ((o' : Int) + 1)) none
            rw [hs] at l1 l2
            refine ⟨by omega, by omega, u17.pot, ?_⟩
            rw [cut_set b2 (by omega)]
            exact ⟨_, rfl, by simp, set_gd (fun u hu => gd_heap (u16.trans u17) (gs14 u hu)) b17.g⟩
          | false =>
            rw [if_neg (by simp), sn_if]
            by_cases k0 : kk = 0
            · simp [B, E16, k0]
              exact ⟨hp14, _, rfl, by simp, gs14⟩
            · obtain ⟨b1, c1, e1, eb1, q1, q2, q3, q4⟩ := b12.f k0
              have k0' : 0 < kk := by omega
              have l1 := cut_le (cs.set a b) none (some (a : Int))
              have l2 := cut_le (cs.set a b) (some ((a : Int) + 1)) none
              rw [hs] at l1 l2
              by_cases k3 : kk = 3
              · subst k3
                simp [B, E16, ea]
                rw [L.e]
                simp
                refine ⟨by omega, by omega, hp14, ?_⟩
                rw [cut_set _ (by omega)]
                refine ⟨_, rfl, by simp, set_gd gs14 ?_⟩
                have sl : s1.length ≤ 100 := by rcases L.wd with rfl | rfl <;> decide
                exact gd_tup 4 (by simp) fun u hu => by
                  simp at hu
                  rcases hu with rfl | rfl | rfl | rfl
                  · exact gd_str _ sl
                  · exact gd_int _ _
                  · exact gd_non _
              · have k3' : ¬ ((kk : Int) = 3) := by omega
                have ebb : (cs.set a b)[a]? = some b := List.getElem?_set_self ha
                have kc : (kk : Int) - 1 = ((kk - 1 : Nat) : Int) := by omega
                simp [B, E16, k0', k3', ebb, kc]
                have bo := (bent_ok hp14 m8 m0 (kind := kk - 1) (by omega) L.wd (fun z => by rw [q4 (by omega)]; exact (L.g p d h15).1) (gd_heap u14 q1) (gd_heap u14 q2) (gd_heap u14 q3) fun z => absurd z (by omega))
                rw [← eb1] at bo
                refine OK.mono bo ?_
                rintro b2 h17 ⟨u17, g17, _⟩
                refine ⟨by omega, by omega, u17.pot, ?_⟩
                rw [cut_set b2 (by omega)]
                exact ⟨_, rfl, by simp, set_gd (fun u hu => gd_heap u17 (gs14 u hu)) g17⟩
        rintro e h15 ⟨hp15, w, ⟨⟨us, rfl, ul, gu⟩⟩, rfl⟩
        rw [sn_if]
        simp [B, E16]
        refine OK.mono (asks_all C (by omega) gu) ?_
        rintro r1 h16 ⟨rfl, rfl⟩
        simp [truth]
        exact hp15
      rintro e h10 ⟨hp10, k, i, w, r, rfl⟩
      refine sn_step (fun e h' => h' = h10 ∧ e = E16 v p (.val (.int (j : Int))) (.val (.int (many : Int))) (.val (.tup (rngV 0 many))) (.val (.tup ts)) o (.val (.tup cs)) s k i w r g) ?_ ?_
      · rw [sn_if]
        simp [E16]
        intro _
        refine ⟨by omega, ?_⟩
        refine OK.mono (asks_all (p := p) (d := d) C (by simp; omega) (add1 _ (gc h10) (gd_of rfl))) ?_
        rintro r1 h9 ⟨rfl, rfl⟩
        simp [truth]
      rintro e h11 ⟨rfl, rfl⟩
      refine sn_step (fun e h' => h' = h11 ∧ e = E16 v p (.val (.int (j : Int))) (.val (.int (many : Int))) (.val (.tup (rngV 0 many))) (.val (.tup ts)) o (.val (.tup cs)) s k i w r g) ?_ ?_
      · rw [sn_if]
        simp [E16]
        refine ⟨by omega, ?_⟩
        refine OK.mono (asks_all (p := p) (d := d) C (by simp; omega) (add1 _ (gc h11) (gd_of rfl))) ?_
        rintro r1 h9 ⟨rfl, rfl⟩
        simp [truth]
      rintro e h12 ⟨rfl, rfl⟩
      rw [sn_for]
      simp [E16]
      refine ⟨by omega, ?_⟩
      let B (g : Sl) : ME := E16 v p (.val (.int (j : Int))) (.val (.int (many : Int))) (.val (.tup (rngV 0 many))) (.val (.tup ts)) o (.val (.tup cs)) s k i w r g
      let hh : MH := h12 ++ [Cell.lst cs, Cell.lst [Val.tup cs, Val.tup []]]
      have u13 : Up p d h12 hh := by
        have := ((Up.refl hp10).app (Cell.lst cs)).app (Cell.lst [Val.tup cs, Val.tup []])
        simpa [hh] using this
      obtain ⟨l1, l2⟩ := hp10.lt
      have ad : ∀ u, Gd p d hh 7 u → OK (F__law_asked [.tup ts, u] hh) fun r h' => r = .bl true ∧ h' = hh := fun u g => asked_ok (n := 1) C.tn g
      refine fold_inv (fun i e h' => h' = hh ∧ ∃ g, e = B g) ⟨rfl, _, rfl⟩ ?_ ?_
      · rintro i' u env h13 hu ⟨rfl, g', rfl⟩
        refine ⟨B (.val u), rfl, ?_⟩
        have hu := List.mem_of_getElem? hu
        have gu : Gd p d hh 7 u := by
          simp only [List.mem_cons, List.not_mem_nil, or_false] at hu
          rcases hu with rfl | rfl | rfl | rfl | rfl | rfl | rfl | rfl
          · exact gd_of rfl
          · exact gd_ref _ (by omega) (by omega) (by simp [hh]) (by omega) fun c hc => gd_up (gc hh c hc)
          · exact gd_of rfl
          · exact gd_of rfl
          · exact gd_of rfl
          · exact gd_tup _ (by simp) fun c hc => by
              simp at hc
              subst hc
              exact gd_tup _ (by omega) (gc hh)
          · exact gd_up (gd_tup 5 (by simp; omega) (add1 _ (gc hh) (gd_of rfl)))
          · refine gd_ref _ (us := [.tup cs, .tup []]) (by omega) (by omega) (by simp [hh]) (by simp) fun c hc => ?_
            simp at hc
            rcases hc with rfl | rfl
            · exact gd_tup _ (by omega) (gc hh)
            · exact gd_of rfl
        rw [sn_if]
        simp [B, E16]
        refine OK.mono (ad u gu) ?_
        rintro r1 h14 ⟨rfl, rfl⟩
        simp [truth]
      · rintro env h13 ⟨rfl, g', rfl⟩
        exact ⟨u13.pot, ⟨_, _, _, _, _, _, _, _, _, _, _, _, rfl⟩, fun _ => ⟨many, ts, cs, ns, _, _, _, _, _, _, _, _, _, C, rfl⟩⟩
    · rintro env h3 q
      rw [rng_len] at q
      exact ⟨q.pan, q.ex, fun _ => q.code (by omega)⟩
  rintro e h3 ⟨hp3, _, q⟩
  obtain ⟨many, ts, cs, ns, a, c, o, s, k, i, w, r, g, C, rfl⟩ := q (by omega)
  have gc := C.gc (p := p) (d := d)
  have c9 := C.c9
  have c0 := C.c0
  have m8 := C.m8
  refine sn_step (fun e h' => PanAt p d h' ∧ e = E16 v p a (.val (.int (many : Int))) c (.val (.tup ts)) o (.val (.tup cs)) s k i w r g) ?_ ?_
  · rw [sn_if]
    simp [E16]
    refine OK.mono (draw_up (place := 21) (k := 13) hp3 (by omega) (by omega)) ?_
    rintro v' h4 ⟨r', rfl, hr, u4⟩
    simp
    intro _
    exact u4.pot
  rintro e h4 ⟨hp4, rfl⟩
  obtain ⟨gr, hgr⟩ : ∃ gr, gr = ((List.replicate 1000 cs).flatten).take 1000 := ⟨_, rfl⟩
  have gl : gr.length = 1000 := by
    rw [hgr, List.length_take, List.length_flatten]
    simp
    omega
  have gm : ∀ u ∈ gr, u ∈ cs := fun u hu => by
    rw [hgr] at hu
    obtain ⟨l, hl, hm⟩ := List.mem_flatten.mp (List.mem_of_mem_take hu)
    rw [(List.mem_replicate.mp hl).2] at hm
    exact hm
  have gg : ∀ h, ∀ u ∈ gr, Gd p d h 5 u := fun h u hu => gc h u (gm u hu)
  refine sn_step (fun e h' => h' = h4 ∧ e = [.val v, .val (.ref p), .val (.tup nm8), a, .val (.int (many : Int)), c, .val (.tup ts), o, .val (.tup cs), s, k, i, w, r, g, .val (.tup gr)]) ?_ ?_
  · simp [E16]
    rw [mul_tup ⟨List.length_pos_iff.mp c0, by omega, by omega, by omega⟩]
    generalize hbig : (List.replicate (1000 : Int).toNat cs).flatten = big
    have hgr : gr = big.take 1000 := by rw [hgr, ← hbig]; rfl
    simp
    rw [show (1000 : Int) = ((1000 : Nat) : Int) from rfl, cut_take1]
    exact hgr.symm
  rintro e h5 ⟨rfl, rfl⟩
  simp
  refine OK.mono (asks_all C (by omega) (gg h5)) ?_
  rintro r1 h6 ⟨rfl, rfl⟩
  simp only [truth, trQ_some]
  simp
  have l1 := cut_le cs none (some 1)
  have l2 := cut_le gr none (some (-1))
  refine ⟨by omega, ?_⟩
  refine OK.mono (asks_all (p := p) (d := d) C (by simp; omega) fun u hu => ?_) ?_
  · rcases List.mem_append.mp hu with hu | hu
    · exact gg h6 u hu
    · exact gc h6 u (cut_sub u hu)
  rintro r1 h7 ⟨rfl, rfl⟩
  simp only [truth, trQ_some]
  simp
  have e9 : gr[999]? = some gr[999] := List.getElem?_eq_getElem (by omega)
  rw [atI_m1, gl, e9]
  simp
  obtain ⟨s2, st2, as2, la2, L2⟩ := (C.ln gr[999] (gm _ (List.getElem_mem _))).split m8
  refine OK.mono (draw_up (place := 22) (k := 4) hp4 (by omega) (by omega)) ?_
  rintro v' h8 ⟨r', rfl, hr, u8⟩
  refine OK.mono (bent_ln u8.pot m8 C.m0 (by omega) L2) ?_
  rintro b2 h9 ⟨u9, b9⟩
  refine ⟨by omega, ?_⟩
  refine OK.mono (asks_all C (by simp; omega) (add1 _ (fun u hu => gg h9 u (cut_sub u hu)) b9.g)) ?_
  rintro r1 h10 ⟨rfl, rfl⟩
  rfl
theorem law_F : ∀ is : List Int, is.length ≤ 63 → (∃ h', F_law [.ref 0] [.frz (is.map .int)] = .ok (.bl true) h') ∧ ∃ h', F_law [.kls is] [] = .ok (.bl true) h' := fun is hl => by
  constructor
  · obtain ⟨a, h', e, rfl⟩ := (law_ok (is := is) (v := .ref 0) (h := [.frz (is.map .int)]) (.inr ⟨0, rfl, rfl⟩)).get
    exact ⟨h', e⟩
  · obtain ⟨a, h', e, rfl⟩ := (law_ok (is := is) (v := .kls is) (h := []) (.inl rfl)).get
    exact ⟨h', e⟩
end HT

set_option maxHeartbeats 0
open PySem PySem.W PySem.Calls PyProof.Rows
theorem PySem.Challenge.cw_byendsalone_k33_check_code_holds : PySem.Challenge.rw_byendsalone_k33_check_code.Holds := by
  w_on; o_law
  refine HandSHeadRun.head_any (r := OpenLaw.row PySem.Challenge.rw_byendsalone_k33_check_code) (q := view (OpenLaw.row PySem.Challenge.rw_byendsalone_k33_check_code).prog [30]) (H := HT.hk) (ob := HT.ob) (M := 4000) (loose := HT.names) (d := HandSHeadRun.topDef (OpenLaw.row PySem.Challenge.rw_byendsalone_k33_check_code).prog 30) (kwd := []) HT.ob_eq
    (by kernel_rfl) (fun s => by kernel_rfl) HT.run (by kernel_rfl) (by kernel_rfl) (by kernel_rfl) (by rfl) (by first | assumption | decide +kernel) (by decide +kernel) ⟨rfl, rfl, rfl, rfl, rfl, by decide +kernel⟩ ?hw ?hc
  case hw => w_witness2
  case hc =>
    refine Mi.walk_ofW (l := PySem.Challenge.rw_byendsalone_k33_check_code) (n := 63) (k := 10) (x := "script") (G := HT.F_law) rfl (by decide) (by kernel_rfl) ⟨rfl, by decide, by decide⟩ ?F HT.law_F
    intro w mg fa h Y G hmg0
    obtain ⟨K, KX, c, m⟩ := Y
    have hmg : mg ("law" : PySem.Str) = some (.ref fa) := by
      have e : (HandSHeadRun.topDef (OpenLaw.row PySem.Challenge.rw_byendsalone_k33_check_code).prog 30).name = ("law" : PySem.Str) := by kernel_rfl
      rw [← e]
      exact hmg0
    obtain ⟨fd, hb, hF⟩ := HT.facts (P := (PySem.Challenge.rw_byendsalone_k33_check_code).prog) (w := w) KX G hmg c m (by decide +kernel) (by decide +kernel)
    exact ⟨K, fd, KX, hb, hF⟩


