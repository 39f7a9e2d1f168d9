import PyProof.Rows.All
import Wide.All
import OpenK.AllK
import Wide.FinOn
import HandS.ForMost
import HandS.Exc
import HandS.TryOnly
import HandS.ExcOwn
import HandS.WordsExc
import HandS.IsInst
import HandS.Style
import HandS.TupMul
import HandS.TupAny
import HandS.DictComp
import HandS.Wide
import HandS.ExcCtx
import HandS.HotCalls
import HandS.ExcIs
import KE.KeyNested
import HandS.More
import HandS.Set
import HandS.SetFor
import HandS.Strs
import PyProof.Rows.SortShellAny
import HandS.TupLen
import HandS.Conv
import HandS.SortInts
import HandS.SortKw
import HandS.Flow
import KE.DatumOrd
import KE.SortData
import KE.KUnpack
import PySem.Challenge.RW_somenumber_k09_far_numbers
set_option Elab.async false
set_option linter.all false
set_option maxRecDepth 100000
set_option maxHeartbeats 2000000
namespace Pf
open PySem L2

/-! ## data -/
inductive T where
  | non | bl (b : Bool) | int (i : Int) | str (s : Str) | tup (xs : List T)
inductive D where
  | t (x : T) | lst (xs : List T) | dct (kvs : List (Str × Int)) | scr (ns : List Int) | sn (w : World) (ks : List T)
inductive R (α : Type) where
  | ok (a : α) | raise (c : Nat) | stuck
def R.bind {α β : Type} : R α → (α → R β) → R β
  | .ok a, f => f a
  | .raise c, _ => .raise c
  | .stuck, _ => .stuck
instance : Monad R where
  pure := R.ok
  bind := R.bind
@[simp] theorem R.ok_bind {α β : Type} (a : α) (f : α → R β) : (R.ok a >>= f) = f a := rfl
@[simp] theorem R.raise_bind {α β : Type} (c : Nat) (f : α → R β) : ((R.raise c : R α) >>= f) = R.raise c := rfl
@[simp] theorem R.stuck_bind {α β : Type} (f : α → R β) : ((R.stuck : R α) >>= f) = R.stuck := rfl
theorem R.pure_bind {α β : Type} (a : α) (f : α → R β) : (R.ok a >>= f) = f a := rfl
theorem R.bind_ok {α β : Type} (a : α) (f : α → R β) : R.bind (.ok a) f = f a := rfl


/-! ### keys of a dict that are tuples, nested -/
mutual
def keyK : T → NestedKey
  | .non => .none
  | .bl _ => .none
  | .int i => .num i
  | .str s => .text s
  | .tup xs => .tup (keyKs xs)
def keyKs : List T → List NestedKey
  | [] => []
  | x :: xs => keyK x :: keyKs xs
end
mutual
def keyN : Nat → T → Bool
  | _, .non => false
  | _, .bl _ => false
  | _, .int _ => true
  | _, .str _ => true
  | 0, .tup _ => false
  | n + 1, .tup xs => keyNs n xs
def keyNs : Nat → List T → Bool
  | _, [] => true
  | n, x :: xs => keyN n x && keyNs n xs
end
def keyT : T → Bool
  | .tup xs => keyN 8 (.tup xs)
  | _ => false
mutual
theorem keyN_depth : ∀ (n : Nat) (x : T), keyN n x = true → (keyK x).depth ≤ n
  | _, .non, h => by simp [keyN] at h
  | _, .bl _, h => by simp [keyN] at h
  | n, .int _, h => by simp [keyK, NestedKey.depth]
  | n, .str _, h => by simp [keyK, NestedKey.depth]
  | 0, .tup _, h => by simp [keyN] at h
  | n + 1, .tup xs, h => by
    simp only [keyN] at h
    have := keyNs_depth n xs h
    simp only [keyK, NestedKey.depth]; omega
theorem keyNs_depth : ∀ (n : Nat) (xs : List T), keyNs n xs = true → NestedKey.depthAll (keyKs xs) ≤ n
  | n, [], h => by simp [keyKs, NestedKey.depthAll]
  | n, x :: xs, h => by
    simp only [keyNs, Bool.and_eq_true] at h
    have h1 := keyN_depth n x h.1
    have h2 := keyNs_depth n xs h.2
    simp only [keyKs, NestedKey.depthAll]; omega
end
mutual
theorem keyK_inj : ∀ (n m : Nat) (x y : T), keyN n x = true → keyN m y = true → keyK x = keyK y → x = y
  | _, _, .non, _, h, _, _ => by simp [keyN] at h
  | _, _, .bl _, _, h, _, _ => by simp [keyN] at h
  | _, _, .int i, y, _, h2, e => by
    cases y with
    | int j => simp only [keyK, NestedKey.num.injEq] at e; rw [e]
    | non => simp [keyN] at h2
    | bl b => simp [keyN] at h2
    | str s => simp [keyK] at e
    | tup ys => simp [keyK] at e
  | _, _, .str i, y, _, h2, e => by
    cases y with
    | str j => simp only [keyK, NestedKey.text.injEq] at e; rw [e]
    | non => simp [keyN] at h2
    | bl b => simp [keyN] at h2
    | int s => simp [keyK] at e
    | tup ys => simp [keyK] at e
  | 0, _, .tup _, _, h, _, _ => by simp [keyN] at h
  | n + 1, 0, .tup xs, y, h1, h2, e => by
    cases y with
    | tup ys => simp [keyN] at h2
    | non => simp [keyN] at h2
    | bl b => simp [keyN] at h2
    | int j => simp [keyK] at e
    | str j => simp [keyK] at e
  | n + 1, m + 1, .tup xs, y, h1, h2, e => by
    cases y with
    | tup ys =>
      simp only [keyN] at h1 h2
      simp only [keyK, NestedKey.tup.injEq] at e
      rw [keyKs_inj n m xs ys h1 h2 e]
    | non => simp [keyN] at h2
    | bl b => simp [keyN] at h2
    | int j => simp [keyK] at e
    | str j => simp [keyK] at e
theorem keyKs_inj : ∀ (n m : Nat) (xs ys : List T), keyNs n xs = true → keyNs m ys = true → keyKs xs = keyKs ys → xs = ys
  | _, _, [], ys, _, _, e => by
    cases ys with
    | nil => rfl
    | cons y r => simp [keyKs] at e
  | n, m, x :: xs, ys, h1, h2, e => by
    cases ys with
    | nil => simp [keyKs] at e
    | cons y r =>
      simp only [keyNs, Bool.and_eq_true] at h1 h2
      simp only [keyKs, List.cons.injEq] at e
      rw [keyK_inj n m x y h1.1 h2.1 e.1, keyKs_inj n m xs r h1.2 h2.2 e.2]
end
theorem keyT_tup {x : T} (h : keyT x = true) : ∃ xs, x = .tup xs ∧ keyN 8 x = true := by
  cases x with
  | tup xs => exact ⟨xs, rfl, h⟩
  | _ => simp [keyT] at h
theorem keyT_inj {x y : T} (h1 : keyT x = true) (h2 : keyT y = true) (e : keyK x = keyK y) : x = y := by
  obtain ⟨_, _, k1⟩ := keyT_tup h1
  obtain ⟨_, _, k2⟩ := keyT_tup h2
  exact keyK_inj 8 8 x y k1 k2 e
/-- the dict of keys at a, each with True -/
def SeenO (w : World) (a : Addr) (xs : List (NestedKey × Addr)) : HO := .ext fun h => (a == sysModules) = false ∧ ∃ o es ep, h.get? a = some o ∧ o.ExactDict ∧ o.data = .dict es ep ∧ es.toList = xs.map fun q => (⟨NestedKey.hash w q.1, .ref q.2, .bool true⟩ : DictEntry)
def dK (kvs : List (Str × Int)) : List (Key × V) := kvs.map fun p => (Sum.inr p.1, V.int p.2)

/-! ## how values stand for data -/
section
variable (K : PySem.W.Frag) (H : Hp)
mutual
def RT : T → V → Prop
  | .non, v => v = .non
  | .bl b, v => v = .bl b
  | .int i, v => v = .int i
  | .str s, v => v = .str s
  | .tup ds, v => ∃ a xs, v = .ref a ∧ SqT K H a xs ∧ RTs ds xs
def RTs : List T → List V → Prop
  | [], xs => xs = []
  | d :: ds, xs => ∃ v vs, xs = v :: vs ∧ RT d v ∧ RTs ds vs
end
end
section
variable {K : PySem.W.Frag} {H H' F G : Hp}
mutual
theorem RT.mono (h : ∀ a xs, SqT K H a xs → SqT K H' a xs) : ∀ (d : T) (v : V), RT K H d v → RT K H' d v
  | .non, v, r => by unfold RT at r ⊢; exact r
  | .bl b, v, r => by unfold RT at r ⊢; exact r
  | .int i, v, r => by unfold RT at r ⊢; exact r
  | .str s, v, r => by unfold RT at r ⊢; exact r
  | .tup ds, v, r => by
    unfold RT at r ⊢
    obtain ⟨a, xs, e, q, rs⟩ := r
    exact ⟨a, xs, e, h a xs q, RTs.mono h ds xs rs⟩
theorem RTs.mono (h : ∀ a xs, SqT K H a xs → SqT K H' a xs) : ∀ (ds : List T) (vs : List V), RTs K H ds vs → RTs K H' ds vs
  | [], vs, r => by unfold RTs at r ⊢; exact r
  | d :: ds, vs, r => by
    unfold RTs at r ⊢
    obtain ⟨v, ws, e, q, rs⟩ := r
    exact ⟨v, ws, e, RT.mono h d v q, RTs.mono h ds ws rs⟩
end
theorem Same.sqT (e : Same H H') {a : Addr} {xs : List V} (h : SqT K H a xs) : SqT K H' a xs := by
  rcases h with (h | ⟨o, h⟩) | h
  · exact .inl (.inl (e _ _ h))
  · exact .inl (.inr ⟨o, e _ _ h⟩)
  · exact .inr h
theorem RT.same (e : Same H H') {d : T} {v : V} (r : RT K H d v) : RT K H' d v := RT.mono (fun _ _ q => Same.sqT e q) d v r
theorem RTs.same (e : Same H H') {d : List T} {v : List V} (r : RTs K H d v) : RTs K H' d v := RTs.mono (fun _ _ q => Same.sqT e q) d v r
/-- what may be written: not a tuple -/
def NoTup : HO → Prop
  | .lst _ => True
  | .dK _ => True
  | .ext _ => True
  | _ => False
theorem sqT_upd {a b : Addr} {o o' : HO} {xs : List V} (ha : H a = some o) (n : NoTup o) (h : SqT K H b xs) : SqT K (upd H a o') b xs := by
  rcases h with (h | ⟨ob, h⟩) | h
  · refine .inl (.inl ?_)
    rw [upd_ne (fun e => ?_)]; exact h
    subst e; rw [ha] at h; cases h; exact n
  · refine .inl (.inr ⟨ob, ?_⟩)
    rw [upd_ne (fun e => ?_)]; exact h
    subst e; rw [ha] at h; cases h; exact n
  · exact .inr h
theorem RT.upd {a : Addr} {o o' : HO} (ha : H a = some o) (n : NoTup o) {d : T} {v : V} (r : RT K H d v) : RT K (upd H a o') d v := RT.mono (fun _ _ q => sqT_upd ha n q) d v r
theorem RTs.upd {a : Addr} {o o' : HO} (ha : H a = some o) (n : NoTup o) {d : List T} {v : List V} (r : RTs K H d v) : RTs K (upd H a o') d v := RTs.mono (fun _ _ q => sqT_upd ha n q) d v r
theorem same_new {p : Addr} (h : H p = none) (o : HO) : Same H (upd H p o) := fun b u q => by rw [upd_ne (ne_of_none q h)]; exact q
theorem RTs.length : ∀ {ds : List T} {vs : List V}, RTs K H ds vs → vs.length = ds.length
  | [], vs, r => by unfold RTs at r; subst r; rfl
  | d :: ds, vs, r => by
    unfold RTs at r
    obtain ⟨v, ws, rfl, _, rs⟩ := r
    simp [RTs.length rs]
theorem RTs.append : ∀ {ds es : List T} {vs ws : List V}, RTs K H ds vs → RTs K H es ws → RTs K H (ds ++ es) (vs ++ ws)
  | [], es, vs, ws, r, q => by unfold RTs at r; subst r; exact q
  | d :: ds, es, vs, ws, r, q => by
    unfold RTs at r
    obtain ⟨v, us, rfl, r1, rs⟩ := r
    show RTs K H (d :: (ds ++ es)) (v :: (us ++ ws))
    unfold RTs
    exact ⟨v, _, rfl, r1, RTs.append rs q⟩
theorem RTs.nil : RTs K H [] [] := by unfold RTs; rfl
theorem RTs.cons {d : T} {ds : List T} {v : V} {vs : List V} (r : RT K H d v) (rs : RTs K H ds vs) : RTs K H (d :: ds) (v :: vs) := by
  unfold RTs; exact ⟨v, vs, rfl, r, rs⟩
theorem RTs.uncons {d : T} {ds : List T} {vs : List V} (r : RTs K H (d :: ds) vs) : ∃ v ws, vs = v :: ws ∧ RT K H d v ∧ RTs K H ds ws := by
  unfold RTs at r; exact r
theorem RTs.unnil {vs : List V} (r : RTs K H [] vs) : vs = [] := by unfold RTs at r; exact r
theorem RTs.get : ∀ {ds : List T} {vs : List V} {i : Nat} {d : T}, RTs K H ds vs → ds[i]? = some d → ∃ v, vs[i]? = some v ∧ RT K H d v
  | [], _, i, d, _, e => by simp at e
  | d' :: ds, vs, 0, d, r, e => by
    obtain ⟨v, ws, rfl, r1, _⟩ := r.uncons
    simp at e; subst e
    exact ⟨v, rfl, r1⟩
  | d' :: ds, vs, i + 1, d, r, e => by
    obtain ⟨v, ws, rfl, _, rs⟩ := r.uncons
    obtain ⟨u, h1, h2⟩ := RTs.get (i := i) rs (by simpa using e)
    exact ⟨u, by simpa using h1, h2⟩
theorem RTs.getV : ∀ {ds : List T} {vs : List V} {i : Nat} {v : V}, RTs K H ds vs → vs[i]? = some v → ∃ d, ds[i]? = some d ∧ RT K H d v
  | [], vs, i, d, r, e => by rw [r.unnil] at e; simp at e
  | d' :: ds, vs, 0, v, r, e => by
    obtain ⟨w, ws, rfl, r1, _⟩ := r.uncons
    simp at e; subst e
    exact ⟨d', rfl, r1⟩
  | d' :: ds, vs, i + 1, v, r, e => by
    obtain ⟨w, ws, rfl, _, rs⟩ := r.uncons
    obtain ⟨u, h1, h2⟩ := RTs.getV (i := i) rs (by simpa using e)
    exact ⟨u, by simpa using h1, h2⟩
theorem RTs.drop : ∀ {ds : List T} {vs : List V} (n : Nat), RTs K H ds vs → RTs K H (ds.drop n) (vs.drop n)
  | ds, vs, 0, r => by simpa using r
  | [], vs, n + 1, r => by rw [r.unnil]; simpa using RTs.nil
  | d :: ds, vs, n + 1, r => by
    obtain ⟨v, ws, rfl, _, rs⟩ := r.uncons
    simpa using RTs.drop n rs
theorem RTs.take : ∀ {ds : List T} {vs : List V} (n : Nat), RTs K H ds vs → RTs K H (ds.take n) (vs.take n)
  | ds, vs, 0, r => by simpa using RTs.nil
  | [], vs, n + 1, r => by rw [r.unnil]; simpa using RTs.nil
  | d :: ds, vs, n + 1, r => by
    obtain ⟨v, ws, rfl, r1, rs⟩ := r.uncons
    simpa using RTs.cons r1 (RTs.take n rs)
theorem RTs.ints : ∀ {ns : List Int} {vs : List V}, RTs K H (ns.map T.int) vs → vs = ns.map V.int
  | [], vs, r => r.unnil
  | n :: ns, vs, r => by
    obtain ⟨v, ws, rfl, r1, rs⟩ := RTs.uncons (d := T.int n) (ds := ns.map T.int) r
    unfold RT at r1; subst r1
    rw [RTs.ints rs]; rfl
theorem RTs.strs : ∀ {ns : List Str} {vs : List V}, RTs K H (ns.map T.str) vs → vs = ns.map V.str
  | [], vs, r => r.unnil
  | n :: ns, vs, r => by
    obtain ⟨v, ws, rfl, r1, rs⟩ := RTs.uncons (d := T.str n) (ds := ns.map T.str) r
    unfold RT at r1; subst r1
    rw [RTs.strs rs]; rfl
theorem RTs.ofInts : ∀ (ns : List Int), RTs K H (ns.map T.int) (ns.map V.int)
  | [] => RTs.nil
  | n :: ns => RTs.cons (by unfold RT; rfl) (RTs.ofInts ns)
theorem RTs.ofStrs : ∀ (ns : List Str), RTs K H (ns.map T.str) (ns.map V.str)
  | [] => RTs.nil
  | n :: ns => RTs.cons (by unfold RT; rfl) (RTs.ofStrs ns)

structure SeenR (K : PySem.W.Frag) (H : Hp) (ts : List T) (xs : List (NestedKey × Addr)) : Prop where
  keys : xs.map (·.1) = ts.map keyK
  vals : RTs K H ts (xs.map fun q => V.ref q.2)
  ok : ∀ t ∈ ts, keyT t = true
  nd : ts.Nodup
  len : ts.length ≤ 16777216
theorem SeenR.mono {K : PySem.W.Frag} {H H' : Hp} {ts : List T} {xs : List (NestedKey × Addr)} (r : SeenR K H ts xs) (h : ∀ a xs, SqT K H a xs → SqT K H' a xs) : SeenR K H' ts xs :=
  ⟨r.keys, RTs.mono h _ _ r.vals, r.ok, r.nd, r.len⟩
/-- a value whose lists stand in F -/
def RP (K : PySem.W.Frag) (F H : Hp) : D → V → Prop
  | .t x, v => RT K H x v
  | .lst ds, v => ∃ a xs, v = .ref a ∧ F a = some (.lst xs) ∧ RTs K H ds xs
  | .dct kvs, v => ∃ a, v = .ref a ∧ F a = some (.dK (dK kvs))
  | .scr ns, v => ∃ a, v = .ref a ∧ SqL K F a (ns.map V.int)
  | .sn w ts, v => ∃ a xs, v = .ref a ∧ F a = some (SeenO w a xs) ∧ SeenR K H ts xs
abbrev RD (K : PySem.W.Frag) (H : Hp) : D → V → Prop := RP K H H
/-- a value whose list is new as G sees it -/
def RN (K : PySem.W.Frag) (G H : Hp) : D → V → Prop
  | .t x, v => RT K H x v
  | .lst ds, v => ∃ a xs, v = .ref a ∧ G a = none ∧ H a = some (.lst xs) ∧ RTs K H ds xs
  | .dct kvs, v => ∃ a, v = .ref a ∧ G a = none ∧ H a = some (.dK (dK kvs))
  | .sn w ts, v => ∃ a xs, v = .ref a ∧ G a = none ∧ H a = some (SeenO w a xs) ∧ SeenR K H ts xs
  | .scr _, _ => False
theorem RP.same {d : D} {v : V} (e : Same H H') (r : RP K F H d v) : RP K F H' d v := by
  cases d with
  | t x => exact RT.same e r
  | lst ds => obtain ⟨a, xs, h1, h2, h3⟩ := r; exact ⟨a, xs, h1, h2, h3.same e⟩
  | dct kvs => exact r
  | scr ns => exact r
  | sn w ts => obtain ⟨a, xs, h1, h2, h3⟩ := r; exact ⟨a, xs, h1, h2, h3.mono fun _ _ q => Same.sqT e q⟩
theorem RP.grow {d : D} {v : V} (e : Same F G) (r : RP K F H d v) : RP K G H d v := by
  cases d with
  | t x => exact r
  | lst ds => obtain ⟨a, xs, h1, h2, h3⟩ := r; exact ⟨a, xs, h1, e _ _ h2, h3⟩
  | dct kvs => obtain ⟨a, h1, h2⟩ := r; exact ⟨a, h1, e _ _ h2⟩
  | scr ns => obtain ⟨a, h1, h2⟩ := r; exact ⟨a, h1, e.seq h2⟩
  | sn w ts => obtain ⟨a, xs, h1, h2, h3⟩ := r; exact ⟨a, xs, h1, e _ _ h2, h3⟩
theorem RD.same {d : D} {v : V} (e : Same H H') (r : RD K H d v) : RD K H' d v := (RP.same e r).grow e
theorem RN.rd {d : D} {v : V} (r : RN K G H d v) : RD K H d v := by
  cases d with
  | t x => exact r
  | lst ds => obtain ⟨a, xs, h1, _, h2, h3⟩ := r; exact ⟨a, xs, h1, h2, h3⟩
  | dct kvs => obtain ⟨a, h1, _, h2⟩ := r; exact ⟨a, h1, h2⟩
  | scr ns => exact r.elim
  | sn w ts => obtain ⟨a, xs, h1, _, h2, h3⟩ := r; exact ⟨a, xs, h1, h2, h3⟩
theorem RN.less {d : D} {v : V} (e : Same F G) (r : RN K G H d v) : RN K F H d v := by
  cases d with
  | t x => exact r
  | lst ds => obtain ⟨a, xs, h1, h0, h2, h3⟩ := r; exact ⟨a, xs, h1, e.free h0, h2, h3⟩
  | dct kvs => obtain ⟨a, h1, h0, h2⟩ := r; exact ⟨a, h1, e.free h0, h2⟩
  | scr ns => exact r.elim
  | sn w ts => obtain ⟨a, xs, h1, h0, h2, h3⟩ := r; exact ⟨a, xs, h1, e.free h0, h2, h3⟩
theorem RN.same {d : D} {v : V} (e : Same H H') (r : RN K G H d v) : RN K G H' d v := by
  cases d with
  | t x => exact RT.same e r
  | lst ds => obtain ⟨a, xs, h1, h0, h2, h3⟩ := r; exact ⟨a, xs, h1, h0, e _ _ h2, h3.same e⟩
  | dct kvs => obtain ⟨a, h1, h0, h2⟩ := r; exact ⟨a, h1, h0, e _ _ h2⟩
  | scr ns => exact r.elim
  | sn w ts => obtain ⟨a, xs, h1, h0, h2, h3⟩ := r; exact ⟨a, xs, h1, h0, e _ _ h2, h3.mono fun _ _ q => Same.sqT e q⟩
end

/-! ## the frame -/
inductive Sl where
  | un | d (x : D) (own : Bool) | raw (v : V)
abbrev Ev := List Sl
structure ER (K : PySem.W.Frag) (F : Hp) (σ : St) (H : Hp) (ρ : Ev) : Prop where
  same : Same F H
  slot : ∀ (i : Nat) x o, ρ[i]? = some (.d x o) → ∃ v, σ[i]? = some (some v) ∧ (o = true → RN K F H x v) ∧ (o = false → RP K F H x v)
  apart : ∀ (i j : Nat) x y a, ρ[i]? = some (.d x true) → ρ[j]? = some (.d y true) → (∀ z, x ≠ .t z) → (∀ z, y ≠ .t z) → σ[i]? = some (some (.ref a)) → σ[j]? = some (some (.ref a)) → i = j
  len : σ.length = ρ.length
  raw : ∀ (i : Nat) v, ρ[i]? = some (.raw v) → σ[i]? = some (some v)
theorem raw_same {ρ : Ev} {σ : St} {i : Nat} {s : Sl} (hr : ∀ (j : Nat) v, ρ[j]? = some (.raw v) → σ[j]? = some (some v)) (hs : ∀ v, s ≠ .raw v) (j : Nat) (v : V) (h : (ρ.set i s)[j]? = some (.raw v)) : σ[j]? = some (some v) := by
  by_cases e : i = j
  · subst e
    by_cases hi : i < ρ.length
    · rw [List.getElem?_set_self hi] at h; exact absurd (Option.some.inj h) (hs v)
    · rw [List.getElem?_eq_none (by simpa using hi)] at h; cases h
  · rw [List.getElem?_set_ne e] at h; exact hr j v h
theorem raw_both {ρ : Ev} {σ : St} {i : Nat} {s : Sl} {o : Option V} (hr : ∀ (j : Nat) v, ρ[j]? = some (.raw v) → σ[j]? = some (some v)) (hs : ∀ v, s ≠ .raw v) (j : Nat) (v : V) (h : (ρ.set i s)[j]? = some (.raw v)) : (σ.set i o)[j]? = some (some v) := by
  by_cases e : i = j
  · subst e
    by_cases hi : i < ρ.length
    · rw [List.getElem?_set_self hi] at h; exact absurd (Option.some.inj h) (hs v)
    · rw [List.getElem?_eq_none (by simpa using hi)] at h; cases h
  · rw [List.getElem?_set_ne e] at h ⊢; exact hr j v h
section
variable {K : PySem.W.Frag} {F H H' : Hp} {σ : St} {ρ : Ev}
theorem ER.mono (er : ER K F σ H ρ) (e : Same H H') : ER K F σ H' ρ :=
  ⟨er.same.trans e, fun i x o h => by
    obtain ⟨v, h1, h2, h3⟩ := er.slot i x o h
    exact ⟨v, h1, fun q => (h2 q).same e, fun q => (h3 q).same e⟩, er.apart, er.len, er.raw⟩
theorem ER.rd (er : ER K F σ H ρ) {i : Nat} {x : D} {o : Bool} (h : ρ[i]? = some (.d x o)) : ∃ v, σ[i]? = some (some v) ∧ RD K H x v := by
  obtain ⟨v, h1, h2, h3⟩ := er.slot i x o h
  cases o with
  | true => exact ⟨v, h1, (h2 rfl).rd⟩
  | false => exact ⟨v, h1, (h3 rfl).grow er.same⟩
/-- a slot is stored: a new value -/
theorem ER.store (er : ER K F σ H ρ) {i : Nat} {x : D} {v : V} (e : Same H H') (r : RN K H H' x v) : ER K F (σ.set i (some v)) H' (ρ.set i (.d x true)) := by
  have er' := er.mono e
  refine ⟨er'.same, fun j y o h => ?_, fun j k y z a h1 h2 n1 n2 g1 g2 => ?_, by simp [er.len], raw_both er.raw (fun v e => by cases e)⟩
  · by_cases hj : i = j
    · subst hj
      by_cases hi : i < ρ.length
      · rw [List.getElem?_set_self hi] at h
        cases h
        exact ⟨v, List.getElem?_set_self (by rw [er.len]; exact hi), fun _ => r.less er.same, fun q => by cases q⟩
      · rw [List.getElem?_eq_none (by simpa using hi)] at h; cases h
    · rw [List.getElem?_set_ne hj] at h ⊢
      exact er'.slot j y o h
  · have key : ∀ (k : Nat) z, i ≠ k → ρ[k]? = some (.d z true) → (∀ w, z ≠ .t w) → σ[k]? = some (some (.ref a)) → (∀ w, x ≠ .t w) → v = .ref a → False := by
      intro k z hk h2 n2 g2 nx hv
      obtain ⟨u, q1, q2, _⟩ := er.slot k z true h2
      rw [g2] at q1
      have eu : u = .ref a := by injection q1 with q1; injection q1 with q1; exact q1.symm
      have hz := q2 rfl
      cases z with
      | t w => exact n2 w rfl
      | lst ds =>
        obtain ⟨b, xs, e1, _, e2, _⟩ := hz
        rw [eu] at e1; cases e1
        cases x with
        | t w => exact nx w rfl
        | lst es => obtain ⟨c, _, e3, e4, _⟩ := r; rw [hv] at e3; cases e3; rw [e4] at e2; cases e2
        | dct kvs => obtain ⟨c, e3, e4, _⟩ := r; rw [hv] at e3; cases e3; rw [e4] at e2; cases e2
        | scr ns => exact r
        | sn w ts => obtain ⟨c, _, e3, e4, _⟩ := r; rw [hv] at e3; cases e3; rw [e4] at e2; cases e2
      | dct kvs =>
        obtain ⟨b, e1, _, e2⟩ := hz
        rw [eu] at e1; cases e1
        cases x with
        | t w => exact nx w rfl
        | lst es => obtain ⟨c, _, e3, e4, _⟩ := r; rw [hv] at e3; cases e3; rw [e4] at e2; cases e2
        | dct kvs => obtain ⟨c, e3, e4, _⟩ := r; rw [hv] at e3; cases e3; rw [e4] at e2; cases e2
        | scr ns => exact r
        | sn w ts => obtain ⟨c, _, e3, e4, _⟩ := r; rw [hv] at e3; cases e3; rw [e4] at e2; cases e2
      | sn w ts =>
        obtain ⟨b, xs, e1, _, e2, _⟩ := hz
        rw [eu] at e1; cases e1
        cases x with
        | t w => exact nx w rfl
        | lst es => obtain ⟨c, _, e3, e4, _⟩ := r; rw [hv] at e3; cases e3; rw [e4] at e2; cases e2
        | dct kvs => obtain ⟨c, e3, e4, _⟩ := r; rw [hv] at e3; cases e3; rw [e4] at e2; cases e2
        | scr ns => exact r
        | sn w ts => obtain ⟨c, _, e3, e4, _⟩ := r; rw [hv] at e3; cases e3; rw [e4] at e2; cases e2
      | scr ns => exact hz
    by_cases hj : i = j
    · subst hj
      by_cases hk : i = k
      · exact hk
      · exfalso
        rw [List.getElem?_set_ne hk] at h2 g2
        by_cases hi : i < ρ.length
        · rw [List.getElem?_set_self hi] at h1
          rw [List.getElem?_set_self (by rw [er.len]; exact hi)] at g1
          cases h1
          injection g1 with g1; injection g1 with g1
          exact key k z hk h2 n2 g2 n1 g1
        · rw [List.getElem?_eq_none (by simpa using hi)] at h1; cases h1
    · rw [List.getElem?_set_ne hj] at h1 g1
      by_cases hk : i = k
      · exfalso
        subst hk
        by_cases hi : i < ρ.length
        · rw [List.getElem?_set_self hi] at h2
          rw [List.getElem?_set_self (by rw [er.len]; exact hi)] at g2
          cases h2
          injection g2 with g2; injection g2 with g2
          exact key j y hj h1 n1 g1 n2 g2
        · rw [List.getElem?_eq_none (by simpa using hi)] at h2; cases h2
      · rw [List.getElem?_set_ne hk] at h2 g2
        exact er.apart j k y z a h1 h2 n1 n2 g1 g2
/-- the list of an own slot is written -/
theorem ER.wrote (er : ER K F σ H ρ) {i : Nat} {x y : D} {a : Addr} {o o' : HO} (h : ρ[i]? = some (.d x true)) (nx : ∀ z, x ≠ .t z) (ha : σ[i]? = some (some (.ref a))) (hF : F a = none) (ho : H a = some o) (n : NoTup o)
    (r : RN K F (upd H a o') y (.ref a)) : ER K F σ (upd H a o') (ρ.set i (.d y true)) := by
  have hi : i < ρ.length := (List.getElem?_eq_some_iff.mp h).1
  refine ⟨fun b u q => ?_, fun j z ow hj => ?_, fun j k z z' b h1 h2 n1 n2 g1 g2 => ?_, by simpa using er.len, raw_same er.raw (fun v e => by cases e)⟩
  · rw [upd_ne (ne_of_none q hF)]; exact er.same b u q
  · by_cases hij : i = j
    · subst hij
      rw [List.getElem?_set_self hi] at hj
      cases hj
      exact ⟨.ref a, ha, fun _ => r, fun q => by cases q⟩
    · rw [List.getElem?_set_ne hij] at hj
      obtain ⟨v, q1, q2, q3⟩ := er.slot j z ow hj
      refine ⟨v, q1, fun e => ?_, fun e => ?_⟩
      · subst e
        have r1 := q2 rfl
        cases z with
        | t w => exact RT.upd ho n r1
        | lst ds =>
          obtain ⟨b, xs, e1, e2, e3, e4⟩ := r1
          refine ⟨b, xs, e1, e2, ?_, e4.upd ho n⟩
          rw [upd_ne (fun e => ?_)]; exact e3
          subst e; subst e1
          exact hij (er.apart i j x _ b h hj nx (fun w q => by cases q) ha q1)
        | dct kvs =>
          obtain ⟨b, e1, e2, e3⟩ := r1
          refine ⟨b, e1, e2, ?_⟩
          rw [upd_ne (fun e => ?_)]; exact e3
          subst e; subst e1
          exact hij (er.apart i j x _ b h hj nx (fun w q => by cases q) ha q1)
        | scr ns => exact r1
        | sn w ts =>
          obtain ⟨b, xs, e1, e2, e3, e4⟩ := r1
          refine ⟨b, xs, e1, e2, ?_, e4.mono fun _ _ q => sqT_upd ho n q⟩
          rw [upd_ne (fun e => ?_)]; exact e3
          subst e; subst e1
          exact hij (er.apart i j x _ b h hj nx (fun w q => by cases q) ha q1)
      · subst e
        have r1 := q3 rfl
        cases z with
        | t w => exact RT.upd ho n r1
        | lst ds => obtain ⟨b, xs, e1, e2, e3⟩ := r1; exact ⟨b, xs, e1, e2, e3.upd ho n⟩
        | dct kvs => exact r1
        | scr ns => exact r1
        | sn w ts => obtain ⟨b, xs, e1, e2, e3⟩ := r1; exact ⟨b, xs, e1, e2, e3.mono fun _ _ q => sqT_upd ho n q⟩
  · have aux : ∀ (k : Nat) z', (ρ.set i (.d y true))[k]? = some (.d z' true) → (∀ w, z' ≠ .t w) → ∃ z2, ρ[k]? = some (.d z2 true) ∧ (∀ w, z2 ≠ .t w) := by
      intro k z' h2 n2
      by_cases hk : i = k
      · subst hk; exact ⟨x, h, nx⟩
      · rw [List.getElem?_set_ne hk] at h2; exact ⟨z', h2, n2⟩
    obtain ⟨z1, a1, a2⟩ := aux j z h1 n1
    obtain ⟨z2, b1, b2⟩ := aux k z' h2 n2
    exact er.apart j k z1 z2 b a1 b1 a2 b2 g1 g2
end

/-! ## what is wanted of an answer -/
section
variable (EX : XK) (C : Nat → Addr)
def Wp {α : Type} (H : Hp) (r : R α) (k : α → Prop) : Prop := match r with
  | .ok a => k a
  | .raise c => ∀ H', Same H H' → EX (.ref (C c)) none H'
  | .stuck => False
end
section
variable {EX : XK} {C : Nat → Addr} {H H' : Hp} {α β : Type}
theorem Wp.bind {r : R α} {g : α → R β} {k : β → Prop} (w : Wp EX C H (r >>= g) k) : Wp EX C H r (fun a => Wp EX C H (g a) k) := by
  cases r <;> exact w
theorem Wp.mono {r : R α} {k k' : α → Prop} (w : Wp EX C H r k) (e : Same H H') (h : ∀ a, r = .ok a → k a → k' a) : Wp EX C H' r k' := by
  cases r with
  | ok a => exact h a rfl w
  | raise c => exact fun H2 e2 => w H2 (e.trans e2)
  | stuck => exact w
theorem Wp.imp {r : R α} {k k' : α → Prop} (w : Wp EX C H r k) (h : ∀ a, r = .ok a → k a → k' a) : Wp EX C H r k' := w.mono (Same.refl H) h
end
abbrev WD (K : PySem.W.Frag) (EX : XK) (C : Nat → Addr) (H : Hp) (r : R D) (Q : VK) : Prop := Wp EX C H r fun d => ∀ v H', Same H H' → RD K H' d v → Q v H'
abbrev WN (K : PySem.W.Frag) (EX : XK) (C : Nat → Addr) (H : Hp) (r : R D) (Q : VK) : Prop := Wp EX C H r fun d => ∀ v H', Same H H' → RN K H H' d v → Q v H'
abbrev WB (EX : XK) (C : Nat → Addr) (H : Hp) (r : R Bool) (Q : Bool → Hp → Prop) : Prop := Wp EX C H r fun b => ∀ H', Same H H' → Q b H'
section
variable {K : PySem.W.Frag} {EX : XK} {C : Nat → Addr} {H H' : Hp}
theorem WD.move {r : R D} {Q : VK} (w : WD K EX C H r Q) (e : Same H H') : WD K EX C H' r Q := Wp.mono w e fun _ _ k v H2 e2 => k v H2 (e.trans e2)
theorem WN.move {r : R D} {Q : VK} (w : WN K EX C H r Q) (e : Same H H') : WN K EX C H' r Q := Wp.mono w e fun _ _ k v H2 e2 q => k v H2 (e.trans e2) (q.less e)
theorem WB.move {r : R Bool} {Q : Bool → Hp → Prop} (w : WB EX C H r Q) (e : Same H H') : WB EX C H' r Q := Wp.mono w e fun _ _ k H2 e2 => k H2 (e.trans e2)
end

/-! ## judgements -/
/-- an expression; its value may be a list that stands already -/
def SE (X : Cx) (EX : XK) (C : Nat → Addr) (e : Expr) (f : Ev → R D) : Prop :=
  ∃ te, PE X e te ∧ ∀ F σ H ρ Q, ER X.K F σ H ρ → WD X.K EX C H (f ρ) Q → te σ H Q
/-- .. its value is new -/
def SN (X : Cx) (EX : XK) (C : Nat → Addr) (e : Expr) (f : Ev → R D) : Prop :=
  ∃ te, PE X e te ∧ ∀ F σ H ρ Q, ER X.K F σ H ρ → WN X.K EX C H (f ρ) Q → te σ H Q
def ST (X : Cx) (EX : XK) (C : Nat → Addr) (e : Expr) (f : Ev → R Bool) : Prop :=
  ∃ te, PT X e te ∧ ∀ F σ H ρ Q, ER X.K F σ H ρ → WB EX C H (f ρ) Q → te σ H Q
def RDs (K : PySem.W.Frag) (H : Hp) : List D → List V → Prop
  | [], xs => xs = []
  | d :: ds, xs => ∃ v vs, xs = v :: vs ∧ RD K H d v ∧ RDs K H ds vs
theorem RDs.same {K : PySem.W.Frag} {H H' : Hp} (e : Same H H') : ∀ {ds : List D} {vs : List V}, RDs K H ds vs → RDs K H' ds vs
  | [], vs, r => r
  | d :: ds, vs, r => by
    obtain ⟨v, ws, h1, h2, h3⟩ := r
    exact ⟨v, ws, h1, RD.same e h2, RDs.same e h3⟩
theorem RDs.length {K : PySem.W.Frag} {H : Hp} : ∀ {ds : List D} {vs : List V}, RDs K H ds vs → vs.length = ds.length
  | [], vs, r => by subst r; rfl
  | d :: ds, vs, r => by
    obtain ⟨v, ws, rfl, h2, h3⟩ := r
    simp [RDs.length h3]
abbrev WA (K : PySem.W.Frag) (EX : XK) (C : Nat → Addr) (H : Hp) (r : R (List D)) (Q : List V → Hp → Prop) : Prop := Wp EX C H r fun ds => ∀ vs H', Same H H' → RDs K H' ds vs → Q vs H'
def SA (X : Cx) (EX : XK) (C : Nat → Addr) (es : List Expr) (f : Ev → R (List D)) : Prop :=
  (∃ ta, PA X es ta ∧ ∀ F σ H ρ Q, ER X.K F σ H ρ → WA X.K EX C H (f ρ) Q → ta σ H Q) ∧ ∀ ρ ds, f ρ = .ok ds → ds.length = es.length

section
variable {X : Cx} {EX : XK} {C : Nat → Addr} {e a b : Expr} {f g : Ev → R D} {pos : Pos}
theorem SN.toE (h : SN X EX C e f) : SE X EX C e f := by
  obtain ⟨te, p, q⟩ := h
  exact ⟨te, p, fun F σ H ρ Q er w => q F σ H ρ Q er (w.imp fun d _ k v H' s r => k v H' s r.rd)⟩
def asT : D → R D
  | .t x => .ok (.t x)
  | _ => .stuck
theorem SE.toN (h : SE X EX C e f) : SN X EX C e (fun ρ => f ρ >>= asT) := by
  obtain ⟨te, p, q⟩ := h
  refine ⟨te, p, fun F σ H ρ Q er w => q F σ H ρ Q er (w.bind.imp fun d _ k v H' s r => ?_)⟩
  cases d with
  | t x => exact k v H' s r
  | _ => exact k.elim
/-! ### names, constants -/
def rdE (i : Nat) (ρ : Ev) : R D := match ρ[i]? with
  | some (.d x _) => .ok x
  | _ => .stuck
def rdT (i : Nat) (ρ : Ev) : R D := match ρ[i]? with
  | some (.d (.t x) _) => .ok (.t x)
  | _ => .stuck
theorem se_var {i : Nat} {x : Str} (p : PE X (.Name x pos) (tVar i)) : SE X EX C (.Name x pos) (rdE i) := by
  refine ⟨_, p, fun F σ H ρ Q er w => ?_⟩
  unfold rdE at w
  split at w
  · rename_i d o h
    obtain ⟨v, h1, h2⟩ := er.rd h
    exact ⟨v, h1, w v H (Same.refl H) h2⟩
  · exact w.elim
theorem sn_var {i : Nat} {x : Str} (p : PE X (.Name x pos) (tVar i)) : SN X EX C (.Name x pos) (rdT i) := by
  refine ⟨_, p, fun F σ H ρ Q er w => ?_⟩
  unfold rdT at w
  split at w
  · rename_i d o h
    obtain ⟨v, h1, h2⟩ := er.rd h
    exact ⟨v, h1, w v H (Same.refl H) h2⟩
  · exact w.elim
theorem sn_int {i j} : SN X EX C (.Constant (.int i) j pos) (fun _ => .ok (.t (.int i))) := ⟨_, pe_int, fun F σ H ρ Q er w => w (.int i) H (Same.refl H) (by show RT _ _ _ _; unfold RT; rfl)⟩
theorem sn_str {i j} : SN X EX C (.Constant (.str i) j pos) (fun _ => .ok (.t (.str i))) := ⟨_, pe_str, fun F σ H ρ Q er w => w (.str i) H (Same.refl H) (by show RT _ _ _ _; unfold RT; rfl)⟩
theorem sn_bl {i j} : SN X EX C (.Constant (.bool i) j pos) (fun _ => .ok (.t (.bl i))) := ⟨_, pe_bl, fun F σ H ρ Q er w => w (.bl i) H (Same.refl H) (by show RT _ _ _ _; unfold RT; rfl)⟩
theorem sn_non {j} : SN X EX C (.Constant .none j pos) (fun _ => .ok (.t .non)) := ⟨_, pe_non, fun F σ H ρ Q er w => w .non H (Same.refl H) (by show RT _ _ _ _; unfold RT; rfl)⟩
end
end Pf

set_option Elab.async false
set_option linter.all false
set_option maxRecDepth 100000
set_option maxHeartbeats 2000000
namespace Pf
open PySem L2

/-! ## two-place operations by values -/
section
variable (X : Cx) (EX : XK) (C : Nat → Addr)
def Impl2 (op2 : D → D → R D) (r : R2) : Prop :=
  ∀ d1 d2 v1 v2 H Q, RD X.K H d1 v1 → RD X.K H d2 v2 → WN X.K EX C H (op2 d1 d2) Q → r v1 v2 H Q
def Impl1 (op1 : List D → R D) (r : List V → Hp → VK → Prop) : Prop :=
  ∀ ds vs H Q, RDs X.K H ds vs → WN X.K EX C H (op1 ds) Q → r vs H Q
end
section
variable {X : Cx} {EX : XK} {C : Nat → Addr} {a b : Expr} {f g : Ev → R D} {pos : Pos}
theorem se_two {t : TE → TE → TE} {r : R2} {op2 : D → D → R D} {e : Expr} (ht : ∀ ta tb, t ta tb = tOp r ta tb) (hp : ∀ ta tb, PE X a ta → PE X b tb → PE X e (t ta tb)) (hi : Impl2 X EX C op2 r)
    (ha : SE X EX C a f) (hb : SE X EX C b g) : SN X EX C e (fun ρ => f ρ >>= fun x => g ρ >>= fun y => op2 x y) := by
  obtain ⟨ta, pa, qa⟩ := ha
  obtain ⟨tb, pb, qb⟩ := hb
  refine ⟨_, hp ta tb pa pb, fun F σ H ρ Q er w => ?_⟩
  rw [ht]
  refine qa F σ H ρ _ er (w.bind.imp fun d1 _ k v1 H1 s1 r1 => ?_)
  refine qb F σ H1 ρ _ (er.mono s1) ((Wp.bind k).mono s1 fun d2 _ k2 v2 H2 s2 r2 => ?_)
  exact hi d1 d2 v1 v2 H2 Q (r1.same s2) r2 (WN.move k2 (s1.trans s2))
theorem sn_op {op : Operator} {r : R2} {op2 : D → D → R D} (ho : OpR X (binaryOp op) r) (hi : Impl2 X EX C op2 r) (ha : SE X EX C a f) (hb : SE X EX C b g) :
    SN X EX C (.BinOp a op b pos) (fun ρ => f ρ >>= fun x => g ρ >>= fun y => op2 x y) := se_two (fun _ _ => rfl) (fun _ _ p q => pe_op ho p q) hi ha hb
theorem sn_cmp {op : CmpOp} {r : R2} {op2 : D → D → R D} (ho : OpR X (compareOp op) r) (hi : Impl2 X EX C op2 r) (hm : behindInMarks op b = false) (ha : SE X EX C a f) (hb : SE X EX C b g) :
    SN X EX C (.Compare a [op] [b] pos) (fun ρ => f ρ >>= fun x => g ρ >>= fun y => op2 x y) := se_two (fun _ _ => rfl) (fun _ _ p q => pe_cmpR ho p q hm) hi ha hb
theorem sn_ix {r : R2} {op2 : D → D → R D} (ho : IxR X r) (hi : Impl2 X EX C op2 r) (hs : PlainIx b) (ha : SE X EX C a f) (hb : SE X EX C b g) :
    SN X EX C (.Subscript a b pos) (fun ρ => f ρ >>= fun x => g ρ >>= fun y => op2 x y) := se_two (fun _ _ => rfl) (fun _ _ p q => pe_ix ho p q hs) hi ha hb

theorem rt_int {K : PySem.W.Frag} {H : Hp} {i : Int} {v : V} (r : RD K H (.t (.int i)) v) : v = .int i := by
  have q : RT K H (.int i) v := r; unfold RT at q; exact q
theorem rt_str {K : PySem.W.Frag} {H : Hp} {i : Str} {v : V} (r : RD K H (.t (.str i)) v) : v = .str i := by
  have q : RT K H (.str i) v := r; unfold RT at q; exact q
theorem rt_bl {K : PySem.W.Frag} {H : Hp} {i : Bool} {v : V} (r : RD K H (.t (.bl i)) v) : v = .bl i := by
  have q : RT K H (.bl i) v := r; unfold RT at q; exact q
theorem rt_non {K : PySem.W.Frag} {H : Hp} {v : V} (r : RD K H (.t .non) v) : v = .non := by
  have q : RT K H .non v := r; unfold RT at q; exact q
theorem rt_tup {K : PySem.W.Frag} {H : Hp} {v : V} {ds : List T} (r : RD K H (.t (.tup ds)) v) : ∃ a xs, v = .ref a ∧ SqT K H a xs ∧ RTs K H ds xs := by
  have q : RT K H (.tup ds) v := r; unfold RT at q; exact q
theorem rn_int {K : PySem.W.Frag} {G H : Hp} {i : Int} : RN K G H (.t (.int i)) (.int i) := by show RT _ _ _ _; unfold RT; rfl
theorem rn_str {K : PySem.W.Frag} {G H : Hp} {i : Str} : RN K G H (.t (.str i)) (.str i) := by show RT _ _ _ _; unfold RT; rfl
theorem rn_bl {K : PySem.W.Frag} {G H : Hp} {i : Bool} : RN K G H (.t (.bl i)) (.bl i) := by show RT _ _ _ _; unfold RT; rfl
theorem rn_non {K : PySem.W.Frag} {G H : Hp} : RN K G H (.t .non) .non := by show RT _ _ _ _; unfold RT; rfl
theorem rn_tup {K : PySem.W.Frag} {G H : Hp} {a : Addr} {ds : List T} {xs : List V} (h : SqT K H a xs) (r : RTs K H ds xs) : RN K G H (.t (.tup ds)) (.ref a) := by
  show RT _ _ _ _; unfold RT; exact ⟨a, xs, rfl, h, r⟩
/-- a new tuple, a new list -/
theorem new_tup {K : PySem.W.Frag} {H : Hp} {p : Addr} {ds : List T} {xs : List V} (hp : H p = none) (r : RTs K H ds xs) : RN K H (upd H p (.tup xs)) (.t (.tup ds)) (.ref p) :=
  rn_tup (SqT.of upd_same) (r.same (same_new hp _))
theorem new_lst {K : PySem.W.Frag} {H : Hp} {p : Addr} {ds : List T} {xs : List V} (hp : H p = none) (r : RTs K H ds xs) : RN K H (upd H p (.lst xs)) (.lst ds) (.ref p) :=
  ⟨p, xs, rfl, hp, upd_same, r.same (same_new hp _)⟩
theorem new_dct {K : PySem.W.Frag} {H : Hp} {p : Addr} {kvs : List (Str × Int)} (hp : H p = none) : RN K H (upd H p (.dK (dK kvs))) (.dct kvs) (.ref p) := ⟨p, rfl, hp, upd_same⟩

/-! ### + -/
def addD : D → D → R D
  | .t (.int i), .t (.int j) => .ok (.t (.int (i + j)))
  | .t (.str i), .t (.str j) => if i.length + j.length ≤ 16777216 then .ok (.t (.str (i ++ j))) else .stuck
  | .t (.tup xs), .t (.tup ys) => if xs.length + ys.length ≤ 16777216 then .ok (.t (.tup (xs ++ ys))) else .stuck
  | .lst xs, .lst ys => if xs.length + ys.length ≤ 16777216 then .ok (.lst (xs ++ ys)) else .stuck
  | _, _ => .stuck
def rStrAdd : R2 := fun x y H Q => ∃ i j, x = .str i ∧ y = .str j ∧ i.length + j.length ≤ sizeLine ∧ Q (.str (i ++ j)) H
def rAddA (K : PySem.W.Frag) : R2 := fun x y H Q => rI0 (fun i j => .int (i + j)) x y H Q ∨ rStrAdd x y H Q ∨ rCat x y H Q ∨ rCatA K x y H Q
theorem op_addA : OpR X (binaryOp .Add) (rAddA X.K) := OpR.or op_add (OpR.or op_add_str (OpR.or op_cat op_catA))
theorem im_add : Impl2 X EX C addD (rAddA X.K) := by
  intro d1 d2 v1 v2 H Q r1 r2 w
  unfold addD at w
  split at w
  · rw [rt_int r1, rt_int r2]
    exact .inl ⟨_, _, rfl, rfl, w _ H (Same.refl H) rn_int⟩
  · rw [rt_str r1, rt_str r2]
    split at w
    · rename_i h
      exact .inr (.inl ⟨_, _, rfl, rfl, by rw [sizeLine_eq]; exact h, w _ H (Same.refl H) rn_str⟩)
    · exact w.elim
  · split at w
    · rename_i h
      obtain ⟨a, xs, rfl, ha, ra⟩ := rt_tup r1
      obtain ⟨b, ys, rfl, hb, rb⟩ := rt_tup r2
      have h1 := ra.length
      have h2 := rb.length
      refine .inr (.inr (.inr ⟨a, b, xs, ys, rfl, rfl, ha, hb, by rw [sizeLine_eq]; omega, fun e => ?_, fun _ e => ?_, fun _ _ p hp => ?_⟩))
      · have e2 : (_ : List T) = [] := List.eq_nil_of_length_eq_zero (by rw [← h1, e]; rfl)
        rw [e2] at w
        exact w _ H (Same.refl H) (rn_tup hb rb)
      · have e2 : (_ : List T) = [] := List.eq_nil_of_length_eq_zero (by rw [← h2, e]; rfl)
        rw [e2, List.append_nil] at w
        exact w _ H (Same.refl H) (rn_tup ha ra)
      · exact w _ _ (same_new hp _) (new_tup hp (ra.append rb))
    · exact w.elim
  · split at w
    · rename_i h
      obtain ⟨a, xs, rfl, ha, ra⟩ := r1
      obtain ⟨b, ys, rfl, hb, rb⟩ := r2
      have h1 := ra.length
      have h2 := rb.length
      exact .inr (.inr (.inl ⟨a, b, xs, ys, rfl, rfl, ha, hb, by rw [sizeLine_eq]; omega, fun p hp => w _ _ (same_new hp _) (new_lst hp (ra.append rb))⟩))
    · exact w.elim
  · exact w.elim
theorem sn_add (ha : SE X EX C a f) (hb : SE X EX C b g) : SN X EX C (.BinOp a .Add b pos) (fun ρ => f ρ >>= fun x => g ρ >>= fun y => addD x y) := sn_op op_addA im_add ha hb

/-! ### -, *, //, %, ** -/
def subD : D → D → R D
  | .t (.int i), .t (.int j) => .ok (.t (.int (i - j)))
  | _, _ => .stuck
theorem im_sub : Impl2 X EX C subD (rI0 fun i j => .int (i - j)) := by
  intro d1 d2 v1 v2 H Q r1 r2 w
  unfold subD at w
  split at w
  · rw [rt_int r1, rt_int r2]
    exact ⟨_, _, rfl, rfl, w _ H (Same.refl H) rn_int⟩
  · exact w.elim
theorem sn_sub (ha : SE X EX C a f) (hb : SE X EX C b g) : SN X EX C (.BinOp a .Sub b pos) (fun ρ => f ρ >>= fun x => g ρ >>= fun y => subD x y) := sn_op op_sub im_sub ha hb

def small64 (i : Int) : Bool := decide (i.natAbs < 18446744073709551616)
def mulOk (i j : Int) : Bool := small64 i || small64 j || decide (i.natAbs.log2 + j.natAbs.log2 < 1000000)
def mulD : D → D → R D
  | .t (.int i), .t (.int j) => if mulOk i j then .ok (.t (.int (i * j))) else .stuck
  | .t (.str x), .t (.int n) => if x.length ≤ 1000 ∧ -1000 ≤ n ∧ n ≤ 1000 then .ok (.t (.str (Txt.mul x n))) else .stuck
  | .t (.tup xs), .t (.int n) => if xs ≠ [] ∧ xs.length ≤ 1000 ∧ 1 ≤ n ∧ n ≤ 1000 then .ok (.t (.tup (List.replicate n.toNat xs).flatten)) else .stuck
  | _, _ => .stuck
def rStrMul : R2 := fun x y H Q => ∃ z n, x = .str z ∧ y = .int n ∧ z.length ≤ 1000 ∧ -1000 ≤ n ∧ n ≤ 1000 ∧ Q (.str (Txt.mul z n)) H
theorem op_strmul : OpR X (binaryOp .Mult) rStrMul := by
  intro pins s σ H x y v u Q I rx ry h
  obtain ⟨z, n, rfl, rfl, h1, h2, h3, q⟩ := h
  obtain ⟨t, rfl⟩ := rx
  obtain ⟨t', rfl⟩ := ry
  refine SB.mul (PyProof.Rows.mulOk_of 1000 1000 h1 (by omega) (by omega) (by decide) (by decide)) fun t' k => ?_
  exact ⟨.str (Txt.mul z n), H, I.tok _, ⟨_, rfl⟩, q⟩
/-- t * 1 is t -/
def rTup1 (K : PySem.W.Frag) : R2 := fun x y H Q => ∃ l xs, x = .ref l ∧ y = .int 1 ∧ SqT K H l xs ∧ xs ≠ [] ∧ Q (.ref l) H
theorem tuple_mul1 (l : Addr) (items : Array Value) (n : Nat) (sl : Array (Option Value)) (dd : Option Addr) (u : Tok) :
    Meets (Builtin.«tuple.__mul__» ⟨[.ref l, .int 1 u], []⟩) (fun _ R s => s.heap.get? l = some { cls := .type "tuple", dict := dd, data := .seq items n, slots := sl } ∧
      R (.ok (.ret (Value.ref l))) s) :=
  .of_wp fun prog w A R s h => by
    obtain ⟨hp, g, d, tk, os⟩ := s
    obtain ⟨hl, h⟩ := h
    have f1 := AutoSeq1.idx_int
    have c1 : (items.isEmpty || (1 : Int) == 1) = true := by simp
    wp_walk using wpAny_loadPart' hl
    exact ⟨_, rfl, h⟩
theorem op_rep1 : OpR X (binaryOp .Mult) (rTup1 X.K) := by
  intro pins s σ H x y v u Q I rx ry h
  obtain ⟨l, xs, rfl, rfl, hT, hne, q⟩ := h
  cases rx
  obtain ⟨t, rfl⟩ := ry
  obtain ⟨its, r, ⟨⟨cls, dd, data, sl⟩, ho, hc, n, hd⟩, hs⟩ := I.tuple hT
  simp only at hc hd
  subst hc hd
  refine wpAny_binaryOp_repeat_ref (T := "tuple") (U := "int") (by decide) ⟨_, ho, rfl⟩ (fun s' => typeIs_int s' 1 t) noFill_tuple_mul F.fills_int_mul F.slot_int_rmul repeat_tuple F.slot_int_index.lookup
    (call_meets F.slot_int_rmul (typeIs_int s 1 t) F.entry_int_rmul (F.args_int_rmul_2 _ _) (int_rmul_tuple 1 t l its.toArray n dd sl)
      ⟨ho, rfl, ⟨_, ho, rfl⟩, call_meets F.slot_tuple_mul ⟨_, ho, rfl⟩ F.entry_tuple_mul (F.args_tuple_mul_2 _ _) (tuple_mul1 l its.toArray n sl dd t) ⟨ho, ?_⟩⟩)
  exact ⟨.ref l, H, I, rfl, q⟩
def rMulI : R2 := rI (fun i j => CMul i j ∨ CMulW i j) fun i j => .int (i * j)
theorem op_mulA : OpR X (binaryOp .Mult) rMulI := opI fun _ _ _ _ _ _ _ hc q => PyProof.Rows.mul_int q (hc.elim (fun h => h.ok) fun h => h.ok)
def rMulAll (K : PySem.W.Frag) : R2 := fun x y H Q => rMulI x y H Q ∨ rStrMul x y H Q ∨ rRepT K x y H Q ∨ rTup1 K x y H Q
theorem op_mulAll : OpR X (binaryOp .Mult) (rMulAll X.K) := OpR.or op_mulA (OpR.or op_strmul (OpR.or op_repT op_rep1))
theorem mulOk_c {i j : Int} (h : mulOk i j = true) : CMul i j ∨ CMulW i j := by
  unfold mulOk small64 at h
  simp only [Bool.or_eq_true, Bool.and_eq_true, decide_eq_true_eq] at h
  rcases h with (h | h) | h
  · exact .inl (.inl ⟨by omega, by omega⟩)
  · exact .inl (.inr ⟨by omega, by omega⟩)
  · exact .inr h
theorem RTs.rep {K : PySem.W.Frag} {H : Hp} {ds : List T} {vs : List V} (r : RTs K H ds vs) : ∀ n : Nat, RTs K H (List.replicate n ds).flatten (List.replicate n vs).flatten
  | 0 => RTs.nil
  | n + 1 => by
    rw [List.replicate_succ, List.replicate_succ, List.flatten_cons, List.flatten_cons]
    exact r.append (RTs.rep r n)
theorem im_mul : Impl2 X EX C mulD (rMulAll X.K) := by
  intro d1 d2 v1 v2 H Q r1 r2 w
  unfold mulD at w
  split at w
  · split at w
    · rename_i h
      rw [rt_int r1, rt_int r2]
      exact .inl ⟨_, _, rfl, rfl, mulOk_c h, w _ H (Same.refl H) rn_int⟩
    · exact w.elim
  · split at w
    · rename_i h
      rw [rt_str r1, rt_int r2]
      exact .inr (.inl ⟨_, _, rfl, rfl, h.1, h.2.1, h.2.2, w _ H (Same.refl H) rn_str⟩)
    · exact w.elim
  · rename_i xs n
    split at w
    · rename_i h
      obtain ⟨h0, h1, h2, h3⟩ := h
      obtain ⟨a, ys, rfl, ha, ra⟩ := rt_tup r1
      rw [rt_int r2]
      have hl := ra.length
      have hne : ys ≠ [] := fun e => h0 (List.eq_nil_of_length_eq_zero (by rw [← hl, e]; rfl))
      by_cases hn : n = 1
      · subst hn
        have e : (List.replicate (1 : Int).toNat xs).flatten = xs := by simp
        rw [e] at w
        exact .inr (.inr (.inr ⟨a, ys, rfl, rfl, ha, hne, w _ H (Same.refl H) (rn_tup ha ra)⟩))
      · exact .inr (.inr (.inl ⟨a, n, ys, rfl, rfl, ha, hne, by omega, h3, by omega, fun p hp => w _ _ (same_new hp _) (new_tup hp (ra.rep _))⟩))
    · exact w.elim
  · exact w.elim
theorem sn_mul (ha : SE X EX C a f) (hb : SE X EX C b g) : SN X EX C (.BinOp a .Mult b pos) (fun ρ => f ρ >>= fun x => g ρ >>= fun y => mulD x y) := sn_op op_mulAll im_mul ha hb

def divOk (j : Int) : Bool := (decide (j ≠ 0) && decide (j.natAbs < 1073741824)) || (decide (0 < j) && decide (j.natAbs.log2 < 9000))
def divD : D → D → R D
  | .t (.int i), .t (.int j) => if divOk j then .ok (.t (.int (i.fdiv j))) else .stuck
  | _, _ => .stuck
def rDivA : R2 := fun x y H Q => rI CDivN (fun i j => .int (i.fdiv j)) x y H Q ∨ rI CDivW (fun i j => .int (i / j)) x y H Q
theorem op_divA : OpR X (binaryOp .FloorDiv) rDivA := OpR.or op_fdivN op_fdivW
theorem im_div : Impl2 X EX C divD rDivA := by
  intro d1 d2 v1 v2 H Q r1 r2 w
  unfold divD at w
  split at w
  · split at w
    · rename_i i j h
      rw [rt_int r1, rt_int r2]
      unfold divOk at h
      simp only [Bool.or_eq_true, Bool.and_eq_true, decide_eq_true_eq] at h
      rcases h with h | h
      · exact .inl ⟨_, _, rfl, rfl, h, w _ H (Same.refl H) rn_int⟩
      · refine .inr ⟨_, _, rfl, rfl, h, ?_⟩
        have e : i.fdiv j = i / j := Int.fdiv_eq_ediv_of_nonneg i (by omega)
        rw [e] at w
        exact w _ H (Same.refl H) rn_int
    · exact w.elim
  · exact w.elim
theorem sn_div (ha : SE X EX C a f) (hb : SE X EX C b g) : SN X EX C (.BinOp a .FloorDiv b pos) (fun ρ => f ρ >>= fun x => g ρ >>= fun y => divD x y) := sn_op op_divA im_div ha hb
def modD : D → D → R D
  | .t (.int i), .t (.int j) => if j ≠ 0 then .ok (.t (.int (i.fmod j))) else .stuck
  | _, _ => .stuck
theorem im_mod : Impl2 X EX C modD (rI (fun _ j => j ≠ 0) fun i j => .int (i.fmod j)) := by
  intro d1 d2 v1 v2 H Q r1 r2 w
  unfold modD at w
  split at w
  · split at w
    · rename_i h
      rw [rt_int r1, rt_int r2]
      exact ⟨_, _, rfl, rfl, h, w _ H (Same.refl H) rn_int⟩
    · exact w.elim
  · exact w.elim
theorem sn_mod (ha : SE X EX C a f) (hb : SE X EX C b g) : SN X EX C (.BinOp a .Mod b pos) (fun ρ => f ρ >>= fun x => g ρ >>= fun y => modD x y) := sn_op op_modN im_mod ha hb
def powD : D → D → R D
  | .t (.int i), .t (.int j) => if 0 ≤ j ∧ j ≤ 1000 ∧ i.natAbs < 2 ^ 64 then .ok (.t (.int (i ^ j.toNat))) else .stuck
  | _, _ => .stuck
theorem im_pow : Impl2 X EX C powD (rI CPow fun i j => .int (i ^ j.toNat)) := by
  intro d1 d2 v1 v2 H Q r1 r2 w
  unfold powD at w
  split at w
  · split at w
    · rename_i h
      rw [rt_int r1, rt_int r2]
      exact ⟨_, _, rfl, rfl, ⟨h.1, by omega, h.2.2⟩, w _ H (Same.refl H) rn_int⟩
    · exact w.elim
  · exact w.elim
theorem sn_pow (ha : SE X EX C a f) (hb : SE X EX C b g) : SN X EX C (.BinOp a .Pow b pos) (fun ρ => f ρ >>= fun x => g ρ >>= fun y => powD x y) := sn_op op_pow im_pow ha hb
def negD : D → R D
  | .t (.int i) => .ok (.t (.int (-i)))
  | _ => .stuck
theorem sn_neg (ha : SE X EX C a f) : SN X EX C (.UnaryOp .USub a pos) (fun ρ => f ρ >>= negD) := by
  obtain ⟨ta, pa, qa⟩ := ha
  refine ⟨_, pe_un un_neg pa, fun F σ H ρ Q er w => ?_⟩
  refine qa F σ H ρ _ er (w.bind.imp fun d1 _ k v1 H1 s1 r1 => ?_)
  unfold negD at k
  split at k
  · rw [rt_int r1]
    exact ⟨_, rfl, k _ H1 s1 rn_int⟩
  · exact k.elim

/-! ### comparisons -/
def ltD : D → D → R D
  | .t (.int i), .t (.int j) => .ok (.t (.bl (decide (i < j))))
  | _, _ => .stuck
def leD : D → D → R D
  | .t (.int i), .t (.int j) => .ok (.t (.bl (decide (i ≤ j))))
  | .t (.str i), .t (.str j) => .ok (.t (.bl (!decide (j.cps.toList < i.cps.toList))))
  | _, _ => .stuck
def gtD : D → D → R D
  | .t (.int i), .t (.int j) => .ok (.t (.bl (decide (j < i))))
  | _, _ => .stuck
def geD : D → D → R D
  | .t (.int i), .t (.int j) => .ok (.t (.bl (decide (j ≤ i))))
  | _, _ => .stuck
theorem im_lt : Impl2 X EX C ltD (rI0 fun i j => .bl (decide (i < j))) := by
  intro d1 d2 v1 v2 H Q r1 r2 w
  unfold ltD at w
  split at w
  · rw [rt_int r1, rt_int r2]; exact ⟨_, _, rfl, rfl, w _ H (Same.refl H) rn_bl⟩
  · exact w.elim
theorem im_gt : Impl2 X EX C gtD (rI0 fun i j => .bl (decide (j < i))) := by
  intro d1 d2 v1 v2 H Q r1 r2 w
  unfold gtD at w
  split at w
  · rw [rt_int r1, rt_int r2]; exact ⟨_, _, rfl, rfl, w _ H (Same.refl H) rn_bl⟩
  · exact w.elim
theorem im_ge : Impl2 X EX C geD (rI0 fun i j => .bl (decide (j ≤ i))) := by
  intro d1 d2 v1 v2 H Q r1 r2 w
  unfold geD at w
  split at w
  · rw [rt_int r1, rt_int r2]; exact ⟨_, _, rfl, rfl, w _ H (Same.refl H) rn_bl⟩
  · exact w.elim
def rLeS : R2 := fun x y H Q => ∃ i j, x = .str i ∧ y = .str j ∧ Q (.bl (!decide (j.cps.toList < i.cps.toList))) H
theorem im_le : Impl2 X EX C leD (fun x y H Q => rI0 (fun i j => .bl (decide (i ≤ j))) x y H Q ∨ rLeS x y H Q) := by
  intro d1 d2 v1 v2 H Q r1 r2 w
  unfold leD at w
  split at w
  · rw [rt_int r1, rt_int r2]; exact .inl ⟨_, _, rfl, rfl, w _ H (Same.refl H) rn_bl⟩
  · rw [rt_str r1, rt_str r2]; exact .inr ⟨_, _, rfl, rfl, w _ H (Same.refl H) rn_bl⟩
  · exact w.elim
theorem sn_lt (ha : SE X EX C a f) (hb : SE X EX C b g) : SN X EX C (.Compare a [.Lt] [b] pos) (fun ρ => f ρ >>= fun x => g ρ >>= fun y => ltD x y) := sn_cmp op_lt im_lt (nomark _) ha hb
theorem sn_gt (ha : SE X EX C a f) (hb : SE X EX C b g) : SN X EX C (.Compare a [.Gt] [b] pos) (fun ρ => f ρ >>= fun x => g ρ >>= fun y => gtD x y) := sn_cmp op_gt im_gt (nomark _) ha hb
theorem sn_ge (ha : SE X EX C a f) (hb : SE X EX C b g) : SN X EX C (.Compare a [.GtE] [b] pos) (fun ρ => f ρ >>= fun x => g ρ >>= fun y => geD x y) := sn_cmp op_ge im_ge (nomark _) ha hb
theorem sn_le (ha : SE X EX C a f) (hb : SE X EX C b g) : SN X EX C (.Compare a [.LtE] [b] pos) (fun ρ => f ρ >>= fun x => g ρ >>= fun y => leD x y) := sn_cmp (OpR.or op_le op_le_str) im_le (nomark _) ha hb

/-! ### ==, != -/
mutual
def toPy : T → PyData
  | .non => .none
  | .bl b => .bool b
  | .int i => .int i
  | .str s => .str s
  | .tup xs => .tuple (toPys xs)
def toPys : List T → List PyData
  | [] => []
  | x :: xs => toPy x :: toPys xs
end
section
variable {K : PySem.W.Frag} {H : Hp}
mutual
theorem RT.dp : ∀ (d : T) (v : V), RT K H d v → Dp K H v (toPy d)
  | .non, v, r => by unfold RT at r; subst r; unfold toPy; exact .non
  | .bl b, v, r => by unfold RT at r; subst r; unfold toPy; exact .bl b
  | .int i, v, r => by unfold RT at r; subst r; unfold toPy; exact .int i
  | .str s, v, r => by unfold RT at r; subst r; unfold toPy; exact .str s
  | .tup ds, v, r => by
    unfold RT at r
    obtain ⟨a, xs, rfl, q, rs⟩ := r
    unfold toPy
    exact .tup q (RTs.dp ds xs rs)
theorem RTs.dp : ∀ (ds : List T) (vs : List V), RTs K H ds vs → DpAll K H vs (toPys ds)
  | [], vs, r => by rw [r.unnil]; unfold toPys; exact .nil
  | d :: ds, vs, r => by
    obtain ⟨v, ws, rfl, r1, rs⟩ := r.uncons
    unfold toPys
    exact .cons (RT.dp d v r1) (RTs.dp ds ws rs)
end
end
/-- scalars -/
def eqS : T → T → Option Bool
  | .non, .non => some true
  | .non, .int _ | .int _, .non | .non, .bl _ | .bl _, .non | .non, .str _ | .str _, .non => some false
  | .int i, .int j => some (decide (i = j))
  | .bl i, .bl j => some (decide (i = j))
  | .str i, .str j => some (decide (i = j))
  | .int _, .str _ | .str _, .int _ | .bl _, .str _ | .str _, .bl _ => some false
  | _, _ => none
def sameMap (ks ls : List (Str × Int)) : Bool := decide (ks.length = ls.length) && ks.all fun p => decide (ls.find? (fun q => decide (q.1 = p.1)) = some p)
/-- do two data equal (none: not served) -/
def eqB : D → D → Option Bool
  | .t x, .t y => match eqS x y with
    | some b => some b
    | none => if SeqAt.shaped (toPy x) && SeqAt.shaped (toPy y) then some (PyData.eqv (toPy x) (toPy y)) else none
  | .lst xs, .lst ys => if SeqAt.shaped (.list (toPys xs)) && SeqAt.shaped (.list (toPys ys)) then some (PyData.eqv (.list (toPys xs)) (.list (toPys ys))) else none
  | .dct ks, .dct ls => if sameMap ks ls then some true else none
  | _, _ => none
def eqD (x y : D) : R D := match eqB x y with
  | some b => .ok (.t (.bl b))
  | none => .stuck
def neD (x y : D) : R D := match eqB x y with
  | some b => .ok (.t (.bl (!b)))
  | none => .stuck
def rEqAll (K : PySem.W.Frag) : R2 := fun x y H Q => rEq x y H Q ∨ rEqD K x y H Q ∨ rEqDA x y H Q
def rNeAll (K : PySem.W.Frag) : R2 := fun x y H Q => rNe x y H Q ∨ rNeD K x y H Q ∨ rNeDA x y H Q
theorem op_eqAll (hu : X.A.units + 64 < cLine) : OpR X (compareOp .Eq) (rEqAll X.K) := OpR.or op_eq (OpR.or (op_eqD hu) (op_eq_dictA (by omega)))
theorem op_neAll (hu : X.A.units + 64 < cLine) : OpR X (compareOp .NotEq) (rNeAll X.K) := OpR.or op_ne (OpR.or (op_neD hu) (op_ne_dictA (by omega)))
theorem eqS_sc {K : PySem.W.Frag} {H : Hp} {x y : T} {v u : V} {b : Bool} (h : eqS x y = some b) (r1 : RT K H x v) (r2 : RT K H y u) : scal v u = true ∧ decide (v = u) = b := by
  unfold eqS at h
  split at h <;> first | (unfold RT at r1 r2; subst r1 r2; cases h; first | exact ⟨rfl, by simp⟩ | exact ⟨rfl, rfl⟩) | cases h
theorem valV_dK (ls : List (Str × Int)) (k : Str) : valV (dK ls) (Sum.inr k) = (ls.find? (fun q => decide (q.1 = k))).map fun q => V.int q.2 := by
  induction ls with
  | nil => rfl
  | cons p r ih =>
    by_cases h : p.1 = k
    · show valV ((Sum.inr p.1, V.int p.2) :: dK r) _ = _
      rw [valV_pos (by rw [h]), List.find?_cons]
      simp [h]
    · show valV ((Sum.inr p.1, V.int p.2) :: dK r) _ = _
      rw [valV_neg (fun e => h (Sum.inr.inj e)), ih, List.find?_cons]
      simp [h]
theorem same_map {ks ls : List (Str × Int)} (h : sameMap ks ls = true) : (dK ks).length = (dK ls).length ∧ ∀ p ∈ dK ks, valV (dK ls) p.1 = some p.2 ∧ flatB p.2 = true := by
  unfold sameMap at h
  simp only [Bool.and_eq_true, decide_eq_true_eq, List.all_eq_true] at h
  refine ⟨by unfold dK; rw [List.length_map, List.length_map]; exact h.1, fun p hp => ?_⟩
  obtain ⟨q, hq, rfl⟩ := List.mem_map.mp hp
  refine ⟨?_, rfl⟩
  show valV (dK ls) (Sum.inr q.1) = some (V.int q.2)
  rw [valV_dK, h.2 q hq]; rfl
theorem im_eqB {b : Bool} {d1 d2 : D} {v1 v2 : V} {H : Hp} (r1 : RD X.K H d1 v1) (r2 : RD X.K H d2 v2) (h : eqB d1 d2 = some b) :
    (∀ Q : VK, Q (.bl b) H → rEqAll X.K v1 v2 H Q) ∧ (∀ Q : VK, Q (.bl (!b)) H → rNeAll X.K v1 v2 H Q) := by
  unfold eqB at h
  split at h
  · rename_i x y
    split at h
    · rename_i c hc
      cases h
      obtain ⟨s1, s2⟩ := eqS_sc hc r1 r2
      exact ⟨fun Q q => .inl ⟨s1, by rw [s2]; exact q⟩, fun Q q => .inl ⟨s1, by rw [s2]; exact q⟩⟩
    · split at h
      · rename_i hs
        cases h
        simp only [Bool.and_eq_true] at hs
        exact ⟨fun Q q => .inr (.inl ⟨_, _, RT.dp _ _ r1, RT.dp _ _ r2, hs.1, hs.2, q⟩), fun Q q => .inr (.inl ⟨_, _, RT.dp _ _ r1, RT.dp _ _ r2, hs.1, hs.2, q⟩)⟩
      · cases h
  · split at h
    · rename_i hs
      cases h
      simp only [Bool.and_eq_true] at hs
      obtain ⟨a, xs, rfl, ha, ra⟩ := r1
      obtain ⟨c, ys, rfl, hb, rb⟩ := r2
      exact ⟨fun Q q => .inr (.inl ⟨_, _, .lst (SqL.of ha) (RTs.dp _ _ ra), .lst (SqL.of hb) (RTs.dp _ _ rb), hs.1, hs.2, q⟩), fun Q q => .inr (.inl ⟨_, _, .lst (SqL.of ha) (RTs.dp _ _ ra), .lst (SqL.of hb) (RTs.dp _ _ rb), hs.1, hs.2, q⟩)⟩
    · cases h
  · split at h
    · rename_i hs
      cases h
      obtain ⟨a, rfl, ha⟩ := r1
      obtain ⟨c, rfl, hb⟩ := r2
      obtain ⟨m1, m2⟩ := same_map hs
      exact ⟨fun Q q => .inr (.inr ⟨a, c, _, _, rfl, rfl, ha, hb, m1, m2, q⟩), fun Q q => .inr (.inr ⟨a, c, _, _, rfl, rfl, ha, hb, m1, m2, q⟩)⟩
    · cases h
  · cases h
theorem im_eq : Impl2 X EX C eqD (rEqAll X.K) := by
  intro d1 d2 v1 v2 H Q r1 r2 w
  unfold eqD at w
  split at w
  · rename_i b h
    exact (im_eqB r1 r2 h).1 Q (w _ H (Same.refl H) rn_bl)
  · exact w.elim
theorem im_ne : Impl2 X EX C neD (rNeAll X.K) := by
  intro d1 d2 v1 v2 H Q r1 r2 w
  unfold neD at w
  split at w
  · rename_i b h
    exact (im_eqB r1 r2 h).2 Q (w _ H (Same.refl H) rn_bl)
  · exact w.elim
theorem sn_eq (hu : X.A.units + 64 < cLine) (ha : SE X EX C a f) (hb : SE X EX C b g) : SN X EX C (.Compare a [.Eq] [b] pos) (fun ρ => f ρ >>= fun x => g ρ >>= fun y => eqD x y) := sn_cmp (op_eqAll hu) im_eq (nomark _) ha hb
theorem sn_ne (hu : X.A.units + 64 < cLine) (ha : SE X EX C a f) (hb : SE X EX C b g) : SN X EX C (.Compare a [.NotEq] [b] pos) (fun ρ => f ρ >>= fun x => g ρ >>= fun y => neD x y) := sn_cmp (op_neAll hu) im_ne (nomark _) ha hb
end
end Pf

set_option Elab.async false
set_option linter.all false
set_option maxRecDepth 100000
set_option maxHeartbeats 2000000
namespace Pf
open PySem L2
section
variable {X : Cx} {EX : XK} {C : Nat → Addr} {a b : Expr} {f g : Ev → R D} {pos : Pos}

/-! ### is -/
def isC (x : D) : T → R D
  | .non => .ok (.t (.bl (match x with | .t .non => true | _ => false)))
  | .bl b => .ok (.t (.bl (match x with | .t (.bl c) => decide (c = b) | _ => false)))
  | _ => .stuck
def isD (x : D) : D → R D
  | .t y => isC x y
  | _ => .stuck
def notD : D → R D
  | .t (.bl b) => .ok (.t (.bl (!b)))
  | _ => .stuck
def isnD (x y : D) : R D := isD x y >>= notD
def rIsC : R2 := fun x y H Q => (y = .non ∨ ∃ b, y = .bl b) ∧ Q (.bl (decide (x = y))) H
def rIsnC : R2 := fun x y H Q => (y = .non ∨ ∃ b, y = .bl b) ∧ Q (.bl (!decide (x = y))) H
theorem plain_is {x y : V} {v u : Value} (rx : RelV x v) (ry : RelV y u) (h : y = .non ∨ ∃ b, y = .bl b) : plainIs v u = true ∧ (v == u) = decide (x = y) := by
  rcases h with rfl | ⟨b, rfl⟩
  · cases ry
    cases x with
    | non => cases rx; exact ⟨rfl, by simp⟩
    | bl c => cases rx; exact ⟨rfl, by simp⟩
    | int i => obtain ⟨t, rfl⟩ := rx; exact ⟨rfl, by simp⟩
    | str i => obtain ⟨t, rfl⟩ := rx; exact ⟨rfl, by simp⟩
    | byt i => obtain ⟨t, rfl⟩ := rx; exact ⟨rfl, by simp⟩
    | flt i => obtain ⟨t, rfl⟩ := rx; exact ⟨rfl, by simp⟩
    | ref c => cases rx; exact ⟨rfl, by simp⟩
    | ty c => cases rx; exact ⟨rfl, by simp⟩
  · cases ry
    cases x with
    | non => cases rx; exact ⟨rfl, by simp⟩
    | bl c => cases rx; exact ⟨rfl, by by_cases e : c = b <;> simp [e]⟩
    | int i => obtain ⟨t, rfl⟩ := rx; exact ⟨rfl, by simp⟩
    | str i => obtain ⟨t, rfl⟩ := rx; exact ⟨rfl, by simp⟩
    | byt i => obtain ⟨t, rfl⟩ := rx; exact ⟨rfl, by simp⟩
    | flt i => obtain ⟨t, rfl⟩ := rx; exact ⟨rfl, by simp⟩
    | ref c => cases rx; exact ⟨rfl, by simp⟩
    | ty c => cases rx; exact ⟨rfl, by simp⟩
theorem op_isC : OpR X (compareOp .Is) rIsC := by
  intro pins s σ H x y v u Q I rx ry h
  obtain ⟨hy, q⟩ := h
  obtain ⟨p1, p2⟩ := plain_is rx ry hy
  exact wpAny_is_plain p1 ⟨.bl (decide (x = y)), H, I, by rw [p2]; rfl, q⟩
theorem op_isnC : OpR X (compareOp .IsNot) rIsnC := by
  intro pins s σ H x y v u Q I rx ry h
  obtain ⟨hy, q⟩ := h
  obtain ⟨p1, p2⟩ := plain_is rx ry hy
  exact wpAny_isNot_plain p1 ⟨.bl (!decide (x = y)), H, I, by rw [p2]; rfl, q⟩
theorem is_val {K : PySem.W.Frag} {H : Hp} {x : D} {y : T} {v u : V} {b : Bool} (r1 : RD K H x v) (r2 : RT K H y u) (h : isC x y = .ok (.t (.bl b))) : (u = .non ∨ ∃ b, u = .bl b) ∧ decide (v = u) = b := by
  cases y with
  | non =>
    have e := rt_non (K := K) (H := H) r2
    subst e
    refine ⟨.inl rfl, ?_⟩
    cases x with
    | t z =>
      cases z with
      | non => rw [rt_non r1]; cases h; simp
      | bl c => rw [rt_bl r1]; cases h; simp
      | int c => rw [rt_int r1]; cases h; simp
      | str c => rw [rt_str r1]; cases h; simp
      | tup c => obtain ⟨a, xs, rfl, _⟩ := rt_tup r1; cases h; simp
    | lst xs => obtain ⟨a, _, rfl, _⟩ := r1; cases h; simp
    | dct xs => obtain ⟨a, rfl, _⟩ := r1; cases h; simp
    | scr xs => obtain ⟨a, rfl, _⟩ := r1; cases h; simp
    | sn w xs => obtain ⟨a, _, rfl, _⟩ := r1; cases h; simp
  | bl d =>
    have e := rt_bl (K := K) (H := H) r2
    subst e
    refine ⟨.inr ⟨d, rfl⟩, ?_⟩
    cases x with
    | t z =>
      cases z with
      | non => rw [rt_non r1]; cases h; simp
      | bl c => rw [rt_bl r1]; cases h; by_cases e : c = d <;> simp [e]
      | int c => rw [rt_int r1]; cases h; simp
      | str c => rw [rt_str r1]; cases h; simp
      | tup c => obtain ⟨a, xs, rfl, _⟩ := rt_tup r1; cases h; simp
    | lst xs => obtain ⟨a, _, rfl, _⟩ := r1; cases h; simp
    | dct xs => obtain ⟨a, rfl, _⟩ := r1; cases h; simp
    | scr xs => obtain ⟨a, rfl, _⟩ := r1; cases h; simp
    | sn w xs => obtain ⟨a, _, rfl, _⟩ := r1; cases h; simp
  | int d => cases h
  | str d => cases h
  | tup d => cases h
theorem isC_bl {x : D} {y : T} {r : D} (h : isC x y = .ok r) : ∃ b, r = .t (.bl b) := by
  cases y <;> first | (cases h; exact ⟨_, rfl⟩) | cases h
theorem im_is : Impl2 X EX C isD rIsC := by
  intro d1 d2 v1 v2 H Q r1 r2 w
  cases d2 with
  | t y =>
    have w' : WN X.K EX C H (isC d1 y) Q := w
    cases e : isC d1 y with
    | ok r =>
      obtain ⟨b, rfl⟩ := isC_bl e
      obtain ⟨h1, h2⟩ := is_val r1 r2 e
      rw [e] at w'
      exact ⟨h1, by rw [h2]; exact w' _ H (Same.refl H) rn_bl⟩
    | raise c => cases y <;> cases e
    | stuck => rw [e] at w'; exact w'.elim
  | _ => exact w.elim
theorem im_isn : Impl2 X EX C isnD rIsnC := by
  intro d1 d2 v1 v2 H Q r1 r2 w
  cases d2 with
  | t y =>
    have w' : WN X.K EX C H (isC d1 y >>= notD) Q := w
    cases e : isC d1 y with
    | ok r =>
      obtain ⟨b, rfl⟩ := isC_bl e
      obtain ⟨h1, h2⟩ := is_val r1 r2 e
      rw [e] at w'
      exact ⟨h1, by rw [h2]; exact w' _ H (Same.refl H) rn_bl⟩
    | raise c => cases y <;> cases e
    | stuck => rw [e] at w'; exact w'.elim
  | _ => exact w.elim
theorem sn_is (ha : SE X EX C a f) (hb : SE X EX C b g) : SN X EX C (.Compare a [.Is] [b] pos) (fun ρ => f ρ >>= fun x => g ρ >>= fun y => isD x y) := sn_cmp op_isC im_is (nomark _) ha hb
theorem sn_isn (ha : SE X EX C a f) (hb : SE X EX C b g) : SN X EX C (.Compare a [.IsNot] [b] pos) (fun ρ => f ρ >>= fun x => g ρ >>= fun y => isnD x y) := sn_cmp op_isnC im_isn (nomark _) ha hb

/-! ### in -/
def flatT : T → Bool
  | .tup _ => false
  | _ => true
def eqvT : T → T → Bool
  | .non, .non => true
  | .bl a, .bl b => a == b
  | .bl a, .int b => (if a then 1 else 0) == b
  | .int a, .bl b => a == (if b then 1 else 0)
  | .int a, .int b => a == b
  | .str a, .str b => a == b
  | _, _ => false
def inB : D → D → Option Bool
  | .t x, .lst ys => if flatT x && ys.all flatT then some (ys.any fun y => eqvT y x) else none
  | .t x, .t (.tup ys) => if flatT x && ys.all flatT then some (ys.any fun y => eqvT y x) else none
  | .t (.str k), .dct kvs => some (kvs.find? (fun q => decide (q.1 = k))).isSome
  | .t (.str c), .t (.str z) => match c.cps.toList with
    | [n] => some (decide (n ∈ z.cps.toList))
    | _ => none
  | _, _ => none
def inD (x y : D) : R D := match inB x y with
  | some b => .ok (.t (.bl b))
  | none => .stuck
def ninD (x y : D) : R D := match inB x y with
  | some b => .ok (.t (.bl (!b)))
  | none => .stuck
def rInDct (neg : Bool) : R2 := fun y x H Q => ∃ a kvs k, y = .str k ∧ x = .ref a ∧ H a = some (.dK (dK kvs)) ∧ Q (.bl (if neg then !(valV (dK kvs) (Sum.inr k)).isSome else (valV (dK kvs) (Sum.inr k)).isSome)) H
theorem op_inDct (hu : X.A.units + 1 < cLine) : OpR X (compareOp .In) (rInDct false) := by
  intro pins s σ H x y v u Q I rx ry h
  obtain ⟨a, kvs, k, rfl, rfl, ha, q⟩ := h
  cases ry
  exact d_in hu I (DGet.k (k := Sum.inr k) ha) rx fun s' I' => ⟨.bl _, H, I', rfl, q⟩
theorem op_ninDct (hu : X.A.units + 1 < cLine) : OpR X (compareOp .NotIn) (rInDct true) := by
  intro pins s σ H x y v u Q I rx ry h
  obtain ⟨a, kvs, k, rfl, rfl, ha, q⟩ := h
  cases ry
  exact d_notIn hu I (DGet.k (k := Sum.inr k) ha) rx fun s' I' => ⟨.bl _, H, I', rfl, q⟩
def rInS (neg : Bool) : R2 := fun x y H Q => ∃ (c : Nat) (z : Str), x = .str ⟨#[c]⟩ ∧ y = .str z ∧ Q (.bl (if neg then !decide (c ∈ z.cps.toList) else decide (c ∈ z.cps.toList))) H
theorem op_inS' : OpR X (compareOp .In) (rInS false) := op_in_sign
theorem op_ninS' : OpR X (compareOp .NotIn) (rInS true) := op_notIn_sign
def rInAll (K : PySem.W.Frag) (neg : Bool) : R2 := fun x y H Q => rIn K neg x y H Q ∨ rInDct neg x y H Q ∨ rInS neg x y H Q
theorem op_inAll (hu : X.A.units + 1 < cLine) : OpR X (compareOp .In) (rInAll X.K false) := OpR.or op_in_seq (OpR.or (op_inDct hu) op_inS')
theorem op_ninAll (hu : X.A.units + 1 < cLine) : OpR X (compareOp .NotIn) (rInAll X.K true) := OpR.or op_notIn_seq (OpR.or (op_ninDct hu) op_ninS')
theorem flat_v {K : PySem.W.Frag} {H : Hp} {x : T} {v : V} (r : RT K H x v) (h : flatT x = true) : flatV v = true := by
  cases x <;> first | (unfold RT at r; subst r; rfl) | cases h
theorem eqv_v {K : PySem.W.Frag} {H : Hp} {x y : T} {v u : V} (r1 : RT K H x v) (r2 : RT K H y u) (h : flatT x = true) (h2 : flatT y = true) : eqV v u = eqvT x y := by
  cases x <;> cases y <;> first | (unfold RT at r1 r2; subst r1 r2; rfl) | (cases h; done) | (cases h2; done)
theorem any_v {K : PySem.W.Frag} {H : Hp} {x : T} {v : V} (r1 : RT K H x v) (h : flatT x = true) : ∀ {ys : List T} {us : List V}, RTs K H ys us → ys.all flatT = true → us.all flatV = true ∧ inV v us = ys.any fun y => eqvT y x
  | [], us, r, _ => by rw [r.unnil]; exact ⟨rfl, rfl⟩
  | y :: ys, us, r, q => by
    obtain ⟨u, ws, rfl, r2, rs⟩ := r.uncons
    rw [List.all_cons, Bool.and_eq_true] at q
    obtain ⟨i1, i2⟩ := any_v r1 h rs q.2
    refine ⟨by rw [List.all_cons, flat_v r2 q.1, i1]; rfl, ?_⟩
    show (u :: ws).any _ = _
    rw [List.any_cons, List.any_cons, eqv_v r2 r1 q.1 h]
    congr 1
theorem im_inB {b : Bool} {d1 d2 : D} {v1 v2 : V} {H : Hp} (r1 : RD X.K H d1 v1) (r2 : RD X.K H d2 v2) (h : inB d1 d2 = some b) (neg : Bool) (Q : VK) (q : Q (.bl (if neg then !b else b)) H) : rInAll X.K neg v1 v2 H Q := by
  unfold inB at h
  split at h
  · split at h
    · rename_i hf
      cases h
      simp only [Bool.and_eq_true] at hf
      obtain ⟨a, ys, rfl, ha, ra⟩ := r2
      obtain ⟨i1, i2⟩ := any_v r1 hf.1 ra hf.2
      exact .inl ⟨a, ys, rfl, .inl (SqL.of ha), flat_v r1 hf.1, i1, by rw [i2]; exact q⟩
    · cases h
  · split at h
    · rename_i hf
      cases h
      simp only [Bool.and_eq_true] at hf
      obtain ⟨a, ys, rfl, ha, ra⟩ := rt_tup r2
      obtain ⟨i1, i2⟩ := any_v r1 hf.1 ra hf.2
      exact .inl ⟨a, ys, rfl, .inr ha, flat_v r1 hf.1, i1, by rw [i2]; exact q⟩
    · cases h
  · rename_i k kvs
    cases h
    obtain ⟨a, rfl, ha⟩ := r2
    refine .inr (.inl ⟨a, kvs, k, rt_str r1, rfl, ha, ?_⟩)
    rw [valV_dK, Option.isSome_map]
    exact q
  · rename_i c z
    split at h
    · rename_i n hn
      cases h
      refine .inr (.inr ⟨n, z, ?_, rt_str r2, q⟩)
      rw [rt_str r1]
      obtain ⟨⟨l⟩⟩ := c
      simp only at hn
      subst hn
      rfl
    · cases h
  · cases h
theorem im_in : Impl2 X EX C inD (rInAll X.K false) := by
  intro d1 d2 v1 v2 H Q r1 r2 w
  unfold inD at w
  split at w
  · rename_i b h
    exact im_inB r1 r2 h false Q (w _ H (Same.refl H) rn_bl)
  · exact w.elim
theorem im_nin : Impl2 X EX C ninD (rInAll X.K true) := by
  intro d1 d2 v1 v2 H Q r1 r2 w
  unfold ninD at w
  split at w
  · rename_i b h
    exact im_inB r1 r2 h true Q (w _ H (Same.refl H) rn_bl)
  · exact w.elim
theorem sn_in (hu : X.A.units + 1 < cLine) (ha : SE X EX C a f) (hb : SE X EX C b g) (hm : behindInMarks .In b = false := by rfl) : SN X EX C (.Compare a [.In] [b] pos) (fun ρ => f ρ >>= fun x => g ρ >>= fun y => inD x y) := sn_cmp (op_inAll hu) im_in hm ha hb
theorem sn_nin (hu : X.A.units + 1 < cLine) (ha : SE X EX C a f) (hb : SE X EX C b g) (hm : behindInMarks .NotIn b = false := by rfl) : SN X EX C (.Compare a [.NotIn] [b] pos) (fun ρ => f ρ >>= fun x => g ρ >>= fun y => ninD x y) := sn_cmp (op_ninAll hu) im_nin hm ha hb

/-! ### subscripts -/
def ixD : D → D → R D
  | .lst xs, .t (.int i) => match atI xs i with
    | some x => .ok (.t x)
    | none => .stuck
  | .t (.tup xs), .t (.int i) => match atI xs i with
    | some x => .ok (.t x)
    | none => .stuck
  | .t (.str z), .t (.int i) => if z.length ≤ 16777216 then match atI z.cps.toList i with
      | some c => .ok (.t (.str ⟨#[c]⟩))
      | none => .stuck
    else .stuck
  | .scr ns, .t (.int i) => match atI ns i with
    | some n => .ok (.t (.int n))
    | none => .stuck
  | _, _ => .stuck
theorem RTs.atI {K : PySem.W.Frag} {H : Hp} {ds : List T} {vs : List V} {i : Int} {d : T} (r : RTs K H ds vs) (h : L2.atI ds i = some d) : ∃ v, L2.atI vs i = some v ∧ RT K H d v := by
  unfold L2.atI at h ⊢
  rw [r.length]
  cases e : ixN ds.length i with
  | none => rw [e] at h; cases h
  | some j =>
    rw [e] at h
    exact RTs.get r h
theorem im_ix : Impl2 X EX C ixD (rIx X.K) := by
  intro d1 d2 v1 v2 H Q r1 r2 w
  unfold ixD at w
  split at w
  · split at w
    · rename_i x hx
      obtain ⟨a, ys, rfl, ha, ra⟩ := r1
      obtain ⟨v, h1, h2⟩ := ra.atI hx
      rw [rt_int r2]
      exact .inl ⟨a, ys, _, v, rfl, rfl, SqL.of ha, h1, w v H (Same.refl H) h2⟩
    · exact w.elim
  · split at w
    · rename_i x hx
      obtain ⟨a, ys, rfl, ha, ra⟩ := rt_tup r1
      obtain ⟨v, h1, h2⟩ := ra.atI hx
      rw [rt_int r2]
      exact .inr (.inl ⟨a, ys, _, v, rfl, rfl, ha, h1, w v H (Same.refl H) h2⟩)
    · exact w.elim
  · split at w
    · rename_i hz
      split at w
      · rename_i x hx
        rw [rt_str r1, rt_int r2]
        exact .inr (.inr ⟨_, _, _, rfl, rfl, by rw [sizeLine_eq]; exact hz, hx, w _ H (Same.refl H) rn_str⟩)
      · exact w.elim
    · exact w.elim
  · split at w
    · rename_i ns i _ n hx
      obtain ⟨a, rfl, ha⟩ := r1
      rw [rt_int r2]
      have h1 : atI (ns.map V.int) i = some (.int n) := by
        unfold atI at hx ⊢
        rw [List.length_map]
        cases e : ixN ns.length i with
        | none => rw [e] at hx; cases hx
        | some j =>
          rw [e] at hx
          show (ns.map V.int)[j]? = _
          have hx' : ns[j]? = some n := hx
          rw [List.getElem?_map, hx']; rfl
      exact .inl ⟨a, _, _, _, rfl, rfl, ha, h1, w _ H (Same.refl H) rn_int⟩
    · exact w.elim
  · exact w.elim
theorem sn_sub_ix (ha : SE X EX C a f) (hb : SE X EX C b g) (hs : PlainIx b := by exact fun _ _ => rfl) : SN X EX C (.Subscript a b pos) (fun ρ => f ρ >>= fun x => g ρ >>= fun y => ixD x y) := sn_ix ix_seq im_ix hs ha hb
/-- d[k] -/
def dgetD : D → D → R D
  | .dct kvs, .t (.str k) => match kvs.find? (fun q => decide (q.1 = k)) with
    | some p => .ok (.t (.int p.2))
    | none => .stuck
  | _, _ => .stuck
theorem im_dget {H : Hp} {d1 d2 : D} {v1 v2 : V} {Q : VK} (r1 : RD X.K H d1 v1) (r2 : RD X.K H d2 v2) (w : WN X.K EX C H (dgetD d1 d2) Q) : ∃ a v, v1 = .ref a ∧ DGet H a v2 (some v) ∧ Q v H := by
  unfold dgetD at w
  split at w
  · rename_i kvs key
    split at w
    · rename_i p hp
      obtain ⟨c, rfl, hc⟩ := r1
      rw [rt_str r2]
      refine ⟨c, .int p.2, rfl, ?_, w _ H (Same.refl H) rn_int⟩
      have e := DGet.k (k := Sum.inr key) hc
      rw [valV_dK, hp] at e
      exact e
    · exact w.elim
  · exact w.elim
theorem sn_dget (hu : X.A.units + 1 < cLine) (ha : SE X EX C a f) (hb : SE X EX C b g) (hs : NoSl b := by exact fun _ _ => rfl) : SN X EX C (.Subscript a b pos) (fun ρ => f ρ >>= fun x => g ρ >>= fun y => dgetD x y) := by
  obtain ⟨ta, pa, qa⟩ := ha
  obtain ⟨tb, pb, qb⟩ := hb
  refine ⟨_, pe_dget hu pa pb hs, fun F σ H ρ Q er w => ?_⟩
  refine qa F σ H ρ _ er (w.bind.imp fun d1 _ k v1 H1 s1 r1 => ?_)
  refine qb F σ H1 ρ _ (er.mono s1) ((Wp.bind k).mono s1 fun d2 _ k2 v2 H2 s2 r2 => ?_)
  exact im_dget (r1.same s2) r2 (WN.move k2 (s1.trans s2))

/-! ### arguments, displays, calls -/
theorem sa_nil : SA X EX C [] (fun _ => .ok []) := ⟨⟨_, pa_nil, fun F σ H ρ Q er w => w [] H (Same.refl H) rfl⟩, fun ρ ds h => by cases h; rfl⟩
theorem sa_cons {es : List Expr} {h : Ev → R (List D)} (ha : SE X EX C a f) (hr : SA X EX C es h) (hs : starEach (a :: es) X.env = (false, eval a X.env) :: starEach es X.env := by rfl) :
    SA X EX C (a :: es) (fun ρ => f ρ >>= fun x => h ρ >>= fun xs => .ok (x :: xs)) := by
  obtain ⟨ta, pa, qa⟩ := ha
  obtain ⟨⟨tr, pr, qr⟩, hl⟩ := hr
  refine ⟨⟨_, pa_cons pa pr hs, fun F σ H ρ Q er w => ?_⟩, fun ρ ds e => ?_⟩
  rotate_left
  · cases e1 : f ρ with
    | ok x =>
      cases e2 : h ρ with
      | ok xs =>
        have e' : (f ρ >>= fun x => h ρ >>= fun xs => R.ok (x :: xs)) = .ok ds := e
        rw [e1] at e'
        have e' : (h ρ >>= fun xs => R.ok (x :: xs)) = .ok ds := e'
        rw [e2] at e'
        cases e'
        simp [hl ρ xs e2]
      | raise c => have e' : (f ρ >>= fun x => h ρ >>= fun xs => R.ok (x :: xs)) = .ok ds := e; rw [e1] at e'; have e' : (h ρ >>= fun xs => R.ok (x :: xs)) = .ok ds := e'; rw [e2] at e'; cases e'
      | stuck => have e' : (f ρ >>= fun x => h ρ >>= fun xs => R.ok (x :: xs)) = .ok ds := e; rw [e1] at e'; have e' : (h ρ >>= fun xs => R.ok (x :: xs)) = .ok ds := e'; rw [e2] at e'; cases e'
    | raise c => have e' : (f ρ >>= fun x => h ρ >>= fun xs => R.ok (x :: xs)) = .ok ds := e; rw [e1] at e'; cases e'
    | stuck => have e' : (f ρ >>= fun x => h ρ >>= fun xs => R.ok (x :: xs)) = .ok ds := e; rw [e1] at e'; cases e'
  refine qa F σ H ρ _ er (w.bind.imp fun d1 _ k v1 H1 s1 r1 => ?_)
  refine qr F σ H1 ρ _ (er.mono s1) ((Wp.bind k).mono s1 fun ds _ k2 vs H2 s2 r2 => ?_)
  exact k2 _ H2 (s1.trans s2) ⟨_, _, rfl, r1.same s2, r2⟩
/-- data alone -/
def asTs : List D → R (List T)
  | [] => .ok []
  | .t x :: r => asTs r >>= fun xs => .ok (x :: xs)
  | _ :: _ => .stuck
theorem asTs_ok {K : PySem.W.Frag} {H : Hp} : ∀ {ds : List D} {ts : List T} {vs : List V}, asTs ds = .ok ts → RDs K H ds vs → RTs K H ts vs
  | [], ts, vs, h, r => by
    have e : vs = [] := r
    subst e; cases h; exact RTs.nil
  | .t x :: ds, ts, vs, h, r => by
    obtain ⟨v, ws, rfl, r1, rs⟩ := r
    cases e : asTs ds with
    | ok xs =>
      have h' : (asTs ds >>= fun xs => R.ok (x :: xs)) = .ok ts := h
      rw [e] at h'
      cases h'
      exact RTs.cons r1 (asTs_ok e rs)
    | raise c => have h' : (asTs ds >>= fun xs => R.ok (x :: xs)) = .ok ts := h; rw [e] at h'; cases h'
    | stuck => have h' : (asTs ds >>= fun xs => R.ok (x :: xs)) = .ok ts := h; rw [e] at h'; cases h'
  | .lst _ :: _, ts, vs, h, r => by cases h
  | .dct _ :: _, ts, vs, h, r => by cases h
  | .scr _ :: _, ts, vs, h, r => by cases h
  | .sn _ _ :: _, ts, vs, h, r => by cases h
def mkTup (ds : List D) : R D := asTs ds >>= fun xs => if xs.length ≤ 16777216 then .ok (.t (.tup xs)) else .stuck
def mkLst (ds : List D) : R D := asTs ds >>= fun xs => if xs.length ≤ 16777216 then .ok (.lst xs) else .stuck
theorem asTs_noraise {c : Nat} : ∀ {ds : List D}, asTs ds = .raise c → False
  | [], e => by cases e
  | .t x :: ds, e => by
    have e' : (asTs ds >>= fun xs => R.ok (x :: xs)) = .raise c := e
    cases e2 : asTs ds with
    | ok xs => rw [e2] at e'; cases e'
    | raise c2 => rw [e2] at e'; cases e'; exact asTs_noraise e2
    | stuck => rw [e2] at e'; cases e'
  | .lst _ :: _, h => by cases h
  | .dct _ :: _, h => by cases h
  | .scr _ :: _, h => by cases h
  | .sn _ _ :: _, h => by cases h
theorem sn_tup {es : List Expr} {x1} {h : Ev → R (List D)} (ha : SA X EX C es h) : SN X EX C (.Tuple es x1 pos) (fun ρ => h ρ >>= mkTup) := by
  obtain ⟨⟨ta, pa, qa⟩, _⟩ := ha
  refine ⟨_, pe_tup pa, fun F σ H ρ Q er w => ?_⟩
  refine qa F σ H ρ _ er (w.bind.imp fun ds _ k vs H1 s1 r1 => ?_)
  unfold mkTup at k
  cases e : asTs ds with
  | ok xs =>
    rw [e] at k
    have k : WN X.K EX C H (if xs.length ≤ 16777216 then R.ok (.t (.tup xs)) else .stuck) Q := k
    have rs := asTs_ok e r1
    split at k
    · rename_i hl
      refine ⟨by rw [rs.length, sizeLine_eq]; exact hl, fun p hp => k _ _ (s1.trans (same_new hp _)) ((new_tup hp rs).less s1)⟩
    · exact k.elim
  | raise c => exact (asTs_noraise e).elim
  | stuck => rw [e] at k; exact k.elim
theorem sn_lst {es : List Expr} {h : Ev → R (List D)} (ha : SA X EX C es h) : SN X EX C (.List es pos) (fun ρ => h ρ >>= mkLst) := by
  obtain ⟨⟨ta, pa, qa⟩, _⟩ := ha
  refine ⟨_, pe_lst pa, fun F σ H ρ Q er w => ?_⟩
  refine qa F σ H ρ _ er (w.bind.imp fun ds _ k vs H1 s1 r1 => ?_)
  unfold mkLst at k
  cases e : asTs ds with
  | ok xs =>
    rw [e] at k
    have k : WN X.K EX C H (if xs.length ≤ 16777216 then R.ok (.lst xs) else .stuck) Q := k
    have rs := asTs_ok e r1
    split at k
    · rename_i hl
      refine ⟨by rw [rs.length, sizeLine_eq]; exact hl, fun p hp => k _ _ (s1.trans (same_new hp _)) ((new_lst hp rs).less s1)⟩
    · exact k.elim
  | raise c => exact (asTs_noraise e).elim
  | stuck => rw [e] at k; exact k.elim
theorem sn_dnew : SN X EX C (.Dict [] [] pos) (fun _ => .ok (.dct [])) :=
  ⟨_, pe_dnewK, fun F σ H ρ Q er w p hp => w _ _ (same_new hp _) (new_dct (kvs := []) hp)⟩

/-- a built-in by name -/
theorem sn_callB {x : Str} {id : String} {r : List V → Hp → VK → Prop} {op1 : List D → R D} {es : List Expr} {h : Ev → R (List D)} {p : Pos} (hc : CallR X (.builtin id) r) (hi : Impl1 X EX C op1 r) (ha : SA X EX C (a :: es) h)
    (hm : X.mg x = none) (hv : bootBuiltins x = some (.builtin id)) (hg : Gl X x := by rfl) (hn : x ≠ "__name__" := by decide) (hdb : (x == ("__debug__" : Str)) = false := by decide)
    (he : starEach (a :: es) X.env = (false, eval a X.env) :: starEach es X.env := by rfl) (hpl : (backTo pos (starEach es X.env)).any (·.1) = false := by rfl) : SN X EX C (.Call (.Name x p) (a :: es) [] pos) (fun ρ => h ρ >>= op1) := by
  obtain ⟨⟨ta, pa, qa⟩, _⟩ := ha
  refine ⟨_, pe_callB hc hg hm hv pa hn hdb he hpl, fun F σ H ρ Q er w => ?_⟩
  exact qa F σ H ρ _ er (w.bind.imp fun ds _ k vs H1 s1 r1 => hi ds vs H1 Q r1 (WN.move k s1))
theorem sn_callTy {x : Str} {T : String} {r : List V → Hp → VK → Prop} {op1 : List D → R D} {es : List Expr} {h : Ev → R (List D)} {p : Pos} (hc : CallR X (.type T) r) (hi : Impl1 X EX C op1 r) (ha : SA X EX C (a :: es) h)
    (hm : X.mg x = none) (hv : bootBuiltins x = some (.type T)) (hg : Gl X x := by rfl) (hn : x ≠ "__name__" := by decide) (hdb : (x == ("__debug__" : Str)) = false := by decide)
    (he : starEach (a :: es) X.env = (false, eval a X.env) :: starEach es X.env := by rfl) (hpl : (backTo pos (starEach es X.env)).any (·.1) = false := by rfl) : SN X EX C (.Call (.Name x p) (a :: es) [] pos) (fun ρ => h ρ >>= op1) := by
  obtain ⟨⟨ta, pa, qa⟩, _⟩ := ha
  refine ⟨_, pe_callTy hc hg hm hv pa hn hdb he hpl, fun F σ H ρ Q er w => ?_⟩
  exact qa F σ H ρ _ er (w.bind.imp fun ds _ k vs H1 s1 r1 => hi ds vs H1 Q r1 (WN.move k s1))
end
/-! ### the promise of a def -/
def spR (K : PySem.W.Frag) (C : Nat → Addr) (n : Nat) (g : List D → R D) : Sp := fun vs H Q E => ∃ ds, vs.length = n ∧ RDs K H ds vs ∧ WN K E C H (g ds) Q
section
variable {X : Cx} {EX : XK} {C : Nat → Addr} {a b : Expr} {f g : Ev → R D} {pos : Pos}
theorem sn_call {x : Str} {k n : Nat} {fa : Addr} {fd : FuncData} {ps : List Str} {gr : List D → R D} {es : List Expr} {h : Ev → R (List D)} {p : Pos}
    (F : FnOk X.prog X.w X.K X.mg X.base (L2N.CX X.prog X.w) k fa fd ps (spR X.K C n gr)) (hr : Room k X.A) (hm : X.mg x = some (.ref fa)) (hk : PySem.W.keepIn X.K (.ref fa) = true) (hb : Binds X.K fd ps []) (hx : Passes (L2N.CX X.prog X.w) X EX)
    (ha : SA X EX C (a :: es) h) (hlen : n = es.length + 1) (hg : Gl X x := by rfl) (hdb : (x == ("__debug__" : Str)) = false := by decide) (he : starEach (a :: es) X.env = (false, eval a X.env) :: starEach es X.env := by rfl) (hpl : (backTo pos (starEach es X.env)).any (·.1) = false := by rfl) :
    SN X EX C (.Call (.Name x p) (a :: es) [] pos) (fun ρ => h ρ >>= gr) := by
  obtain ⟨⟨ta, pa, qa⟩, hla⟩ := ha
  refine ⟨_, pe_call F hr hg hm hk hb .nil hx pa hdb he hpl, fun F σ H ρ Q er w => ?_⟩
  refine qa F σ H ρ _ er (w.bind.imp fun ds eds k vs H1 s1 r1 => ?_)
  show spR X.K C n gr (vs ++ []) H1 Q EX
  rw [List.append_nil]
  exact ⟨ds, by rw [r1.length, hla ρ ds eds, hlen]; rfl, r1, WN.move k s1⟩
end
end Pf

set_option Elab.async false
set_option linter.all false
set_option maxRecDepth 100000
set_option maxHeartbeats 2000000
namespace Pf
open PySem L2

/-! ## built-ins -/
section
variable {X : Cx} {EX : XK} {C : Nat → Addr} {a b : Expr} {f g : Ev → R D} {pos : Pos}
def lenD : List D → R D
  | [.lst xs] => .ok (.t (.int xs.length))
  | [.t (.tup xs)] => .ok (.t (.int xs.length))
  | [.t (.str z)] => if z.length ≤ 16777216 then .ok (.t (.int z.length)) else .stuck
  | [.dct kvs] => .ok (.t (.int kvs.length))
  | [.scr ns] => .ok (.t (.int ns.length))
  | _ => .stuck
theorem rd1 {K : PySem.W.Frag} {H : Hp} {d : D} {vs : List V} (r : RDs K H [d] vs) : ∃ v, vs = [v] ∧ RD K H d v := by
  obtain ⟨v, ws, rfl, h, h2⟩ := r
  have e : ws = [] := h2
  subst e
  exact ⟨v, rfl, h⟩
theorem rd2 {K : PySem.W.Frag} {H : Hp} {d e : D} {vs : List V} (r : RDs K H [d, e] vs) : ∃ v u, vs = [v, u] ∧ RD K H d v ∧ RD K H e u := by
  obtain ⟨v, ws, rfl, h, h2⟩ := r
  obtain ⟨u, rfl, h3⟩ := rd1 h2
  exact ⟨v, u, rfl, h, h3⟩
def rLenSq (K : PySem.W.Frag) : List V → Hp → VK → Prop := fun xs H Q => ∃ p ys, xs = [.ref p] ∧ (SqL K H p ys ∨ SqT K H p ys) ∧ Q (.int ys.length) H
def rLenSt : List V → Hp → VK → Prop := fun xs H Q => ∃ z : Str, xs = [.str z] ∧ z.length ≤ sizeLine ∧ Q (.int z.length) H
def rLenDc : List V → Hp → VK → Prop := fun xs H Q => ∃ a kvs, xs = [V.ref a] ∧ H a = some (.dK kvs) ∧ Q (.int kvs.length) H
def rLen (K : PySem.W.Frag) : List V → Hp → VK → Prop := fun xs H Q => rLenSq K xs H Q ∨ rLenSt xs H Q ∨ rLenDc xs H Q
theorem cr_len : CallR X (.builtin "len") (rLen X.K) := CallR.or call_len_seq (CallR.or call_len_str call_lenD)
theorem im_len : Impl1 X EX C lenD (rLen X.K) := by
  intro ds vs H Q r w
  unfold lenD at w
  split at w
  · obtain ⟨v, rfl, a, xs, rfl, ha, ra⟩ := rd1 r
    rw [← ra.length] at w
    exact .inl ⟨a, xs, rfl, .inl (SqL.of ha), w _ H (Same.refl H) rn_int⟩
  · obtain ⟨v, rfl, h⟩ := rd1 r
    obtain ⟨a, xs, rfl, ha, ra⟩ := rt_tup h
    rw [← ra.length] at w
    exact .inl ⟨a, xs, rfl, .inr ha, w _ H (Same.refl H) rn_int⟩
  · split at w
    · rename_i hz
      obtain ⟨v, rfl, h⟩ := rd1 r
      rw [rt_str h]
      exact .inr (.inl ⟨_, rfl, by rw [sizeLine_eq]; exact hz, w _ H (Same.refl H) rn_int⟩)
    · exact w.elim
  · rename_i kvs
    obtain ⟨v, rfl, a, rfl, ha⟩ := rd1 r
    refine .inr (.inr ⟨a, _, rfl, ha, ?_⟩)
    have e : (dK kvs).length = kvs.length := by unfold dK; rw [List.length_map]
    rw [e]
    exact w _ H (Same.refl H) rn_int
  · rename_i ns
    obtain ⟨v, rfl, a, rfl, ha⟩ := rd1 r
    refine .inl ⟨a, _, rfl, .inl ha, ?_⟩
    rw [List.length_map]
    exact w _ H (Same.refl H) rn_int
  · exact w.elim
def listD : List D → R D
  | [.lst xs] => .ok (.lst xs)
  | [.t (.tup xs)] => .ok (.lst xs)
  | _ => .stuck
theorem im_list : Impl1 X EX C listD (fun xs H Q => ∃ p ys, xs = [.ref p] ∧ (SqL X.K H p ys ∨ SqT X.K H p ys) ∧ ∀ l, H l = none → Q (.ref l) (upd H l (.lst ys))) := by
  intro ds vs H Q r w
  unfold listD at w
  split at w
  · obtain ⟨v, rfl, a, xs, rfl, ha, ra⟩ := rd1 r
    exact ⟨a, xs, rfl, .inl (SqL.of ha), fun l hl => w _ _ (same_new hl _) (new_lst hl ra)⟩
  · obtain ⟨v, rfl, h⟩ := rd1 r
    obtain ⟨a, xs, rfl, ha, ra⟩ := rt_tup h
    exact ⟨a, xs, rfl, .inr ha, fun l hl => w _ _ (same_new hl _) (new_lst hl ra)⟩
  · exact w.elim
def tupleD : List D → R D
  | [.lst xs] => .ok (.t (.tup xs))
  | [.t (.tup xs)] => .ok (.t (.tup xs))
  | _ => .stuck
theorem im_tuple : Impl1 X EX C tupleD (fun xs H Q => ∃ p ys, xs = [.ref p] ∧ ((SqL X.K H p ys ∧ ∀ l, H l = none → Q (.ref l) (upd H l (.tup ys))) ∨ (SqT X.K H p ys ∧ Q (.ref p) H))) := by
  intro ds vs H Q r w
  unfold tupleD at w
  split at w
  · obtain ⟨v, rfl, a, xs, rfl, ha, ra⟩ := rd1 r
    exact ⟨a, xs, rfl, .inl ⟨SqL.of ha, fun l hl => w _ _ (same_new hl _) (new_tup hl ra)⟩⟩
  · obtain ⟨v, rfl, h⟩ := rd1 r
    obtain ⟨a, xs, rfl, ha, ra⟩ := rt_tup h
    exact ⟨a, xs, rfl, .inr ⟨ha, w _ H (Same.refl H) (rn_tup ha ra)⟩⟩
  · exact w.elim
def dictD : List D → R D
  | [.dct kvs] => .ok (.dct kvs)
  | _ => .stuck
theorem cr_dict : CallR X (.type "dict") (fun xs H Q => ∃ a kvs, xs = [.ref a] ∧ H a = some (.dK kvs) ∧ ∀ p, H p = none → Q (.ref p) (upd H p (.dK kvs))) := by
  intro pins s σ H xs us Q I r q
  obtain ⟨a, kvs, rfl, ha, q⟩ := q
  rw [Vals.ref1 r]
  exact d_copyOf I (.inl ha) fun p s' hp I' => ⟨.ref p, _, I', rfl, q p hp⟩
theorem im_dict : Impl1 X EX C dictD (fun xs H Q => ∃ a kvs, xs = [.ref a] ∧ H a = some (.dK kvs) ∧ ∀ p, H p = none → Q (.ref p) (upd H p (.dK kvs))) := by
  intro ds vs H Q r w
  unfold dictD at w
  split at w
  · obtain ⟨v, rfl, a, rfl, ha⟩ := rd1 r
    exact ⟨a, _, rfl, ha, fun l hl => w _ _ (same_new hl _) (new_dct hl)⟩
  · exact w.elim
def asInts : List T → Option (List Int)
  | [] => some []
  | .int i :: r => (asInts r).map (i :: ·)
  | _ :: _ => none
theorem asInts_eq : ∀ {ts : List T} {ns : List Int}, asInts ts = some ns → ts = ns.map T.int
  | [], ns, h => by cases h; rfl
  | .int i :: r, ns, h => by
    have h' : (asInts r).map (i :: ·) = some ns := h
    cases e : asInts r with
    | none => rw [e] at h'; cases h'
    | some ms => rw [e] at h'; cases h'; rw [asInts_eq e]; rfl
  | .non :: _, _, h => by cases h
  | .bl _ :: _, _, h => by cases h
  | .str _ :: _, _, h => by cases h
  | .tup _ :: _, _, h => by cases h
theorem asInts_map : ∀ (ns : List Int), asInts (ns.map T.int) = some ns
  | [] => rfl
  | n :: r => by
    show (asInts (r.map T.int)).map (n :: ·) = _
    rw [asInts_map r]; rfl
def asStrs : List T → Option (List Str)
  | [] => some []
  | .str i :: r => (asStrs r).map (i :: ·)
  | _ :: _ => none
theorem asStrs_eq : ∀ {ts : List T} {ns : List Str}, asStrs ts = some ns → ts = ns.map T.str
  | [], ns, h => by cases h; rfl
  | .str i :: r, ns, h => by
    have h' : (asStrs r).map (i :: ·) = some ns := h
    cases e : asStrs r with
    | none => rw [e] at h'; cases h'
    | some ms => rw [e] at h'; cases h'; rw [asStrs_eq e]; rfl
  | .non :: _, _, h => by cases h
  | .bl _ :: _, _, h => by cases h
  | .int _ :: _, _, h => by cases h
  | .tup _ :: _, _, h => by cases h
theorem asStrs_map : ∀ (ns : List Str), asStrs (ns.map T.str) = some ns
  | [] => rfl
  | n :: r => by
    show (asStrs (r.map T.str)).map (n :: ·) = _
    rw [asStrs_map r]; rfl
def sumD : List D → R D
  | [.lst xs] => match asInts xs with
    | some ns => .ok (.t (.int ns.sum))
    | none => .stuck
  | _ => .stuck
theorem im_sum : Impl1 X EX C sumD (rSum X.K) := by
  intro ds vs H Q r w
  unfold sumD at w
  split at w
  · split at w
    · rename_i ns hn
      obtain ⟨v, rfl, a, xs, rfl, ha, ra⟩ := rd1 r
      rw [asInts_eq hn] at ra
      rw [ra.ints] at ha
      exact ⟨a, ns, rfl, SqL.of ha, w _ H (Same.refl H) rn_int⟩
    · exact w.elim
  · exact w.elim
def intD : List D → R D
  | [.t (.int i)] => .ok (.t (.int i))
  | [.t (.bl k)] => .ok (.t (.int (if k then 1 else 0)))
  | _ => .stuck
theorem im_int : Impl1 X EX C intD (fun xs H Q => (∃ i, xs = [.int i] ∧ Q (.int i) H) ∨ ∃ k, xs = [.bl k] ∧ Q (.int (if k then 1 else 0)) H) := by
  intro ds vs H Q r w
  unfold intD at w
  split at w
  · obtain ⟨v, rfl, h⟩ := rd1 r
    rw [rt_int h]
    exact .inl ⟨_, rfl, w _ H (Same.refl H) rn_int⟩
  · obtain ⟨v, rfl, h⟩ := rd1 r
    rw [rt_bl h]
    exact .inr ⟨_, rfl, w _ H (Same.refl H) rn_int⟩
  · exact w.elim
def absD : List D → R D
  | [.t (.int i)] => .ok (.t (.int (if i < 0 then -i else i)))
  | _ => .stuck
theorem im_abs : Impl1 X EX C absD (fun xs H Q => ∃ i, xs = [.int i] ∧ Q (.int (if i < 0 then -i else i)) H) := by
  intro ds vs H Q r w
  unfold absD at w
  split at w
  · obtain ⟨v, rfl, h⟩ := rd1 r
    rw [rt_int h]
    exact ⟨_, rfl, w _ H (Same.refl H) rn_int⟩
  · exact w.elim

/-! ### sorted -/
def leS (a b : Str) : Bool := !decide (b.cps.toList < a.cps.toList)
def insS (x : Str) : List Str → List Str
  | [] => [x]
  | y :: r => if leS x y then x :: y :: r else y :: insS x r
def srtS : List Str → List Str
  | [] => []
  | x :: r => insS x (srtS r)
theorem insS_perm (x : Str) : ∀ l, (insS x l).Perm (x :: l)
  | [] => List.Perm.refl _
  | y :: r => by
    unfold insS
    split
    · exact List.Perm.refl _
    · exact ((insS_perm x r).cons y).trans (List.Perm.swap x y r)
theorem srtS_perm : ∀ l, (srtS l).Perm l
  | [] => List.Perm.refl _
  | x :: r => (insS_perm x _).trans ((srtS_perm r).cons x)
theorem cps_eq {a b : Str} (h : a.cps.toList = b.cps.toList) : a = b := by
  obtain ⟨⟨x⟩⟩ := a; obtain ⟨⟨y⟩⟩ := b; simp only at h; subst h; rfl
theorem leS_total (a b : Str) : leS a b = true ∨ leS b a = true := by
  unfold leS
  simp only [Bool.not_eq_true', decide_eq_false_iff_not]
  by_cases h : b.cps.toList < a.cps.toList
  · exact .inr (List.not_lt.mpr (List.le_of_lt h))
  · exact .inl h
theorem leS_antisymm {a b : Str} (h1 : leS a b = true) (h2 : leS b a = true) : a = b := by
  unfold leS at h1 h2
  simp only [Bool.not_eq_true', decide_eq_false_iff_not] at h1 h2
  exact cps_eq (List.le_antisymm (List.not_lt.mp h1) (List.not_lt.mp h2))
theorem leS_trans {a b c : Str} (h1 : leS a b = true) (h2 : leS b c = true) : leS a c = true := by
  unfold leS at *
  simp only [Bool.not_eq_true', decide_eq_false_iff_not] at *
  exact List.not_lt.mpr (List.le_trans (List.not_lt.mp h1) (List.not_lt.mp h2))
theorem insS_pw (x : Str) : ∀ l, l.Pairwise (fun a b => leS a b = true) → (insS x l).Pairwise (fun a b => leS a b = true)
  | [], _ => by simp [insS]
  | y :: r, h => by
    obtain ⟨h1, h2⟩ := List.pairwise_cons.mp h
    unfold insS
    split
    · rename_i hxy
      refine List.pairwise_cons.mpr ⟨fun z hz => ?_, h⟩
      rcases List.mem_cons.mp hz with rfl | hz
      · exact hxy
      · exact leS_trans hxy (h1 z hz)
    · rename_i hxy
      refine List.pairwise_cons.mpr ⟨fun z hz => ?_, insS_pw x r h2⟩
      rcases List.mem_cons.mp ((insS_perm x r).mem_iff.mp hz) with rfl | hz
      · exact (leS_total z y).resolve_left hxy
      · exact h1 z hz
theorem srtS_pw : ∀ l, (srtS l).Pairwise (fun a b => leS a b = true)
  | [] => List.Pairwise.nil
  | x :: r => insS_pw x _ (srtS_pw r)
theorem risingS_pw : ∀ (l : List Str) (p : Str), PyProof.Rows.risingS p l = true → (∀ x ∈ l, leS p x = true) ∧ l.Pairwise (fun a b => leS a b = true)
  | [], _, _ => ⟨fun _ h => by simp at h, .nil⟩
  | x :: r, p, h => by
    unfold PyProof.Rows.risingS at h
    rw [Bool.and_eq_true] at h
    obtain ⟨i1, i2⟩ := risingS_pw r x h.2
    have hp : leS p x = true := by
      unfold leS
      have := h.1
      rw [PyProof.Rows.ltCps_eq] at this
      exact this
    refine ⟨fun z hz => ?_, List.pairwise_cons.mpr ⟨i1, i2⟩⟩
    rcases List.mem_cons.mp hz with rfl | hz
    · exact hp
    · exact leS_trans hp (i1 z hz)
theorem sortedS_pw : ∀ (l : List Str), PyProof.Rows.sortedS l = true → l.Pairwise (fun a b => leS a b = true)
  | [], _ => .nil
  | x :: r, h => List.pairwise_cons.mpr (risingS_pw r x h)
theorem srtS_of {ys xs : List Str} (p : ys.Perm xs) (s : PyProof.Rows.sortedS ys = true) : ys = srtS xs :=
  (p.trans (srtS_perm xs).symm).eq_of_pairwise (fun a b _ _ h1 h2 => leS_antisymm h1 h2) (sortedS_pw ys s) (srtS_pw xs)
def sortedD : List D → R D
  | [.lst ts] => match asStrs ts with
    | some xs => if xs.length < 64 then .ok (.lst ((srtS xs).map T.str)) else .stuck
    | none => .stuck
  | [.dct kvs] => if kvs.length < 64 then .ok (.lst ((srtS (kvs.map (·.1))).map T.str)) else .stuck
  | _ => .stuck
def rSrtS (K : PySem.W.Frag) : List V → Hp → VK → Prop := fun xs H Q => rSortedS K xs H Q ∨ ∃ (a : Addr) (kvs : List (Key × V)) (ks : List Str), xs = [.ref a] ∧ Rd H a (.dK kvs) ∧ kvs.map (·.1) = ks.map Sum.inr ∧ ks.length < 64 ∧
    ∀ ys p, ys.Perm ks → PyProof.Rows.sortedS ys = true → H p = none → Q (.ref p) (upd H p (.lst (ys.map V.str)))
theorem cr_srtS (hc : X.calm = true) : CallR X (.builtin "sorted") (rSrtS X.K) := CallR.or cr_sortedS (call_sortedD hc)
theorem im_sorted : Impl1 X EX C sortedD (rSrtS X.K) := by
  intro ds vs H Q r w
  unfold sortedD at w
  split at w
  · split at w
    · rename_i xs hn
      split at w
      · rename_i h64
        obtain ⟨v, rfl, a, ys, rfl, ha, ra⟩ := rd1 r
        rw [asStrs_eq hn] at ra
        rw [ra.strs] at ha
        refine .inl ⟨a, xs, rfl, SqL.of ha, h64, fun zs p pm st hp => ?_⟩
        rw [srtS_of pm st]
        exact w _ _ (same_new hp _) (new_lst hp (RTs.ofStrs _))
      · exact w.elim
    · exact w.elim
  · rename_i kvs
    split at w
    · rename_i h64
      obtain ⟨v, rfl, a, rfl, ha⟩ := rd1 r
      refine .inr ⟨a, _, kvs.map (·.1), rfl, .inl ha, ?_, by rw [List.length_map]; exact h64, fun zs p pm st hp => ?_⟩
      · unfold dK; rw [List.map_map, List.map_map]; rfl
      · rw [srtS_of pm st]
        exact w _ _ (same_new hp _) (new_lst hp (RTs.ofStrs _))
    · exact w.elim
  · exact w.elim

/-! ### isinstance with a built-in class -/
def tyN : D → String
  | .t .non => "NoneType"
  | .t (.bl _) => "bool"
  | .t (.int _) => "int"
  | .t (.str _) => "str"
  | .t (.tup _) => "tuple"
  | .lst _ => "list"
  | .dct _ => "dict"
  | .scr _ => "?"
  | .sn _ _ => "?"
def unTy : D → Bool
  | .scr _ => true
  | .sn _ _ => true
  | _ => false
def isiD (T : String) (d : D) : R D := match d with
  | .scr _ => .stuck
  | .sn _ _ => .stuck
  | d => match kitB (tyN d) T with
    | some b => .ok (.t (.bl b))
    | none => .stuck
theorem tyX_of {K : PySem.W.Frag} {H : Hp} {d : D} {v : V} (r : RD K H d v) (h : unTy d = false) : TyX K H v (.type (tyN d)) := by
  cases d with
  | t x =>
    cases x with
    | non => rw [rt_non r]; exact .base .non
    | bl b => rw [rt_bl r]; exact .base (.bl b)
    | int i => rw [rt_int r]; exact .base (.int i)
    | str i => rw [rt_str r]; exact .base (.str i)
    | tup ds =>
      obtain ⟨a, xs, rfl, ha, _⟩ := rt_tup r
      rcases ha with (ha | ⟨o, ha⟩) | ⟨o, its, n, h1, h2, _⟩
      · exact .base (.tup ha)
      · exact .fTuple ha
      · exact .kTuple h1 h2
  | lst ds => obtain ⟨a, xs, rfl, ha, _⟩ := r; exact .base (.lst ha)
  | dct kvs => obtain ⟨a, rfl, ha⟩ := r; exact .base (.dK ha)
  | scr ns => cases h
  | sn w ns => cases h
theorem sn_isi {T : String} {x : Str} {p1 p2 : Pos} (ha : SE X EX C a f) (hm : X.mg "isinstance" = none) (hmT : X.mg x = none) (hT : bootBuiltins x = some (.type T)) (hg : Gl X "isinstance" := by rfl) (hgT : Gl X x := by rfl)
    (hb : bootBuiltins "isinstance" = some (.builtin "isinstance") := by decide +kernel) (hn : x ≠ "__name__" := by decide) (hd : (x == ("__debug__" : Str)) = false := by decide)
    (h1 : starEach [a, .Name x p2] X.env = (false, eval a X.env) :: starEach [.Name x p2] X.env := by rfl) (h2 : starEach [.Name x p2] X.env = (false, eval (.Name x p2) X.env) :: starEach [] X.env := by rfl)
    (hpl : (backTo pos (starEach [.Name x p2] X.env)).any (·.1) = false := by rfl) :
    SN X EX C (.Call (.Name "isinstance" p1) [a, .Name x p2] [] pos) (fun ρ => f ρ >>= isiD T) := by
  obtain ⟨ta, pa, qa⟩ := ha
  refine ⟨_, pe_callB call_isi hg hm hb (pa_cons pa (pa_cons (pe_bltn (v := .ty T) hgT hmT hT rfl hn hd) pa_nil h2) h1) (by decide) (by decide) h1 hpl, fun F σ H ρ Q er w => ?_⟩
  refine qa F σ H ρ _ er (w.bind.imp fun d _ k v H1 s1 r1 => ?_)
  show rIsi X.K [v, .ty T] H1 Q
  have k' : ∃ c, unTy d = false ∧ kitB (tyN d) T = some c ∧ ∀ v H', Same H H' → RN X.K H H' (.t (.bl c)) v → Q v H' := by
    unfold isiD at k
    split at k
    · exact k.elim
    · exact k.elim
    · rename_i hd hd2
      split at k
      · rename_i c hc
        exact ⟨c, by cases d with
          | scr ns => exact (hd ns rfl).elim
          | sn w ns => exact (hd2 w ns rfl).elim
          | _ => rfl, hc, k⟩
      · exact k.elim
  obtain ⟨c, n1, hc, k⟩ := k'
  exact ⟨v, .ty T, _, _, c, rfl, .ty T, tyX_of r1 n1, kit_ty hc, k _ H1 s1 rn_bl⟩

/-! ### slices -/
def SO (X : Cx) (EX : XK) (C : Nat → Addr) (e : Option Expr) (f : Ev → R (Option Int)) : Prop :=
  ∃ to, PO X e to ∧ ∀ F σ H ρ (Q : Option Int → Hp → Prop), ER X.K F σ H ρ → Wp EX C H (f ρ) (fun o => ∀ H', Same H H' → Q o H') → to σ H Q
theorem so_none : SO X EX C none (fun _ => .ok none) := ⟨_, po_none, fun F σ H ρ Q er w => w H (Same.refl H)⟩
def asInt : D → R (Option Int)
  | .t (.int i) => .ok (some i)
  | _ => .stuck
theorem so_some (ha : SE X EX C a f) : SO X EX C (some a) (fun ρ => f ρ >>= asInt) := by
  obtain ⟨ta, pa, qa⟩ := ha
  refine ⟨_, po_some pa, fun F σ H ρ Q er w => ?_⟩
  refine qa F σ H ρ _ er (w.bind.imp fun d _ k v H1 s1 r1 => ?_)
  unfold asInt at k
  split at k
  · rw [rt_int r1]; exact ⟨_, rfl, k H1 s1⟩
  · exact k.elim
def cutT (xs : List T) (lo hi : Option Int) : List T := (xs.drop (HT.sIx xs.length 0 lo)).take (HT.sIx xs.length xs.length hi - HT.sIx xs.length 0 lo)
theorem RTs.cut {K : PySem.W.Frag} {H : Hp} {ds : List T} {vs : List V} (r : RTs K H ds vs) (lo hi : Option Int) : RTs K H (cutT ds lo hi) (cutV vs lo hi) := by
  unfold cutT cutV
  rw [r.length]
  exact (r.drop _).take _
def slD (d : D) (lo hi : Option Int) : R D := match d with
  | .lst xs => .ok (.lst (cutT xs lo hi))
  | .t (.tup xs) => .ok (.t (.tup (cutT xs lo hi)))
  | .t (.str z) => if z.length ≤ 16777216 then .ok (.t (.str (cutS z lo hi))) else .stuck
  | _ => .stuck
def rSlAll (K : PySem.W.Frag) : V → Option Int → Option Int → Hp → VK → Prop := fun x lo hi H Q => rSlL K x lo hi H Q ∨ rSlA K x lo hi H Q ∨ rSlS x lo hi H Q
theorem sl_all : SlR X (rSlAll X.K) := SlR.or sl_list (SlR.or sl_tupA sl_str)
theorem cut_whole {xs : List T} {lo hi : Option Int} (h : HT.sIx xs.length 0 lo = 0 ∧ HT.sIx xs.length xs.length hi = xs.length) : cutT xs lo hi = xs := by
  unfold cutT; rw [h.1, h.2]; simp
theorem im_sl {d : D} {lo hi : Option Int} {v : V} {H : Hp} {Q : VK} (r : RD X.K H d v) (w : WN X.K EX C H (slD d lo hi) Q) : rSlAll X.K v lo hi H Q := by
  unfold slD at w
  split at w
  · obtain ⟨a, xs, rfl, ha, ra⟩ := r
    exact .inl ⟨a, xs, rfl, SqL.of ha, fun p hp => w _ _ (same_new hp _) (new_lst hp (ra.cut _ _))⟩
  · obtain ⟨a, xs, rfl, ha, ra⟩ := rt_tup r
    refine .inr (.inl ⟨a, xs, rfl, ha, fun e => ?_, fun _ p hp => w _ _ (same_new hp _) (new_tup hp (ra.cut _ _))⟩)
    rw [ra.length] at e
    rw [cut_whole e] at w
    exact w _ H (Same.refl H) (rn_tup ha ra)
  · split at w
    · rename_i hz
      rw [rt_str r]
      exact .inr (.inr ⟨_, rfl, by rw [sizeLine_eq]; exact hz, w _ H (Same.refl H) rn_str⟩)
    · exact w.elim
  · exact w.elim
theorem sn_slice {lo hi : Option Expr} {fl fh : Ev → R (Option Int)} {p2 : Pos} (ha : SE X EX C a f) (hl : SO X EX C lo fl) (hh : SO X EX C hi fh) :
    SN X EX C (.Subscript a (.Slice lo hi none p2) pos) (fun ρ => f ρ >>= fun d => fl ρ >>= fun l => fh ρ >>= fun h => slD d l h) := by
  obtain ⟨ta, pa, qa⟩ := ha
  obtain ⟨tl, pl, ql⟩ := hl
  obtain ⟨th, ph, qh⟩ := hh
  refine ⟨_, pe_slice sl_all pa pl ph, fun F σ H ρ Q er w => ?_⟩
  refine qa F σ H ρ _ er (w.bind.imp fun d _ k v H1 s1 r1 => ?_)
  refine ql F σ H1 ρ _ (er.mono s1) ((Wp.bind k).mono s1 fun l _ k2 H2 s2 => ?_)
  refine qh F σ H2 ρ _ (er.mono (s1.trans s2)) ((Wp.bind k2).mono (s1.trans s2) fun h _ k3 H3 s3 => ?_)
  exact im_sl ((r1.same s2).same s3) (WN.move k3 ((s1.trans s2).trans s3))

/-! ### tests -/
def asB : D → R Bool
  | .t (.bl b) => .ok b
  | _ => .stuck
theorem st_val (ha : SE X EX C a f) (he : ∀ whole, isTrue a X.env whole = (do let v ← whole; standAt a.pos; holding [v] (truthy v)) := by intro _; rfl) : ST X EX C a (fun ρ => f ρ >>= asB) := by
  obtain ⟨ta, pa, qa⟩ := ha
  refine ⟨_, pt_val pa he, fun F σ H ρ Q er w => ?_⟩
  refine qa F σ H ρ _ er (w.bind.imp fun d _ k v H1 s1 r1 => ?_)
  unfold asB at k
  split at k
  · rw [rt_bl r1]; exact ⟨_, rfl, k H1 s1⟩
  · exact k.elim
def SW (X : Cx) (EX : XK) (C : Nat → Addr) (e : Expr) (f : Ev → R Bool) : Prop :=
  ∃ te, PW X e te ∧ ∀ F σ H ρ Q, ER X.K F σ H ρ → WB EX C H (f ρ) Q → te σ H Q
theorem SW.st {f : Ev → R Bool} (h : SW X EX C a f) : ST X EX C a f := by
  obtain ⟨te, p, q⟩ := h
  exact ⟨te, p.pt, q⟩
theorem sw_and1 {f : Ev → R Bool} (ha : ST X EX C a f) : SW X EX C (.BoolOp .And [a] pos) f := by
  obtain ⟨ta, pa, qa⟩ := ha
  exact ⟨ta, pw_and1 pa, qa⟩
theorem sw_or1 {f : Ev → R Bool} (ha : ST X EX C a f) : SW X EX C (.BoolOp .Or [a] pos) f := by
  obtain ⟨ta, pa, qa⟩ := ha
  exact ⟨ta, pw_or1 pa, qa⟩
def andR (x y : R Bool) : R Bool := x >>= fun b => if b then y else .ok false
def orR (x y : R Bool) : R Bool := x >>= fun b => if b then .ok true else y
theorem sw_and {rest : List Expr} {f g : Ev → R Bool} (ha : ST X EX C a f) (hb : SW X EX C (.BoolOp .And (b :: rest) pos) g) : SW X EX C (.BoolOp .And (a :: b :: rest) pos) (fun ρ => andR (f ρ) (g ρ)) := by
  obtain ⟨ta, pa, qa⟩ := ha
  obtain ⟨tb, pb, qb⟩ := hb
  refine ⟨_, pw_and pa pb, fun F σ H ρ Q er w => ?_⟩
  refine qa F σ H ρ _ er ((Wp.bind w).imp fun d _ k H1 s1 => ?_)
  cases d with
  | true => exact iteT (qb F σ H1 ρ Q (er.mono s1) (WB.move k s1))
  | false => exact iteF (k H1 s1)
theorem sw_or {rest : List Expr} {f g : Ev → R Bool} (ha : ST X EX C a f) (hb : SW X EX C (.BoolOp .Or (b :: rest) pos) g) : SW X EX C (.BoolOp .Or (a :: b :: rest) pos) (fun ρ => orR (f ρ) (g ρ)) := by
  obtain ⟨ta, pa, qa⟩ := ha
  obtain ⟨tb, pb, qb⟩ := hb
  refine ⟨_, pw_or pa pb, fun F σ H ρ Q er w => ?_⟩
  refine qa F σ H ρ _ er ((Wp.bind w).imp fun d _ k H1 s1 => ?_)
  cases d with
  | true => exact iteT (k H1 s1)
  | false => exact iteF (qb F σ H1 ρ Q (er.mono s1) (WB.move k s1))
theorem st_not {f : Ev → R Bool} (ha : ST X EX C a f) : ST X EX C (.UnaryOp .Not a pos) (fun ρ => f ρ >>= fun b => .ok (!b)) := by
  obtain ⟨ta, pa, qa⟩ := ha
  refine ⟨_, pt_not pa, fun F σ H ρ Q er w => ?_⟩
  exact qa F σ H ρ _ er (w.bind.imp fun d _ k H1 s1 => k H1 s1)
/-! .. as values -/
theorem sn_one {op} (ha : SN X EX C a f) : SN X EX C (.BoolOp op [a] pos) f := by
  obtain ⟨ta, pa, qa⟩ := ha
  exact ⟨ta, pe_one pa, qa⟩
def andV (x y : R D) : R D := x >>= asB >>= fun b => if b then y else .ok (.t (.bl false))
def orV (x y : R D) : R D := x >>= asB >>= fun b => if b then .ok (.t (.bl true)) else y
theorem sn_and {rest : List Expr} (ha : SE X EX C a f) (hb : SN X EX C (.BoolOp .And (b :: rest) pos) g) : SN X EX C (.BoolOp .And (a :: b :: rest) pos) (fun ρ => andV (f ρ) (g ρ)) := by
  obtain ⟨ta, pa, qa⟩ := ha
  obtain ⟨tb, pb, qb⟩ := hb
  refine ⟨_, pe_and pa pb, fun F σ H ρ Q er w => ?_⟩
  refine qa F σ H ρ _ er ((Wp.bind (Wp.bind w)).imp fun d _ k v H1 s1 r1 => ?_)
  unfold asB at k
  split at k
  · rename_i c _
    rw [rt_bl r1]
    refine ⟨c, rfl, ?_⟩
    cases c with
    | true => exact iteT (qb F σ H1 ρ Q (er.mono s1) (WN.move k s1))
    | false => exact iteF (k _ H1 s1 rn_bl)
  · exact k.elim
theorem sn_or {rest : List Expr} (ha : SE X EX C a f) (hb : SN X EX C (.BoolOp .Or (b :: rest) pos) g) : SN X EX C (.BoolOp .Or (a :: b :: rest) pos) (fun ρ => orV (f ρ) (g ρ)) := by
  obtain ⟨ta, pa, qa⟩ := ha
  obtain ⟨tb, pb, qb⟩ := hb
  refine ⟨_, pe_or pa pb, fun F σ H ρ Q er w => ?_⟩
  refine qa F σ H ρ _ er ((Wp.bind (Wp.bind w)).imp fun d _ k v H1 s1 r1 => ?_)
  unfold asB at k
  split at k
  · rename_i c _
    rw [rt_bl r1]
    refine ⟨c, rfl, ?_⟩
    cases c with
    | true => exact iteT (k _ H1 s1 rn_bl)
    | false => exact iteF (qb F σ H1 ρ Q (er.mono s1) (WN.move k s1))
  · exact k.elim
theorem sn_not (ha : SE X EX C a f) : SN X EX C (.UnaryOp .Not a pos) (fun ρ => f ρ >>= asB >>= fun b => .ok (.t (.bl (!b)))) := by
  obtain ⟨ta, pa, qa⟩ := ha
  refine ⟨_, pe_not pa, fun F σ H ρ Q er w => ?_⟩
  refine qa F σ H ρ _ er ((Wp.bind (Wp.bind w)).imp fun d _ k v H1 s1 r1 => ?_)
  unfold asB at k
  split at k
  · rename_i c _
    rw [rt_bl r1]
    exact ⟨c, rfl, k _ H1 s1 rn_bl⟩
  · exact k.elim

/-! ### names of the module -/
theorem sn_glob {x : Str} {t : T} {v : V} {u : Value} (hm : X.mg x = some u) (r : RelV v u) (ht : ∀ H, RT X.K H t v) (hg : Gl X x := by rfl) (hd : (x == ("__debug__" : Str)) = false := by decide) : SN X EX C (.Name x pos) (fun _ => .ok (.t t)) :=
  ⟨_, pe_glob hg hm r hd, fun F σ H ρ Q er w => w v H (Same.refl H) (ht H)⟩

/-! ### methods -/
def asDct : D → R (List (Str × Int))
  | .dct kvs => .ok kvs
  | _ => .stuck
def dget2 (kvs : List (Str × Int)) (k x : D) : R D := match k, x with
  | .t (.str k), .t (.int i) => .ok (.t (.int (match kvs.find? (fun q => decide (q.1 = k)) with | some p => p.2 | none => i)))
  | _, _ => .stuck
theorem im_dget2 {kvs : List (Str × Int)} {d1 d2 : D} {a : Addr} {v1 v2 : V} {H : Hp} {Q : VK} (ha : H a = some (.dK (dK kvs))) (r1 : RD X.K H d1 v1) (r2 : RD X.K H d2 v2) (w : WN X.K EX C H (dget2 kvs d1 d2) Q) : ∃ o, DGet H a v1 o ∧ Q (o.getD v2) H := by
  unfold dget2 at w
  split at w
  · rename_i k i
    rw [rt_str r1, rt_int r2]
    refine ⟨_, DGet.k (k := Sum.inr k) ha, ?_⟩
    rw [valV_dK]
    have q := w _ H (Same.refl H) rn_int
    cases e : kvs.find? (fun q => decide (q.1 = k)) with
    | none => rw [e] at q; exact q
    | some p => rw [e] at q; exact q
  · exact w.elim
theorem sn_dget2 {c : Expr} {h : Ev → R D} {apos : Pos} (hu : X.A.units + 1 < cLine) (ha : SE X EX C a f) (hb : SE X EX C b g) (hc : SE X EX C c h) (m : M2 X a "get" apos b c pos := by exact ⟨rfl, rfl, rfl, rfl⟩) :
    SN X EX C (.Call (.Attribute a "get" apos) [b, c] [] pos) (fun ρ => f ρ >>= asDct >>= fun d => g ρ >>= fun k => h ρ >>= fun x => dget2 d k x) := by
  obtain ⟨ta, pa, qa⟩ := ha
  obtain ⟨tb, pb, qb⟩ := hb
  obtain ⟨tc, pc, qc⟩ := hc
  refine ⟨_, pe_dget2 hu pa pb pc m, fun F σ H ρ Q er w => ?_⟩
  refine qa F σ H ρ _ er ((Wp.bind (Wp.bind w)).imp fun d _ k v H1 s1 r1 => ?_)
  cases d with
  | dct kvs =>
    obtain ⟨p, rfl, hp⟩ := r1
    have k : Wp EX C H (g ρ >>= fun k => h ρ >>= fun x => dget2 kvs k x) (fun d => ∀ v H', Same H H' → RN X.K H H' d v → Q v H') := k
    refine ⟨p, rfl, .inl ⟨_, .inl hp⟩, ?_⟩
    refine qb F σ H1 ρ _ (er.mono s1) ((Wp.bind k).mono s1 fun d1 _ k1 v1 H2 s2 r2 => ?_)
    refine qc F σ H2 ρ _ (er.mono (s1.trans s2)) ((Wp.bind k1).mono (s1.trans s2) fun d2 _ k2 v2 H3 s3 r3 => ?_)
    obtain ⟨o, h1, h2⟩ := im_dget2 (s3 _ _ (s2 _ _ hp)) (r2.same s3) r3 (WN.move k2 ((s1.trans s2).trans s3))
    exact ⟨o, h1, h2⟩
  | t x => exact k.elim
  | lst x => exact k.elim
  | scr x => exact k.elim
  | sn w x => exact k.elim
end
end Pf

set_option Elab.async false
set_option linter.all false
set_option maxRecDepth 100000
set_option maxHeartbeats 2000000
namespace Pf
open PySem L2

/-! ## statements -/
inductive Out where
  | nx (ρ : Ev) | bk (ρ : Ev) | ct (ρ : Ev) | rt (d : D)
def TupLe (K : PySem.W.Frag) (H H' : Hp) : Prop := ∀ a xs, SqT K H a xs → SqT K H' a xs
theorem TupLe.refl {K : PySem.W.Frag} (H : Hp) : TupLe K H H := fun _ _ h => h
theorem TupLe.trans {K : PySem.W.Frag} {H H1 H2 : Hp} (a : TupLe K H H1) (b : TupLe K H1 H2) : TupLe K H H2 := fun c xs h => b c xs (a c xs h)
theorem Same.tups {K : PySem.W.Frag} {H H' : Hp} (e : Same H H') : TupLe K H H' := fun _ _ h => Same.sqT e h
def WS (K : PySem.W.Frag) (EX : XK) (C : Nat → Addr) (F H : Hp) (D : Ends) : R Out → Prop
  | .ok (.nx ρ) => ∀ F' σ' H', Same F F' → TupLe K H H' → ER K F' σ' H' ρ → D.nx σ' H'
  | .ok (.bk ρ) => ∀ F' σ' H', Same F F' → TupLe K H H' → ER K F' σ' H' ρ → D.bk σ' H'
  | .ok (.ct ρ) => ∀ F' σ' H', Same F F' → TupLe K H H' → ER K F' σ' H' ρ → D.ct σ' H'
  | .ok (.rt d) => ∀ v H', Same F H' → RN K F H' d v → D.rt v H'
  | .raise c => ∀ H', Same F H' → EX (.ref (C c)) none H'
  | .stuck => False
def SS (X : Cx) (EX : XK) (C : Nat → Addr) (st : Stmt) (g : Ev → R Out) : Prop :=
  ∃ ts, PS X st ts ∧ ∀ F σ H ρ D, ER X.K F σ H ρ → WS X.K EX C F H D (g ρ) → ts D σ H
def SB (X : Cx) (EX : XK) (C : Nat → Addr) (sts : List Stmt) (g : Ev → R Out) : Prop :=
  ∃ ts, PSs X sts ts ∧ ∀ F σ H ρ D, ER X.K F σ H ρ → WS X.K EX C F H D (g ρ) → ts D σ H
section
variable {K : PySem.W.Frag} {EX : XK} {C : Nat → Addr} {F F' H H' : Hp} {D D' : Ends}
theorem WS.grow {r : R Out} (w : WS K EX C F H D r) (e : Same F F') (t : TupLe K H H') : WS K EX C F' H' D r := by
  cases r with
  | ok o =>
    cases o with
    | nx ρ => exact fun F2 σ2 H2 e2 t2 er => w F2 σ2 H2 (e.trans e2) (t.trans t2) er
    | bk ρ => exact fun F2 σ2 H2 e2 t2 er => w F2 σ2 H2 (e.trans e2) (t.trans t2) er
    | ct ρ => exact fun F2 σ2 H2 e2 t2 er => w F2 σ2 H2 (e.trans e2) (t.trans t2) er
    | rt d => exact fun v H2 e2 r => w v H2 (e.trans e2) (r.less e)
  | raise c => exact fun H2 e2 => w H2 (e.trans e2)
  | stuck => exact w
/-- an expression ahead of a statement's rest -/
theorem WS.bind {α : Type} {r : R α} {g : α → R Out} (w : WS K EX C F H D (r >>= g)) (hF : Same F H) : Wp EX C H r (fun a => WS K EX C F H D (g a)) := by
  cases r with
  | ok a => exact w
  | raise c => exact fun H2 e2 => w H2 (hF.trans e2)
  | stuck => exact w
end
@[simp] def seqO (g1 g2 : Ev → R Out) (ρ : Ev) : R Out := g1 ρ >>= fun o => match o with
  | .nx ρ' => g2 ρ'
  | o => .ok o
section
variable {X : Cx} {EX : XK} {C : Nat → Addr} {a b : Expr} {f g : Ev → R D} {pos : Pos}
theorem sb_nil : SB X EX C [] (fun ρ => .ok (.nx ρ)) := ⟨_, pss_nil, fun F σ H ρ D er w => w F σ H (Same.refl F) (TupLe.refl H) er⟩
theorem sb_cons {st : Stmt} {sts : List Stmt} {g1 g2 : Ev → R Out} (h1 : SS X EX C st g1) (h2 : SB X EX C sts g2) : SB X EX C (st :: sts) (seqO g1 g2) := by
  obtain ⟨t1, p1, q1⟩ := h1
  obtain ⟨t2, p2, q2⟩ := h2
  refine ⟨_, pss_cons p1 p2, fun F σ H ρ D er w => ?_⟩
  refine q1 F σ H ρ _ er ?_
  unfold seqO at w
  cases e : g1 ρ with
  | ok o =>
    rw [e] at w
    cases o with
    | nx ρ' => exact fun F' σ' H' e' t' er' => q2 F' σ' H' ρ' D er' (WS.grow w e' t')
    | bk ρ' => exact w
    | ct ρ' => exact w
    | rt d => exact w
  | raise c => rw [e] at w; exact w
  | stuck => rw [e] at w; exact w.elim
theorem sb_one {st : Stmt} {g1 : Ev → R Out} (h1 : SS X EX C st g1) : SB X EX C [st] g1 := by
  obtain ⟨t1, p1, q1⟩ := h1
  exact ⟨t1, pss_one p1, q1⟩
theorem ss_pass : SS X EX C (.Pass pos) (fun ρ => .ok (.nx ρ)) := ⟨_, ps_pass, fun F σ H ρ D er w => w F σ H (Same.refl F) (TupLe.refl H) er⟩
theorem ss_never {st : Stmt} : SS X EX C st (fun _ => .stuck) := ⟨_, ps_never, fun F σ H ρ D er w => w.elim⟩
/-- x = e -/
@[simp] def setO (i : Nat) (f : Ev → R D) (ρ : Ev) : R Out := f ρ >>= fun d => .ok (.nx (ρ.set i (.d d true)))
theorem ss_set {i : Nat} {x : Str} {e : Expr} {pos' : Pos} (he : SN X EX C e f) (hN : X.N.Nodup) (hi : X.N[i]? = some x := by rfl) (hx : Loc X.env.scope x := by first | exact Or.inl rfl | exact Or.inr rfl) (hs : swapsWith e (some (.Name x pos')) pos.line X.env = pure false := by rfl)
    (hf : X.fn x = true ∨ X.env.scope.names.lookup x = some .local := by first | exact .inl rfl | exact .inr rfl | assumption) : SS X EX C (.Assign [.Name x pos'] e pos) (setO i f) := by
  obtain ⟨te, pe, qe⟩ := he
  refine ⟨_, ps_set hN hi hx pe hs hf, fun F σ H ρ D er w => ?_⟩
  refine qe F σ H ρ _ er ((WS.bind w er.same).imp fun d _ k v H1 s1 r1 => ?_)
  exact k F _ H1 (Same.refl F) (Same.tups s1) (er.store s1 r1)
/-- return e -/
@[simp] def retO (f : Ev → R D) (ρ : Ev) : R Out := f ρ >>= fun d => .ok (.rt d)
theorem ss_ret {e : Expr} (he : SN X EX C e f) : SS X EX C (.Return (some e) pos) (retO f) := by
  obtain ⟨te, pe, qe⟩ := he
  refine ⟨_, ps_ret pe, fun F σ H ρ D er w => ?_⟩
  refine qe F σ H ρ _ er ((WS.bind w er.same).imp fun d _ k v H1 s1 r1 => ?_)
  exact k v H1 (er.same.trans s1) (r1.less er.same)
/-- return x, x an own list -/
def retN (i : Nat) (ρ : Ev) : R Out := match ρ[i]? with
  | some (.d x true) => .ok (.rt x)
  | some (.d (.t x) false) => .ok (.rt (.t x))
  | _ => .stuck
theorem ss_retN {i : Nat} {x : Str} {p : Pos} (pv : PE X (.Name x p) (tVar i)) : SS X EX C (.Return (some (.Name x p)) pos) (retN i) := by
  refine ⟨_, ps_ret pv, fun F σ H ρ D er w => ?_⟩
  unfold retN at w
  split at w
  · rename_i d h
    obtain ⟨v, h1, h2, _⟩ := er.slot _ _ _ h
    exact ⟨v, h1, w v H er.same (h2 rfl)⟩
  · rename_i d h
    obtain ⟨v, h1, _, h2⟩ := er.slot _ _ _ h
    exact ⟨v, h1, w v H er.same (h2 rfl)⟩
  · exact w.elim
theorem ss_ret0 : SS X EX C (.Return none pos) (fun _ => .ok (.rt (.t .non))) := ⟨_, ps_retN, fun F σ H ρ D er w => w .non H er.same (by show RT _ _ _ _; unfold RT; rfl)⟩
theorem ss_brk : SS X EX C (.Break pos) (fun ρ => .ok (.bk ρ)) := ⟨_, ps_break, fun F σ H ρ D er w => w F σ H (Same.refl F) (TupLe.refl H) er⟩
theorem ss_ctn : SS X EX C (.Continue pos) (fun ρ => .ok (.ct ρ)) := ⟨_, ps_continue, fun F σ H ρ D er w => w F σ H (Same.refl F) (TupLe.refl H) er⟩
/-- e alone -/
@[simp] def exprO (f : Ev → R D) (ρ : Ev) : R Out := f ρ >>= fun _ => .ok (.nx ρ)
theorem ss_expr {e : Expr} (he : SE X EX C e f) (hs : swapsWith e none pos.line X.env = pure false := by rfl) : SS X EX C (.Expr e pos) (exprO f) := by
  obtain ⟨te, pe, qe⟩ := he
  refine ⟨_, ps_expr pe hs, fun F σ H ρ D er w => ?_⟩
  refine qe F σ H ρ _ er ((WS.bind w er.same).imp fun d _ k v H1 s1 r1 => ?_)
  exact k F σ H1 (Same.refl F) (Same.tups s1) (er.mono s1)
/-- if -/
@[simp] def ifO (c : Ev → R Bool) (g1 g2 : Ev → R Out) (ρ : Ev) : R Out := c ρ >>= fun b => if b then g1 ρ else g2 ρ
theorem ss_if {e : Expr} {s1 s2 : List Stmt} {c : Ev → R Bool} {g1 g2 : Ev → R Out} (hc : ST X EX C e c) (h1 : SB X EX C s1 g1) (h2 : SB X EX C s2 g2) : SS X EX C (.If e s1 s2 pos) (ifO c g1 g2) := by
  obtain ⟨tc, pc, qc⟩ := hc
  obtain ⟨t1, p1, q1⟩ := h1
  obtain ⟨t2, p2, q2⟩ := h2
  refine ⟨_, ps_if pc p1 p2, fun F σ H ρ D er w => ?_⟩
  refine qc F σ H ρ _ er ((WS.bind w er.same).imp fun b _ k H1 s1 => ?_)
  cases b with
  | true => exact iteT (q1 F σ H1 ρ D (er.mono s1) (WS.grow k (Same.refl F) (Same.tups s1)))
  | false => exact iteF (q2 F σ H1 ρ D (er.mono s1) (WS.grow k (Same.refl F) (Same.tups s1)))

/-! ### own lists and dicts are written -/
def appO (i : Nat) (f : Ev → R D) (ρ : Ev) : R Out := match ρ[i]? with
  | some (.d (.lst xs) true) => f ρ >>= fun d => match d with
    | .t x => if xs.length < 16777216 then .ok (.nx (ρ.set i (.d (.lst (xs ++ [x])) true))) else .stuck
    | _ => .stuck
  | _ => .stuck
theorem RN.lstApp {K : PySem.W.Frag} {F H : Hp} {a : Addr} {xs : List V} {ds : List T} {v : V} {x : T} (hF : F a = none) (ha : H a = some (.lst xs)) (r : RTs K H ds xs) (rv : RT K H x v) : RN K F (upd H a (.lst (xs ++ [v]))) (.lst (ds ++ [x])) (.ref a) :=
  ⟨a, _, rfl, hF, upd_same, (r.append (RTs.cons rv RTs.nil)).upd ha trivial⟩
theorem upd_tups {K : PySem.W.Frag} {H : Hp} {a : Addr} {o o' : HO} (ha : H a = some o) (n : NoTup o) : TupLe K H (upd H a o') := fun _ _ h => sqT_upd ha n h
theorem ss_app {i : Nat} {x : Str} {p apos cpos : Pos} {e : Expr} (hv : PE X (.Name x p) (tVar i)) (he : SE X EX C e f)
    (hs : swapsWith (.Call (.Attribute (.Name x p) "append" apos) [e] [] cpos) none pos.line X.env = pure false := by rfl)
    (hbase : attributeBase (.Name x p) "append" X.env (eval (.Name x p) X.env) = eval (.Name x p) X.env := by rfl)
    (hfew : ((backTo cpos (starEach [e] X.env)).all (fun x => !x.1) && (backToKw cpos (keywordEach [] X.env)).all (fun x => x.1.isSome)
      && decide (([e] : List Expr).length + ([] : List Keyword).length + (if ([] : List Keyword).isEmpty then 0 else 1) < 30)) = true := by rfl)
    (hline : (apos.endLine == cpos.line) = true := by rfl) (h1 : starEach [e] X.env = (false, eval e X.env) :: starEach [] X.env := by rfl) (hpl : (backTo cpos (starEach [] X.env)).any (·.1) = false := by rfl) :
    SS X EX C (.Expr (.Call (.Attribute (.Name x p) "append" apos) [e] [] cpos) pos) (appO i f) := by
  obtain ⟨te, pe, qe⟩ := he
  refine ⟨_, ps_expr (pe_bm PySem.F.plainAttrs_list PySem.F.slot_list_append PySem.F.type_list_append mt_append hv (pa_cons pe pa_nil h1) hbase hfew hline h1 hpl) hs, fun F σ H ρ D er w => ?_⟩
  unfold appO at w
  split at w
  · rename_i xs h
    obtain ⟨v, g1, g2, _⟩ := er.slot _ _ _ h
    obtain ⟨a, us, rfl, hF, ha, ra⟩ := g2 rfl
    refine ⟨.ref a, g1, .inl ⟨rfl, us, SqL.of ha⟩, ?_⟩
    refine qe F σ H ρ _ er ((WS.bind w er.same).imp fun d _ k u H1 s1 r1 => ?_)
    cases d with
    | t x =>
      have k : WS X.K EX C F H D (if xs.length < 16777216 then .ok (.nx (ρ.set i (.d (.lst (xs ++ [x])) true))) else .stuck) := k
      split at k
      · rename_i hz
        refine ⟨a, us, u, rfl, rfl, s1 _ _ ha, by rw [ra.length, sizeLine_eq]; exact hz, ?_⟩
        exact k F σ _ (Same.refl F) ((Same.tups s1).trans (upd_tups (s1 _ _ ha) trivial)) ((er.mono s1).wrote h (fun z e => by cases e) g1 hF (s1 _ _ ha) trivial (RN.lstApp hF (s1 _ _ ha) (ra.same s1) r1))
      · exact k.elim
    | _ => exact k.elim
  · exact w.elim
/-- x.extend(e) -/
def extO (i : Nat) (f : Ev → R D) (ρ : Ev) : R Out := match ρ[i]? with
  | some (.d (.lst xs) true) => f ρ >>= fun d => match d with
    | .lst ys => if xs.length + ys.length ≤ 16777216 then .ok (.nx (ρ.set i (.d (.lst (xs ++ ys)) true))) else .stuck
    | _ => .stuck
  | _ => .stuck
theorem ss_ext {i : Nat} {x : Str} {p apos cpos : Pos} {e : Expr} (hv : PE X (.Name x p) (tVar i)) (he : SE X EX C e f)
    (hs : swapsWith (.Call (.Attribute (.Name x p) "extend" apos) [e] [] cpos) none pos.line X.env = pure false := by rfl)
    (hbase : attributeBase (.Name x p) "extend" X.env (eval (.Name x p) X.env) = eval (.Name x p) X.env := by rfl)
    (hfew : ((backTo cpos (starEach [e] X.env)).all (fun x => !x.1) && (backToKw cpos (keywordEach [] X.env)).all (fun x => x.1.isSome)
      && decide (([e] : List Expr).length + ([] : List Keyword).length + (if ([] : List Keyword).isEmpty then 0 else 1) < 30)) = true := by rfl)
    (hline : (apos.endLine == cpos.line) = true := by rfl) (h1 : starEach [e] X.env = (false, eval e X.env) :: starEach [] X.env := by rfl) (hpl : (backTo cpos (starEach [] X.env)).any (·.1) = false := by rfl) :
    SS X EX C (.Expr (.Call (.Attribute (.Name x p) "extend" apos) [e] [] cpos) pos) (extO i f) := by
  obtain ⟨te, pe, qe⟩ := he
  refine ⟨_, ps_expr (pe_bm PySem.F.plainAttrs_list PySem.F.slot_list_extend PySem.F.type_list_extend mt_extend hv (pa_cons pe pa_nil h1) hbase hfew hline h1 hpl) hs, fun F σ H ρ D er w => ?_⟩
  unfold extO at w
  split at w
  · rename_i xs h
    obtain ⟨v, g1, g2, _⟩ := er.slot _ _ _ h
    obtain ⟨a, us, rfl, hF, ha, ra⟩ := g2 rfl
    refine ⟨.ref a, g1, .inl ⟨rfl, us, SqL.of ha⟩, ?_⟩
    refine qe F σ H ρ _ er ((WS.bind w er.same).imp fun d _ k u H1 s1 r1 => ?_)
    cases d with
    | lst ys =>
      have k : WS X.K EX C F H D (if xs.length + ys.length ≤ 16777216 then .ok (.nx (ρ.set i (.d (.lst (xs ++ ys)) true))) else .stuck) := k
      obtain ⟨b, ws, rfl, hb, rb⟩ := r1
      split at k
      · rename_i hz
        refine ⟨a, b, us, ws, rfl, rfl, s1 _ _ ha, hb, by rw [ra.length, rb.length, sizeLine_eq]; exact hz, ?_⟩
        exact k F σ _ (Same.refl F) ((Same.tups s1).trans (upd_tups (s1 _ _ ha) trivial)) ((er.mono s1).wrote h (fun z e => by cases e) g1 hF (s1 _ _ ha) trivial ⟨a, _, rfl, hF, upd_same, ((ra.same s1).append rb).upd (s1 _ _ ha) trivial⟩)
      · exact k.elim
    | _ => exact k.elim
  · exact w.elim
/-- d[k] = v, k a text, v an int -/
def putL (kvs : List (Str × Int)) (k : Str) (v : Int) : List (Str × Int) := if kvs.any (fun p => decide (p.1 = k)) then kvs.map fun p => if p.1 = k then (p.1, v) else p else kvs ++ [(k, v)]
theorem putK_dK (kvs : List (Str × Int)) (k : Str) (v : Int) : putK (dK kvs) (Sum.inr k) (V.int v) = dK (putL kvs k v) := by
  unfold putK putL
  have e : ((dK kvs).any fun kv => decide (kv.1 = (Sum.inr k : Key))) = kvs.any fun p => decide (p.1 = k) := by
    unfold dK
    rw [List.any_map]
    congr 1
    funext p
    simp
  rw [e]
  split
  · unfold dK
    rw [List.map_map, List.map_map]
    congr 1
    funext p
    by_cases h : p.1 = k <;> simp [h]
  · unfold dK; rw [List.map_append]; rfl
def dputO (i : Nat) (fk fv : Ev → R D) (ρ : Ev) : R Out := fv ρ >>= fun v => match ρ[i]? with
  | some (.d (.dct kvs) true) => fk ρ >>= fun k => match k, v with
    | .t (.str k), .t (.int v) => if kvs.length < 16777216 then .ok (.nx (ρ.set i (.d (.dct (putL kvs k v)) true))) else .stuck
    | _, _ => .stuck
  | _ => .stuck
theorem ss_dput {i : Nat} {x : Str} {p pos' : Pos} {ek ev : Expr} (hu : X.A.units + 1 < cLine) (hv : PE X (.Name x p) (tVar i)) (hk : SE X EX C ek f) (he : SE X EX C ev g)
    (hs : swapsWith ev (some (.Subscript (.Name x p) ek pos')) pos.line X.env = pure false := by rfl) : SS X EX C (.Assign [.Subscript (.Name x p) ek pos'] ev pos) (dputO i f g) := by
  obtain ⟨tk, pk, qk⟩ := hk
  obtain ⟨te, pe, qe⟩ := he
  refine ⟨_, ps_dput hu hv pk pe hs, fun F σ H ρ D er w => ?_⟩
  refine qe F σ H ρ _ er ((WS.bind w er.same).imp fun d _ k u H1 s1 r1 => ?_)
  split at k
  · rename_i kvs h
    have er1 := er.mono s1
    obtain ⟨v, g1, g2, _⟩ := er1.slot _ _ _ h
    obtain ⟨a, rfl, hF, ha⟩ := g2 rfl
    refine ⟨.ref a, g1, ?_⟩
    refine qk F σ H1 ρ _ er1 ((WS.bind (k.grow (Same.refl F) (Same.tups s1)) er1.same).imp fun dk _ k2 vk H2 s2 r2 => ?_)
    split at k2
    · rename_i key val _ _
      split at k2
      · rename_i hz
        have r1' := rt_int (r1.same s2)
        have r2' := rt_str r2
        subst r1' r2'
        have hl : (dK kvs).length < sizeLine := by unfold dK; rw [List.length_map, sizeLine_eq]; exact hz
        have hp := DPut.k (k := Sum.inr key) (v := V.int val) (s2 _ _ ha) hl
        rw [putK_dK] at hp
        refine ⟨a, _, rfl, hp, ?_⟩
        exact k2 F σ _ (Same.refl F) ((Same.tups s2).trans (upd_tups (s2 _ _ ha) trivial)) ((er1.mono s2).wrote h (fun z e => by cases e) g1 hF (s2 _ _ ha) trivial ⟨a, rfl, hF, upd_same⟩)
      · exact k2.elim
    · exact k2.elim
  · exact k.elim
/-- d.pop(k) -/
def dropL (kvs : List (Str × Int)) (k : Str) : List (Str × Int) := kvs.filter fun p => decide (p.1 ≠ k)
theorem dropK_dK (kvs : List (Str × Int)) (k : Str) : dropK (dK kvs) (Sum.inr k) = dK (dropL kvs k) := by
  unfold dropK dropL dK
  rw [List.filter_map]
  congr 1
  congr 1
  funext p
  simp
def popO (i : Nat) (fk : Ev → R D) (ρ : Ev) : R Out := match ρ[i]? with
  | some (.d (.dct kvs) true) => fk ρ >>= fun k => match k with
    | .t (.str k) => if (kvs.find? fun q => decide (q.1 = k)).isSome then .ok (.nx (ρ.set i (.d (.dct (dropL kvs k)) true))) else .stuck
    | _ => .stuck
  | _ => .stuck
theorem ss_pop {i : Nat} {x : Str} {p apos cpos : Pos} {ek : Expr} (hv : PE X (.Name x p) (tVar i)) (hk : SE X EX C ek f) (m : M1 X (.Name x p) "pop" apos ek cpos := by exact ⟨rfl, rfl, rfl, rfl⟩)
    (hs : swapsWith (.Call (.Attribute (.Name x p) "pop" apos) [ek] [] cpos) none pos.line X.env = pure false := by rfl) : SS X EX C (.Expr (.Call (.Attribute (.Name x p) "pop" apos) [ek] [] cpos) pos) (popO i f) := by
  obtain ⟨tk, pk, qk⟩ := hk
  refine ⟨_, ps_expr (pe_dpop1 hv pk m) hs, fun F σ H ρ D er w => ?_⟩
  unfold popO at w
  split at w
  · rename_i kvs h
    obtain ⟨v, g1, g2, _⟩ := er.slot _ _ _ h
    obtain ⟨a, rfl, hF, ha⟩ := g2 rfl
    refine ⟨.ref a, g1, a, rfl, .inl ⟨_, .inl ha⟩, ?_⟩
    refine qk F σ H ρ _ er ((WS.bind w er.same).imp fun dk _ k u H1 s1 r1 => ?_)
    split at k
    · rename_i key _
      split at k
      · rename_i hz
        rw [rt_str r1]
        obtain ⟨q, hq⟩ := Option.isSome_iff_exists.mp hz
        refine ⟨_, Sum.inr key, V.int q.2, s1 _ _ ha, rfl, by rw [valV_dK, hq]; rfl, ?_⟩
        rw [dropK_dK]
        exact k F σ _ (Same.refl F) ((Same.tups s1).trans (upd_tups (s1 _ _ ha) trivial)) ((er.mono s1).wrote h (fun z e => by cases e) g1 hF (s1 _ _ ha) trivial ⟨a, rfl, hF, upd_same⟩)
      · exact k.elim
    · exact k.elim
  · exact w.elim
/-- a, b = e: a tuple's items to names -/
def gNames : List Nat → List T → Ev → R Ev
  | [], [], ρ => .ok ρ
  | i :: is, x :: xs, ρ => gNames is xs (ρ.set i (.d (.t x) true))
  | _, _, _ => .stuck
def unpO (is : List Nat) (f : Ev → R D) (ρ : Ev) : R Out := f ρ >>= fun d => match d with
  | .t (.tup xs) => gNames is xs ρ >>= fun ρ' => .ok (.nx ρ')
  | _ => .stuck
def gList : List Nat → TGs
  | [] => gNil
  | i :: is => gCons (gName i) (gList is)
theorem gl_ok {K : PySem.W.Frag} {F H : Hp} {Q : St → Hp → Prop} : ∀ {is : List Nat} {xs : List T} {vs : List V} {σ : St} {ρ ρ' : Ev}, gNames is xs ρ = .ok ρ' → RTs K H xs vs → ER K F σ H ρ → (∀ σ', ER K F σ' H ρ' → Q σ' H) → gList is vs σ H Q
  | [], [], vs, σ, ρ, ρ', h, r, er, q => by cases h; rw [r.unnil]; exact ⟨rfl, q σ er⟩
  | i :: is, x :: xs, vs, σ, ρ, ρ', h, r, er, q => by
    obtain ⟨v, ws, rfl, r1, rs⟩ := r.uncons
    exact ⟨v, ws, rfl, gl_ok (is := is) h rs (er.store (x := .t x) (Same.refl H) r1) q⟩
  | [], _ :: _, vs, σ, ρ, ρ', h, r, er, q => by cases h
  | _ :: _, [], vs, σ, ρ, ρ', h, r, er, q => by cases h
theorem gNames_len : ∀ {is : List Nat} {xs : List T} {ρ ρ' : Ev}, gNames is xs ρ = .ok ρ' → xs.length = is.length
  | [], [], _, _, _ => rfl
  | i :: is, x :: xs, ρ, ρ', h => by
    have := gNames_len (is := is) (xs := xs) h
    simp [this]
  | [], _ :: _, _, _, h => by cases h
  | _ :: _, [], _, _, h => by cases h
theorem gNames_nr {c : Nat} : ∀ {is : List Nat} {xs : List T} {ρ : Ev}, gNames is xs ρ = .raise c → False
  | [], [], _, h => by cases h
  | i :: is, x :: xs, ρ, h => gNames_nr (is := is) (xs := xs) h
  | [], _ :: _, _, h => by cases h
  | _ :: _, [], _, h => by cases h
theorem ss_unp {is : List Nat} {es : List Expr} {e : Expr} {k : Nat} {p1 : Pos} (hc : X.calm = true) (he : SE X EX C e f) (hg : PG X (.Tuple es k p1) (gTup X.K is.length (gList is)))
    (hs : swapsWithSole [.Tuple es k p1] e pos.line X.env = pure false := by rfl) (hw : swappedStores [.Tuple es k p1] e X.env = pure none := by rfl) :
    SS X EX C (.Assign [.Tuple es k p1] e pos) (unpO is f) := by
  obtain ⟨te, pe, qe⟩ := he
  refine ⟨_, ps_asg pe hg hs hw, fun F σ H ρ D er w => ?_⟩
  refine qe F σ H ρ _ er ((WS.bind w er.same).imp fun d _ k v H1 s1 r1 => ?_)
  cases d with
  | t x =>
    cases x with
    | tup xs =>
      obtain ⟨a, vs, rfl, ha, ra⟩ := rt_tup r1
      have k : WS X.K EX C F H D (gNames is xs ρ >>= fun ρ' => .ok (.nx ρ')) := k
      cases e2 : gNames is xs ρ with
      | ok ρ' =>
        rw [e2] at k
        refine ⟨a, vs, rfl, ha, by rw [ra.length, gNames_len e2], ?_⟩
        exact gl_ok (F := F) e2 ra (er.mono s1) fun σ' er' => k F σ' H1 (Same.refl F) (Same.tups s1) er'
      | raise c => exact (gNames_nr e2).elim
      | stuck => rw [e2] at k; exact k.elim
    | _ => exact k.elim
  | _ => exact k.elim
/-- a, b = x, y -/
def parO (i j : Nat) (f : Ev → R (List D)) (ρ : Ev) : R Out := f ρ >>= fun ds => match ds with
  | [.t x, .t y] => .ok (.nx ((ρ.set i (.d (.t x) true)).set j (.d (.t y) true)))
  | _ => .stuck

/-! ### for -/
def forR (j : Nat) (body : Ev → R Out) : List T → Ev → R Out
  | [], ρ => .ok (.nx ρ)
  | x :: xs, ρ => body (ρ.set j (.d (.t x) true)) >>= fun o => match o with
    | .nx ρ' => forR j body xs ρ'
    | .ct ρ' => forR j body xs ρ'
    | .bk ρ' => .ok (.nx ρ')
    | .rt d => .ok (.rt d)
/-- what stands at turn i -/
def Pf (K : PySem.W.Frag) (EX : XK) (C : Nat → Addr) (F1 H1 : Hp) (D : Ends) (j : Nat) (body : Ev → R Out) (items : List T) (i : Nat) (σ : St) (H : Hp) : Prop :=
  ∃ F ρ, Same F1 F ∧ TupLe K H1 H ∧ ER K F σ H ρ ∧ WS K EX C F H D (forR j body (items.drop i) ρ)
theorem pf_turn {j : Nat} {body : Ev → R Out} {tb : TS} (hb : ∀ F σ H ρ D, ER X.K F σ H ρ → WS X.K EX C F H D (body ρ) → tb D σ H) {F1 H1 : Hp} {D : Ends} {items : List T} {i : Nat} {σ : St} {H : Hp} {x : T} {v : V}
    (p : Pf X.K EX C F1 H1 D j body items i σ H) (hx : items[i]? = some x) (rv : RT X.K H x v) :
    tb { D with nx := Pf X.K EX C F1 H1 D j body items (i + 1), ct := Pf X.K EX C F1 H1 D j body items (i + 1), bk := D.nx } (σ.set j (some v)) H := by
  obtain ⟨F, ρ, e1, e2, er, w⟩ := p
  have hlt : i < items.length := (List.getElem?_eq_some_iff.mp hx).1
  have hd : items.drop i = x :: items.drop (i + 1) := by
    rw [List.drop_eq_getElem_cons hlt]
    congr 1
    have := List.getElem?_eq_getElem hlt
    rw [this] at hx
    exact Option.some.inj hx
  rw [hd] at w
  refine hb F _ H _ _ (er.store (x := .t x) (Same.refl H) rv) ?_
  unfold forR at w
  cases e : body (ρ.set j (.d (.t x) true)) with
  | ok o =>
    rw [e] at w
    cases o with
    | nx ρ' => exact fun F' σ' H' s' t' er' => ⟨F', ρ', e1.trans s', e2.trans t', er', WS.grow w s' t'⟩
    | ct ρ' => exact fun F' σ' H' s' t' er' => ⟨F', ρ', e1.trans s', e2.trans t', er', WS.grow w s' t'⟩
    | bk ρ' => exact fun F' σ' H' s' t' er' => w F' σ' H' s' t' er'
    | rt d => exact w
  | raise c => rw [e] at w; exact w
  | stuck => rw [e] at w; exact w.elim
theorem pf_end {j : Nat} {body : Ev → R Out} {F1 H1 : Hp} {D : Ends} {items : List T} {i : Nat} {σ : St} {H : Hp} (p : Pf X.K EX C F1 H1 D j body items i σ H) (hi : items.length ≤ i) : D.nx σ H := by
  obtain ⟨F, ρ, e1, e2, er, w⟩ := p
  rw [List.drop_eq_nil_of_le hi] at w
  exact w F σ H (Same.refl F) (TupLe.refl H) er
/-- over a tuple -/
@[simp] def forTO (j : Nat) (f : Ev → R D) (body : Ev → R Out) (ρ : Ev) : R Out := f ρ >>= fun d => match d with
  | .t (.tup xs) => forR j body xs ρ
  | _ => .stuck
theorem ss_forT {j : Nat} {tg e : Expr} {sts : List Stmt} {body : Ev → R Out} (hp : PassesOwn (model X.prog X.w) X.A X.env X.xe) (hc : X.calm = true) (he : SE X EX C e f) (hg : PG X tg (gName j)) (hb : SB X EX C sts body)
    (hs : ∀ x, foldedSetIterable e X.env x = pure x := by intro _; rfl) : SS X EX C (.For tg e sts [] pos) (forTO j f body) := by
  obtain ⟨te, pe, qe⟩ := he
  obtain ⟨tb, pb, qb⟩ := hb
  refine ⟨_, ps_for hp hc (pi_tup pe) hg pb hs, fun F σ H ρ D er w => ?_⟩
  refine qe F σ H ρ _ er ((WS.bind w er.same).imp fun d _ k v H1 s1 r1 => ?_)
  cases d with
  | t x =>
    cases x with
    | tup xs =>
      obtain ⟨a, vs, rfl, ha, ra⟩ := rt_tup r1
      refine ⟨a, rfl, ⟨vs, ha⟩, ?_⟩
      refine for_tup (xs := vs) (Pf X.K EX C F H1 D j body xs) ⟨F, ρ, Same.refl F, TupLe.refl H1, er.mono s1, WS.grow k (Same.refl F) (Same.tups s1)⟩ (fun i σ' H' _ p => ?_) (fun i u σ' H' hu p => ?_) (fun σ' H' p => pf_end p (by rw [ra.length]; exact Nat.le_refl _))
      · obtain ⟨_, _, _, t, _⟩ := p
        exact t a vs ha
      · obtain ⟨y, hy, ry⟩ := ra.getV hu
        have t : TupLe X.K H1 H' := by obtain ⟨_, _, _, t, _⟩ := p; exact t
        exact pf_turn qb p hy (RT.mono t y u ry)
    | _ => exact k.elim
  | _ => exact k.elim
/-- a list stands still for a loop -/
theorem ER.freeze {K : PySem.W.Frag} {F H : Hp} {σ : St} {ρ : Ev} {a : Addr} {o : HO} (er : ER K F σ H ρ) (ha : H a = some o) (n : ∀ (i : Nat) x, ρ[i]? = some (.d x true) → (∀ z, x ≠ .t z) → σ[i]? = some (some (.ref a)) → False) : ER K (upd F a o) σ H ρ := by
  refine ⟨fun b u q => ?_, fun i x ow h => ?_, er.apart, er.len, er.raw⟩
  · by_cases hb : b = a
    · subst hb; rw [upd_same] at q; cases q; exact ha
    · rw [upd_ne hb] at q; exact er.same b u q
  · obtain ⟨v, h1, h2, h3⟩ := er.slot i x ow h
    refine ⟨v, h1, fun e => ?_, fun e => (h3 e).grow fun b u q => ?_⟩
    · subst e
      have r := h2 rfl
      cases x with
      | t z => exact r
      | lst ds =>
        obtain ⟨b, xs, rfl, g1, g2, g3⟩ := r
        refine ⟨b, xs, rfl, ?_, g2, g3⟩
        rw [upd_ne (fun e => n i _ h (fun z q => by cases q) (by rw [h1, e]))]; exact g1
      | dct kvs =>
        obtain ⟨b, rfl, g1, g2⟩ := r
        refine ⟨b, rfl, ?_, g2⟩
        rw [upd_ne (fun e => n i _ h (fun z q => by cases q) (by rw [h1, e]))]; exact g1
      | scr ns => exact r
      | sn w ts =>
        obtain ⟨b, xs, rfl, g1, g2, g3⟩ := r
        refine ⟨b, xs, rfl, ?_, g2, g3⟩
        rw [upd_ne (fun e => n i _ h (fun z q => by cases q) (by rw [h1, e]))]; exact g1
    · by_cases hb : b = a
      · subst hb
        have q2 := er.same b u q
        rw [ha] at q2; cases q2
        exact upd_same
      · rw [upd_ne hb]; exact q
/-- a slot of a list becomes one that only is read -/
theorem ER.frozen {K : PySem.W.Frag} {F H : Hp} {σ : St} {ρ : Ev} {i : Nat} {x : D} {a : Addr} {o : HO} (er : ER K F σ H ρ) (h : ρ[i]? = some (.d x true)) (nx : ∀ z, x ≠ .t z) (hv : σ[i]? = some (some (.ref a))) (ha : H a = some o) (r : RP K (upd F a o) H x (.ref a)) :
    ER K (upd F a o) σ H (ρ.set i (.d x false)) := by
  have hi : i < ρ.length := (List.getElem?_eq_some_iff.mp h).1
  have er0 : ER K F σ H (ρ.set i .un) := by
    refine ⟨er.same, fun j y ow hj => ?_, fun j k y z b h1 h2 n1 n2 g1 g2 => ?_, by simpa using er.len, raw_same er.raw (fun v e => by cases e)⟩
    · by_cases hij : i = j
      · subst hij; rw [List.getElem?_set_self hi] at hj; cases hj
      · rw [List.getElem?_set_ne hij] at hj; exact er.slot j y ow hj
    · by_cases hij : i = j
      · subst hij; rw [List.getElem?_set_self hi] at h1; cases h1
      · by_cases hik : i = k
        · subst hik; rw [List.getElem?_set_self hi] at h2; cases h2
        · rw [List.getElem?_set_ne hij] at h1; rw [List.getElem?_set_ne hik] at h2
          exact er.apart j k y z b h1 h2 n1 n2 g1 g2
  have er1 := er0.freeze ha (fun j y hj ny gj => by
    by_cases hij : i = j
    · subst hij; rw [List.getElem?_set_self hi] at hj; cases hj
    · rw [List.getElem?_set_ne hij] at hj
      exact hij (er.apart i j x y a h hj nx ny hv gj))
  refine ⟨er1.same, fun j y ow hj => ?_, fun j k y z b h1 h2 n1 n2 g1 g2 => ?_, by simpa using er.len, raw_same er.raw (fun v e => by cases e)⟩
  · by_cases hij : i = j
    · subst hij; rw [List.getElem?_set_self hi] at hj; cases hj
      exact ⟨.ref a, hv, fun e => by (cases e), fun _ => r⟩
    · rw [List.getElem?_set_ne hij] at hj
      exact er1.slot j y ow (by rw [List.getElem?_set_ne hij]; exact hj)
  · by_cases hij : i = j
    · subst hij; rw [List.getElem?_set_self hi] at h1; cases h1
    · by_cases hik : i = k
      · subst hik; rw [List.getElem?_set_self hi] at h2; cases h2
      · exact er1.apart j k y z b (by rw [List.getElem?_set_ne hij] at h1 ⊢; exact h1) (by rw [List.getElem?_set_ne hik] at h2 ⊢; exact h2) n1 n2 g1 g2
/-- over a new list -/
@[simp] def forLO (j : Nat) (f : Ev → R D) (body : Ev → R Out) (ρ : Ev) : R Out := f ρ >>= fun d => match d with
  | .lst xs => forR j body xs ρ
  | _ => .stuck
theorem for_frozen {j : Nat} {body : Ev → R Out} {tb : TS} (hb : ∀ F σ H ρ D, ER X.K F σ H ρ → WS X.K EX C F H D (body ρ) → tb D σ H) {F H1 : Hp} {D : Ends} {xs : List T} {vs : List V} {σ : St} {ρ : Ev} {a : Addr}
    (er : ER X.K F σ H1 ρ) (hF : F a = some (.lst vs)) (ra : RTs X.K H1 xs vs) (w : WS X.K EX C F H1 D (forR j body xs ρ)) :
    ∃ W : Nat → Nat → St → Hp → Prop, (∃ m, W 0 m σ H1) ∧ ∀ i m σ H, W i m σ H →
      ((Itl X.K a).stop i H ∧ D.nx σ H) ∨ ((Itl X.K a).go i H ∧ ∃ N : St → Hp → Prop, (∀ σ' H', N σ' H' → ∃ m', m' < m ∧ W (i + 1) m' σ' H') ∧ ∀ x H', (Itl X.K a).yld i H x H' → gName j x σ H' fun σ2 H2 => tb { D with nx := N, ct := N, bk := D.nx } σ2 H2) := by
  refine for_list (xs := vs) (Pf X.K EX C F H1 D j body xs) ⟨F, ρ, Same.refl F, TupLe.refl H1, er, w⟩ (fun i σ' H' _ p => ?_) (fun i u σ' H' hu p => ?_) (fun σ' H' p => pf_end p (by rw [ra.length]; exact Nat.le_refl _))
  · obtain ⟨F', _, s, _, er', _⟩ := p
    exact SqL.of (er'.same _ _ (s _ _ hF))
  · obtain ⟨y, hy, ry⟩ := ra.getV hu
    have t : TupLe X.K H1 H' := by obtain ⟨_, _, _, t, _⟩ := p; exact t
    exact pf_turn hb p hy (RT.mono t y u ry)
theorem ss_forL {j : Nat} {tg e : Expr} {sts : List Stmt} {body : Ev → R Out} (hp : PassesOwn (model X.prog X.w) X.A X.env X.xe) (hc : X.calm = true) (he : SN X EX C e f) (hg : PG X tg (gName j)) (hb : SB X EX C sts body)
    (hs : ∀ x, foldedSetIterable e X.env x = pure x := by intro _; rfl) : SS X EX C (.For tg e sts [] pos) (forLO j f body) := by
  obtain ⟨te, pe, qe⟩ := he
  obtain ⟨tb, pb, qb⟩ := hb
  refine ⟨_, ps_for hp hc (pi_list pe) hg pb hs, fun F σ H ρ D er w => ?_⟩
  refine qe F σ H ρ _ er ((WS.bind w er.same).imp fun d _ k v H1 s1 r1 => ?_)
  cases d with
  | lst xs =>
    obtain ⟨a, vs, rfl, hn, ha, ra⟩ := r1
    refine ⟨a, rfl, ⟨vs, SqL.of ha⟩, ?_⟩
    have er1 := er.mono s1
    have hFn : F a = none := er.same.free hn
    have er2 : ER X.K (upd F a (.lst vs)) σ H1 ρ := er1.freeze ha fun i x h nx g => by
      obtain ⟨v, q1, q2, _⟩ := er.slot i x true h
      rw [g] at q1; cases q1
      have r := q2 rfl
      cases x with
      | t z => exact nx z rfl
      | lst ds => obtain ⟨b, _, e1, _, e2, _⟩ := r; cases e1; rw [hn] at e2; cases e2
      | dct ds => obtain ⟨b, e1, _, e2⟩ := r; cases e1; rw [hn] at e2; cases e2
      | scr ns => exact r
      | sn w ts => obtain ⟨b, _, e1, _, e2, _⟩ := r; cases e1; rw [hn] at e2; cases e2
    exact for_frozen qb er2 upd_same ra (WS.grow k (same_new hFn _) (Same.tups s1))
  | _ => exact k.elim
/-- over a list that a name holds -/
def forNO (j i : Nat) (body : Ev → R Out) (ρ : Ev) : R Out := match ρ[i]? with
  | some (.d (.lst xs) _) => forR j body xs (ρ.set i (.d (.lst xs) false))
  | _ => .stuck
theorem ss_forN {j i : Nat} {tg : Expr} {x : Str} {p : Pos} {sts : List Stmt} {body : Ev → R Out} (hp : PassesOwn (model X.prog X.w) X.A X.env X.xe) (hc : X.calm = true) (hv : PE X (.Name x p) (tVar i)) (hg : PG X tg (gName j)) (hb : SB X EX C sts body)
    (hs : ∀ y, foldedSetIterable (.Name x p) X.env y = pure y := by intro _; rfl) : SS X EX C (.For tg (.Name x p) sts [] pos) (forNO j i body) := by
  obtain ⟨tb, pb, qb⟩ := hb
  refine ⟨_, ps_for hp hc (pi_list hv) hg pb hs, fun F σ H ρ D er w => ?_⟩
  unfold forNO at w
  split at w
  · rename_i xs ow h
    obtain ⟨v, g1, g2, g3⟩ := er.slot _ _ _ h
    cases ow with
    | true =>
      obtain ⟨a, vs, rfl, hF, ha, ra⟩ := g2 rfl
      refine ⟨.ref a, g1, a, rfl, ⟨vs, SqL.of ha⟩, ?_⟩
      have er2 := er.frozen h (fun z e => by cases e) g1 ha (show RP X.K (upd F a (.lst vs)) H (.lst xs) (.ref a) from ⟨a, vs, rfl, upd_same, ra⟩)
      exact for_frozen qb er2 upd_same ra (WS.grow w (same_new hF _) (TupLe.refl H))
    | false =>
      obtain ⟨a, vs, rfl, hF, ra⟩ := g3 rfl
      refine ⟨.ref a, g1, a, rfl, ⟨vs, SqL.of (er.same _ _ hF)⟩, ?_⟩
      have e : ρ.set i (.d (.lst xs) false) = ρ := by
        apply List.ext_getElem?
        intro k
        by_cases hk : i = k
        · subst hk; rw [List.getElem?_set_self (List.getElem?_eq_some_iff.mp h).1, h]
        · rw [List.getElem?_set_ne hk]
      rw [e] at w
      exact for_frozen qb er hF ra w
  · exact w.elim
/-- over a range -/
def rngT (lo : Int) (n : Nat) : List T := (List.range n).map fun k => T.int (lo + (k : Nat))
theorem rngT_get {lo : Int} {n i : Nat} (h : i < n) : (rngT lo n)[i]? = some (.int (lo + (i : Nat))) := by
  unfold rngT
  rw [List.getElem?_map, List.getElem?_range h]; rfl
theorem rngT_len (lo : Int) (n : Nat) : (rngT lo n).length = n := by unfold rngT; simp
theorem for_rng {j : Nat} {body : Ev → R Out} {tb : TS} (hb : ∀ F σ H ρ D, ER X.K F σ H ρ → WS X.K EX C F H D (body ρ) → tb D σ H) {F H1 : Hp} {D : Ends} {lo : Int} {n : Nat} {σ : St} {ρ : Ev}
    (er : ER X.K F σ H1 ρ) (w : WS X.K EX C F H1 D (forR j body (rngT lo n) ρ)) :
    ∃ W : Nat → Nat → St → Hp → Prop, (∃ m, W 0 m σ H1) ∧ ∀ i m σ H, W i m σ H →
      ((Itr lo n).stop i H ∧ D.nx σ H) ∨ ((Itr lo n).go i H ∧ ∃ N : St → Hp → Prop, (∀ σ' H', N σ' H' → ∃ m', m' < m ∧ W (i + 1) m' σ' H') ∧ ∀ x H', (Itr lo n).yld i H x H' → gName j x σ H' fun σ2 H2 => tb { D with nx := N, ct := N, bk := D.nx } σ2 H2) := by
  refine for_range (lo := lo) (n := n) (Pf X.K EX C F H1 D j body (rngT lo n)) ⟨F, ρ, Same.refl F, TupLe.refl H1, er, w⟩ (fun i σ' H' hi p => ?_) (fun σ' H' p => pf_end p (by rw [rngT_len]; exact Nat.le_refl _))
  exact pf_turn hb p (rngT_get hi) (by unfold RT; rfl)
def rng1 : List D → R (Int × Nat)
  | [.t (.int n)] => if n.natAbs < 4611686018427387904 then .ok (0, n.toNat) else .stuck
  | _ => .stuck
def rng2 : List D → R (Int × Nat)
  | [.t (.int m), .t (.int n)] => if m.natAbs < 4611686018427387904 ∧ n.natAbs < 4611686018427387904 then .ok (m, (n - m).toNat) else .stuck
  | _ => .stuck
@[simp] def forRO (j : Nat) (f : Ev → R (List D)) (rg : List D → R (Int × Nat)) (body : Ev → R Out) (ρ : Ev) : R Out := f ρ >>= rg >>= fun p => forR j body (rngT p.1 p.2) ρ
theorem rng1_ok {K : PySem.W.Frag} {H : Hp} {ds : List D} {vs : List V} {k : Int × Nat → Prop} (r : RDs K H ds vs) (w : Wp EX C H (rng1 ds) k) : ∃ n : Int, vs = [.int n] ∧ -(2 ^ 62) ≤ n ∧ n < 2 ^ 62 ∧ k (0, n.toNat) := by
  unfold rng1 at w
  split at w
  · split at w
    · rename_i n hz
      obtain ⟨v, rfl, h⟩ := rd1 r
      rw [rt_int h]
      exact ⟨n, rfl, by omega, by omega, w⟩
    · exact w.elim
  · exact w.elim
theorem rng2_ok {K : PySem.W.Frag} {H : Hp} {ds : List D} {vs : List V} {k : Int × Nat → Prop} (r : RDs K H ds vs) (w : Wp EX C H (rng2 ds) k) : ∃ m n : Int, vs = [.int m, .int n] ∧ (-(2 ^ 62) ≤ m ∧ m < 2 ^ 62 ∧ -(2 ^ 62) ≤ n ∧ n < 2 ^ 62) ∧ k (m, (n - m).toNat) := by
  unfold rng2 at w
  split at w
  · split at w
    · rename_i m n hz
      obtain ⟨v, u, rfl, h1, h2⟩ := rd2 r
      rw [rt_int h1, rt_int h2]
      exact ⟨m, n, rfl, by omega, w⟩
    · exact w.elim
  · exact w.elim
theorem ss_forR1 {j : Nat} {tg e : Expr} {h : Ev → R (List D)} {sts : List Stmt} {body : Ev → R Out} {p cpos : Pos} (hp : PassesOwn (model X.prog X.w) X.A X.env X.xe) (hc : X.calm = true) (hm : X.mg "range" = none) (he : SA X EX C [e] h) (hg : PG X tg (gName j)) (hb : SB X EX C sts body)
    (hgl : Gl X "range" := by rfl) (h1 : starEach [e] X.env = [(false, eval e X.env)] := by rfl)
    (hs : ∀ x, foldedSetIterable (.Call (.Name "range" p) [e] [] cpos) X.env x = pure x := by intro _; rfl) : SS X EX C (.For tg (.Call (.Name "range" p) [e] [] cpos) sts [] pos) (forRO j h rng1 body) := by
  obtain ⟨⟨te, pe, qe⟩, _⟩ := he
  obtain ⟨tb, pb, qb⟩ := hb
  refine ⟨_, ps_for hp hc (pi_range1 hgl hm pe h1) hg pb hs, fun F σ H ρ D er w => ?_⟩
  unfold forRO at w
  have w1 := WS.bind w er.same
  refine qe F σ H ρ _ er ((Wp.bind w1).imp fun ds _ k vs H1 s1 r1 => ?_)
  obtain ⟨n, rfl, g1, g2, k⟩ := rng1_ok r1 (Wp.mono k s1 fun _ _ q => q)
  exact ⟨n, rfl, g1, g2, for_rng qb (er.mono s1) (WS.grow k (Same.refl F) (Same.tups s1))⟩
theorem ss_forR2 {j : Nat} {tg e e2 : Expr} {h : Ev → R (List D)} {sts : List Stmt} {body : Ev → R Out} {p cpos : Pos} (hp : PassesOwn (model X.prog X.w) X.A X.env X.xe) (hc : X.calm = true) (hm : X.mg "range" = none) (he : SA X EX C [e, e2] h) (hg : PG X tg (gName j)) (hb : SB X EX C sts body)
    (hgl : Gl X "range" := by rfl) (h1 : starEach [e, e2] X.env = [(false, eval e X.env), (false, eval e2 X.env)] := by rfl) (h2 : starEach [e2] X.env = [(false, eval e2 X.env)] := by rfl)
    (hs : ∀ x, foldedSetIterable (.Call (.Name "range" p) [e, e2] [] cpos) X.env x = pure x := by intro _; rfl) : SS X EX C (.For tg (.Call (.Name "range" p) [e, e2] [] cpos) sts [] pos) (forRO j h rng2 body) := by
  obtain ⟨⟨te, pe, qe⟩, _⟩ := he
  obtain ⟨tb, pb, qb⟩ := hb
  refine ⟨_, ps_for hp hc (pi_range2 hgl hm pe h1 h2) hg pb hs, fun F σ H ρ D er w => ?_⟩
  unfold forRO at w
  have w1 := WS.bind w er.same
  refine qe F σ H ρ _ er ((Wp.bind w1).imp fun ds _ k vs H1 s1 r1 => ?_)
  obtain ⟨m, n, rfl, g1, k⟩ := rng2_ok r1 (Wp.mono k s1 fun _ _ q => q)
  exact ⟨m, n, rfl, g1, for_rng qb (er.mono s1) (WS.grow k (Same.refl F) (Same.tups s1))⟩
/-! ### while -/
def whR (c : Ev → R Bool) (body : Ev → R Out) : Nat → Ev → R Out
  | 0, _ => .stuck
  | n + 1, ρ => c ρ >>= fun b => if b then body ρ >>= fun o => match o with
      | .nx ρ' => whR c body n ρ'
      | .ct ρ' => whR c body n ρ'
      | .bk ρ' => .ok (.nx ρ')
      | .rt d => .ok (.rt d)
    else .ok (.nx ρ)
theorem ss_while {n : Nat} {e : Expr} {sts : List Stmt} {c : Ev → R Bool} {body : Ev → R Out} (hp : PassesOwn (model X.prog X.w) X.A X.env X.xe) (hc : ST X EX C e c) (hb : SB X EX C sts body) : SS X EX C (.While e sts [] pos) (whR c body n) := by
  obtain ⟨tc, pc, qc⟩ := hc
  obtain ⟨tb, pb, qb⟩ := hb
  refine ⟨_, ps_while hp pc pb, fun F σ H ρ D er w => ?_⟩
  refine ⟨fun m σ' H' => ∃ F' ρ', Same F F' ∧ ER X.K F' σ' H' ρ' ∧ WS X.K EX C F' H' D (whR c body m ρ'), ⟨n, F, ρ, Same.refl F, er, w⟩, ?_⟩
  rintro m σ' H' ⟨F', ρ', e1, er', w'⟩
  cases m with
  | zero => exact w'.elim
  | succ m =>
    unfold whR at w'
    refine qc F' σ' H' ρ' _ er' ((WS.bind w' er'.same).imp fun b _ k H1 s1 => ?_)
    cases b with
    | false =>
      refine iteF ?_
      exact k F' σ' H1 (Same.refl F') (Same.tups s1) (er'.mono s1)
    | true =>
      refine iteT ⟨fun σ2 H2 => ∃ F2 ρ2, Same F F2 ∧ ER X.K F2 σ2 H2 ρ2 ∧ WS X.K EX C F2 H2 D (whR c body m ρ2), fun σ2 H2 q => ⟨m, Nat.lt_succ_self m, q⟩, ?_⟩
      refine qb F' σ' H1 ρ' _ (er'.mono s1) ?_
      have k : WS X.K EX C F' H' D (body ρ' >>= fun o => match o with
        | .nx ρ' => whR c body m ρ'
        | .ct ρ' => whR c body m ρ'
        | .bk ρ' => .ok (.nx ρ')
        | .rt d => .ok (.rt d)) := k
      cases e2 : body ρ' with
      | ok o =>
        rw [e2] at k
        cases o with
        | nx ρ2 => exact fun F2 σ2 H2 s2 t2 er2 => ⟨F2, ρ2, e1.trans s2, er2, WS.grow k s2 ((Same.tups s1).trans t2)⟩
        | ct ρ2 => exact fun F2 σ2 H2 s2 t2 er2 => ⟨F2, ρ2, e1.trans s2, er2, WS.grow k s2 ((Same.tups s1).trans t2)⟩
        | bk ρ2 => exact fun F2 σ2 H2 s2 t2 er2 => k F2 σ2 H2 s2 ((Same.tups s1).trans t2) er2
        | rt d => exact k
      | raise x => rw [e2] at k; exact k
      | stuck => rw [e2] at k; exact k.elim
end
end Pf

set_option Elab.async false
set_option linter.all false
set_option maxRecDepth 100000
set_option maxHeartbeats 2000000
namespace Pf
open PySem L2
section
variable {X : Cx} {EX : XK} {C : Nat → Addr} {a b : Expr} {f g : Ev → R D} {pos : Pos}
/-! ## list comprehensions, one clause, one name -/
def lcR (j : Nat) (c : Ev → R Bool) (el : Ev → R D) (ρ : Ev) : List T → R (List T)
  | [] => .ok []
  | x :: xs => c (ρ.set j (.d (.t x) true)) >>= fun b => if b then el (ρ.set j (.d (.t x) true)) >>= fun d => match d with
      | .t y => lcR j c el ρ xs >>= fun r => .ok (y :: r)
      | _ => .stuck
    else lcR j c el ρ xs
/-- canonical readings: what a block's parts are read as -/
def cN (K : PySem.W.Frag) (EX : XK) (C : Nat → Addr) (f : Ev → R D) : TE := fun σ H Q => ∃ F ρ, ER K F σ H ρ ∧ WN K EX C H (f ρ) Q
theorem SN.can (h : SN X EX C a f) : PE X a (cN X.K EX C f) := by
  obtain ⟨te, p, q⟩ := h
  exact ⟨fun pins s σ H Q I ⟨F, ρ, er, w⟩ => p.run pins s σ H Q I (q F σ H ρ Q er w)⟩
def cT (K : PySem.W.Frag) (EX : XK) (C : Nat → Addr) (f : Ev → R Bool) : TT := fun σ H Q => ∃ F ρ, ER K F σ H ρ ∧ WB EX C H (f ρ) Q
theorem ST.can {f : Ev → R Bool} (h : ST X EX C a f) : PT X a (cT X.K EX C f) := by
  obtain ⟨te, p, q⟩ := h
  exact ⟨fun pins s σ H Q I ⟨F, ρ, er, w⟩ => p.run pins s σ H Q I (q F σ H ρ Q er w)⟩
theorem ER.wipe1 {K : PySem.W.Frag} {F H : Hp} {σ : St} {ρ : Ev} (er : ER K F σ H ρ) (j : Nat) : ER K F (wipe σ [j]) H (ρ.set j .un) := by
  show ER K F (σ.set j none) H (ρ.set j .un)
  have sub : ∀ (i : Nat) x o, (ρ.set j Sl.un)[i]? = some (.d x o) → ρ[i]? = some (.d x o) ∧ j ≠ i := by
    intro i x o h
    by_cases hj : j = i
    · subst hj
      by_cases hl : j < ρ.length
      · rw [List.getElem?_set_self hl] at h; cases h
      · rw [List.getElem?_eq_none (by simpa using hl)] at h; cases h
    · rw [List.getElem?_set_ne hj] at h; exact ⟨h, hj⟩
  refine ⟨er.same, fun i x o h => ?_, fun i k x y a h1 h2 n1 n2 g1 g2 => ?_, by simp [er.len], raw_both er.raw (fun v e => by cases e)⟩
  · obtain ⟨h', hj⟩ := sub i x o h
    obtain ⟨v, q1, q2⟩ := er.slot i x o h'
    exact ⟨v, by rw [List.getElem?_set_ne hj]; exact q1, q2⟩
  · obtain ⟨h1', hj⟩ := sub i x true h1
    obtain ⟨h2', hk⟩ := sub k y true h2
    rw [List.getElem?_set_ne hj] at g1
    rw [List.getElem?_set_ne hk] at g2
    exact er.apart i k x y a h1' h2' n1 n2 g1 g2
theorem wipe_set (σ : St) (j : Nat) (o : Option V) : wipe ((wipe σ [j]).set j o) [j] = wipe σ [j] := by
  show ((σ.set j none).set j o).set j none = σ.set j none
  rw [List.set_set, List.set_set]
/-- the state of a comprehension at turn i -/
def Pc (K : PySem.W.Frag) (C : Nat → Addr) (H1 : Hp) (Dd : Addr) (j : Nat) (c : Ev → R Bool) (el : Ev → R D) (ρ : Ev) (items : List T) (n : Nat) (Q : List T → Prop) (i : Nat) (H : Hp) : Prop :=
  ∃ acc ts, H1 Dd = none ∧ Same H1 H ∧ H Dd = some (.lst acc) ∧ RTs K H ts acc ∧ acc.length ≤ i ∧ Wp E0 C H (lcR j c el ρ (items.drop i)) (fun r => Q (ts ++ r))
theorem pc_turn {K : PySem.W.Frag} {j : Nat} {c : Ev → R Bool} {el : Ev → R D} {F H1 : Hp} {σ : St} {ρ : Ev} (er : ER K F (wipe σ [j]) H1 ρ) {Dd : Addr} {items : List T} {Q : List T → Prop} {i : Nat} {H : Hp} {x : T} {v : V}
    (p : Pc K C H1 Dd j c el ρ items items.length Q i H) (hx : items[i]? = some x) (rv : RT K H x v) (hz : items.length ≤ 16777216) :
    gName j v (wipe σ [j]) H fun σ2 H2 => wipe σ2 [j] = wipe σ [j] ∧ cT K E0 C c σ2 H2 fun b H3 => if b = true then cN K E0 C el σ2 H3 fun y H4 => ∃ acc, H4 Dd = some (.lst acc) ∧ acc.length < sizeLine ∧ Pc K C H1 Dd j c el ρ items items.length Q (i + 1) (upd H4 Dd (.lst (acc ++ [y]))) else Pc K C H1 Dd j c el ρ items items.length Q (i + 1) H3 := by
  obtain ⟨acc, ts, hD, s, hd, ra, hl, w⟩ := p
  have hlt : i < items.length := (List.getElem?_eq_some_iff.mp hx).1
  have hdr : items.drop i = x :: items.drop (i + 1) := by
    rw [List.drop_eq_getElem_cons hlt]
    congr 1
    have := List.getElem?_eq_getElem hlt
    rw [this] at hx
    exact Option.some.inj hx
  rw [hdr] at w
  have er1 : ER K F ((wipe σ [j]).set j (some v)) H (ρ.set j (.d (.t x) true)) := (er.mono s).store (x := .t x) (Same.refl H) rv
  refine ⟨wipe_set σ j (some v), F, _, er1, ?_⟩
  have w' : Wp E0 C H (c (ρ.set j (.d (.t x) true)) >>= fun b => if b then el (ρ.set j (.d (.t x) true)) >>= fun d => match d with
      | .t y => lcR j c el ρ (items.drop (i + 1)) >>= fun r => .ok (y :: r)
      | _ => .stuck
    else lcR j c el ρ (items.drop (i + 1))) (fun r => Q (ts ++ r)) := w
  refine w'.bind.imp fun b _ k H3 s3 => ?_
  cases b with
  | false =>
    refine iteF ⟨acc, ts, hD, s.trans s3, s3 _ _ hd, ra.same s3, Nat.le_succ_of_le hl, Wp.mono k s3 fun _ _ q => q⟩
  | true =>
    refine iteT ⟨F, _, er1.mono s3, ?_⟩
    refine (Wp.bind k).mono s3 fun d _ k2 y H4 s4 r4 => ?_
    cases d with
    | t z =>
      have k2 : Wp E0 C H (lcR j c el ρ (items.drop (i + 1)) >>= fun r => .ok (z :: r)) (fun r => Q (ts ++ r)) := k2
      have hd4 := s4 _ _ (s3 _ _ hd)
      refine ⟨acc, hd4, by rw [sizeLine_eq]; omega, acc ++ [y], ts ++ [z], hD, ?_, upd_same, ?_, by simp; omega, ?_⟩
      · intro b o q
        rw [upd_ne (ne_of_none q hD)]
        exact s4 _ _ (s3 _ _ (s _ _ q))
      · exact (((ra.same s3).same s4).append (RTs.cons r4 RTs.nil)).upd hd4 trivial
      · have k3 := Wp.bind k2
        cases e : lcR j c el ρ (items.drop (i + 1)) with
        | ok r => rw [e] at k3; show Q _; rw [List.append_assoc]; exact k3
        | raise c => rw [e] at k3; exact (k3 H (Same.refl H)).elim
        | stuck => rw [e] at k3; exact k3.elim
    | _ => exact k2.elim
def lcD (j : Nat) (f : Ev → R D) (sel : D → R (List T)) (c : Ev → R Bool) (el : Ev → R D) (ρ : Ev) : R D :=
  f ρ >>= sel >>= fun xs => if xs.length ≤ 16777216 then lcR j c el (ρ.set j .un) xs >>= fun r => .ok (.lst r) else .stuck
def selT : D → R (List T)
  | .t (.tup xs) => .ok xs
  | _ => .stuck
def selL : D → R (List T)
  | .lst xs => .ok xs
  | _ => .stuck
/-- nothing leaves a comprehension -/
theorem nr_lc {j : Nat} {c : Ev → R Bool} {el : Ev → R D} {ρ : Ev} {H : Hp} {xs : List T} {EX : XK} {Q : List T → Prop} (hr : ∀ x, lcR j c el ρ xs ≠ .raise x) (w : Wp EX C H (lcR j c el ρ xs) Q) : Wp E0 C H (lcR j c el ρ xs) Q := by
  cases e : lcR j c el ρ xs with
  | ok r => rw [e] at w; exact w
  | raise x => exact (hr x e).elim
  | stuck => rw [e] at w; exact w.elim
/-- a reckoning that never raises -/
def NR {α : Type} (r : R α) : R α := match r with
  | .raise _ => .stuck
  | r => r
theorem Wp.nr {α : Type} {H : Hp} {r : R α} {k : α → Prop} {EX EX' : XK} (w : Wp EX C H (NR r) k) : Wp EX' C H r k := by
  cases r with
  | ok a => exact w
  | raise c => exact (show False from w).elim
  | stuck => exact w
def lcN (j : Nat) (f : Ev → R D) (sel : D → R (List T)) (c : Ev → R Bool) (el : Ev → R D) (ρ : Ev) : R D :=
  f ρ >>= sel >>= fun xs => if xs.length ≤ 16777216 then NR (lcR j c el (ρ.set j .un) xs) >>= fun r => .ok (.lst r) else .stuck
theorem pc_done {K : PySem.W.Frag} {j : Nat} {c : Ev → R Bool} {el : Ev → R D} {ρ : Ev} {H1 : Hp} {Dd : Addr} {items : List T} {Q : List T → Prop} {H : Hp} {n : Nat} (p : Pc K C H1 Dd j c el ρ items n Q n H) (hn : items.length ≤ n) : ∃ acc ts, H1 Dd = none ∧ Same H1 H ∧ H Dd = some (.lst acc) ∧ RTs K H ts acc ∧ Q ts := by
  obtain ⟨acc, ts, hD, s, hd, ra, _, w⟩ := p
  rw [List.drop_eq_nil_of_le hn] at w
  have w' : Q (ts ++ []) := w
  rw [List.append_nil] at w'
  exact ⟨acc, ts, hD, s, hd, ra, w'⟩
theorem lc_start {K : PySem.W.Frag} {j : Nat} {c : Ev → R Bool} {el : Ev → R D} {ρ : Ev} {H1 : Hp} {Dd : Addr} {items : List T} {Q : List T → Prop} {n : Nat} (hD : H1 Dd = none) (w : Wp E0 C H1 (lcR j c el ρ items) Q) : Pc K C H1 Dd j c el ρ items n Q 0 (upd H1 Dd (.lst [])) :=
  ⟨[], [], hD, same_new hD _, upd_same, RTs.nil, Nat.le_refl _, Wp.mono w (same_new hD _) fun _ _ q => q⟩
theorem lc_fin {K : PySem.W.Frag} {EX : XK} {H H1 : Hp} {r : List T → R D} {Q : VK} {Dd : Addr} {H2 : Hp} (hs : Same H H1) (h : ∃ acc ts, H1 Dd = none ∧ Same H1 H2 ∧ H2 Dd = some (.lst acc) ∧ RTs K H2 ts acc ∧ ∀ v H', Same H H' → RN K H H' (.lst ts) v → Q v H') : Q (.ref Dd) H2 := by
  obtain ⟨acc, ts, hD, s, hd, ra, q⟩ := h
  exact q _ H2 (hs.trans s) ⟨Dd, acc, rfl, hs.free hD, hd, ra⟩

section
variable {elt tg iter : Expr} {ifs : List Expr} {scope : Scope} {x : Str} {j : Nat} {c : Ev → R Bool} {el : Ev → R D} {K : PySem.W.Frag}
theorem lcT_read {te : TE} (qe : ∀ F σ H ρ Q, ER K F σ H ρ → WD K EX C H (f ρ) Q → te σ H Q) {F : Hp} {σ : St} {H : Hp} {ρ : Ev} {Q : VK} (er : ER K F σ H ρ) (w : WN K EX C H (lcN j f selT c el ρ) Q) :
    tLc (iTup K te) (gName j) (cT K E0 C c) (cN K E0 C el) [j] σ H Q := by
  unfold lcN at w
  refine qe F σ H ρ _ er ((Wp.bind (Wp.bind w)).imp fun d _ k v H1 s1 r1 => ?_)
  cases d with
  | t y =>
    cases y with
    | tup xs =>
      obtain ⟨a, vs, rfl, ha, ra⟩ := rt_tup r1
      refine ⟨a, rfl, ⟨vs, ha⟩, fun Dd hD => ?_⟩
      have k : WN K EX C H (if xs.length ≤ 16777216 then NR (lcR j c el (ρ.set j .un) xs) >>= fun r => .ok (.lst r) else .stuck) Q := k
      split at k
      · rename_i hz
        have w0 := (Wp.nr (EX' := E0) (Wp.bind k)).mono s1 fun _ _ q => q
        have er1 := (er.mono s1).wipe1 j
        refine lc_tup (xs := vs) (Pc K C H1 Dd j c el (ρ.set j .un) xs xs.length _) (lc_start hD w0) (fun i H' _ p => ?_) (fun i u H' hu p => ?_) (fun H' p => ?_)
        · obtain ⟨_, _, _, s, _⟩ := p
          exact Same.sqT s ha
        · obtain ⟨y, hy, ry⟩ := ra.getV hu
          have s : Same H1 H' := by obtain ⟨_, _, _, s, _⟩ := p; exact s
          exact pc_turn er1 p hy (ry.same s) hz
        · rw [ra.length] at p
          exact lc_fin (EX := EX) (r := fun _ => .stuck) s1 (pc_done p (Nat.le_refl _))
      · exact k.elim
    | _ => exact k.elim
  | _ => exact k.elim
theorem lcL_read {te : TE} (qe : ∀ F σ H ρ Q, ER K F σ H ρ → WD K EX C H (f ρ) Q → te σ H Q) {F : Hp} {σ : St} {H : Hp} {ρ : Ev} {Q : VK} (er : ER K F σ H ρ) (w : WN K EX C H (lcN j f selL c el ρ) Q) :
    tLc (iList K te) (gName j) (cT K E0 C c) (cN K E0 C el) [j] σ H Q := by
  unfold lcN at w
  refine qe F σ H ρ _ er ((Wp.bind (Wp.bind w)).imp fun d _ k v H1 s1 r1 => ?_)
  cases d with
  | lst xs =>
    obtain ⟨a, vs, rfl, ha, ra⟩ := r1
    refine ⟨a, rfl, ⟨vs, SqL.of ha⟩, fun Dd hD => ?_⟩
    have k : WN K EX C H (if xs.length ≤ 16777216 then NR (lcR j c el (ρ.set j .un) xs) >>= fun r => .ok (.lst r) else .stuck) Q := k
    split at k
    · rename_i hz
      have w0 := (Wp.nr (EX' := E0) (Wp.bind k)).mono s1 fun _ _ q => q
      have er1 := (er.mono s1).wipe1 j
      refine lc_list (xs := vs) (Pc K C H1 Dd j c el (ρ.set j .un) xs xs.length _) (lc_start hD w0) (fun i H' _ p => ?_) (fun i u H' hu p => ?_) (fun H' p => ?_)
      · obtain ⟨_, _, _, s, _⟩ := p
        exact SqL.of (s _ _ ha)
      · obtain ⟨y, hy, ry⟩ := ra.getV hu
        have s : Same H1 H' := by obtain ⟨_, _, _, s, _⟩ := p; exact s
        exact pc_turn er1 p hy (ry.same s) hz
      · rw [ra.length] at p
        exact lc_fin (EX := EX) (r := fun _ => .stuck) s1 (pc_done p (Nat.le_refl _))
    · exact k.elim
  | _ => exact k.elim
def lcRg (j : Nat) (f : Ev → R (List D)) (rg : List D → R (Int × Nat)) (c : Ev → R Bool) (el : Ev → R D) (ρ : Ev) : R D :=
  f ρ >>= rg >>= fun p => if p.2 ≤ 16777216 then NR (lcR j c el (ρ.set j .un) (rngT p.1 p.2)) >>= fun r => .ok (.lst r) else .stuck
theorem lcR1_read {ta : TA} {f : Ev → R (List D)} (qe : ∀ F σ H ρ Q, ER K F σ H ρ → WA K EX C H (f ρ) Q → ta σ H Q) {F : Hp} {σ : St} {H : Hp} {ρ : Ev} {Q : VK} (er : ER K F σ H ρ) (w : WN K EX C H (lcRg j f rng1 c el ρ) Q) :
    tLc (iRng1 ta) (gName j) (cT K E0 C c) (cN K E0 C el) [j] σ H Q := by
  unfold lcRg at w
  refine qe F σ H ρ _ er ((Wp.bind (Wp.bind w)).imp fun ds _ k vs H1 s1 r1 => ?_)
  obtain ⟨n, rfl, g1, g2, k⟩ := rng1_ok r1 (Wp.mono k s1 fun _ _ q => q)
  refine ⟨n, rfl, g1, g2, fun Dd hD => ?_⟩
  have k : WN K EX C H (if n.toNat ≤ 16777216 then NR (lcR j c el (ρ.set j .un) (rngT 0 n.toNat)) >>= fun r => .ok (.lst r) else .stuck) Q := k
  split at k
  · rename_i hz
    have w0 := (Wp.nr (EX' := E0) (Wp.bind k)).mono s1 fun _ _ q => q
    have er1 := (er.mono s1).wipe1 j
    refine lc_range (lo := 0) (n := n.toNat) (Pc K C H1 Dd j c el (ρ.set j .un) (rngT 0 n.toNat) (rngT 0 n.toNat).length _) (lc_start hD w0) (fun i H' hi p => ?_) (fun H' p => ?_)
    · exact pc_turn er1 p (rngT_get hi) (by unfold RT; rfl) (by rw [rngT_len]; exact hz)
    · rw [rngT_len] at p
      exact lc_fin (EX := EX) (r := fun _ => .stuck) s1 (pc_done p (by rw [rngT_len]; exact Nat.le_refl _))
  · exact k.elim
theorem lcR2_read {ta : TA} {f : Ev → R (List D)} (qe : ∀ F σ H ρ Q, ER K F σ H ρ → WA K EX C H (f ρ) Q → ta σ H Q) {F : Hp} {σ : St} {H : Hp} {ρ : Ev} {Q : VK} (er : ER K F σ H ρ) (w : WN K EX C H (lcRg j f rng2 c el ρ) Q) :
    tLc (iRng2 ta) (gName j) (cT K E0 C c) (cN K E0 C el) [j] σ H Q := by
  unfold lcRg at w
  refine qe F σ H ρ _ er ((Wp.bind (Wp.bind w)).imp fun ds _ k vs H1 s1 r1 => ?_)
  obtain ⟨m, n, rfl, g1, k⟩ := rng2_ok r1 (Wp.mono k s1 fun _ _ q => q)
  refine ⟨m, n, rfl, g1, fun Dd hD => ?_⟩
  have k : WN K EX C H (if (n - m).toNat ≤ 16777216 then NR (lcR j c el (ρ.set j .un) (rngT m (n - m).toNat)) >>= fun r => .ok (.lst r) else .stuck) Q := k
  split at k
  · rename_i hz
    have w0 := (Wp.nr (EX' := E0) (Wp.bind k)).mono s1 fun _ _ q => q
    have er1 := (er.mono s1).wipe1 j
    refine lc_range (lo := m) (n := (n - m).toNat) (Pc K C H1 Dd j c el (ρ.set j .un) (rngT m (n - m).toNat) (rngT m (n - m).toNat).length _) (lc_start hD w0) (fun i H' hi p => ?_) (fun H' p => ?_)
    · exact pc_turn er1 p (rngT_get hi) (by unfold RT; rfl) (by rw [rngT_len]; exact hz)
    · rw [rngT_len] at p
      exact lc_fin (EX := EX) (r := fun _ => .stuck) s1 (pc_done p (by rw [rngT_len]; exact Nat.le_refl _))
  · exact k.elim
end
/-- a block's parts -/
abbrev Blk (X : Cx) (scope : Scope) (P : Cx → Prop) : Prop := ∀ (s : Shared) (H : Hp) (A : Addr) (cl : List (Str × Addr)) (fp : List Addr), P (X.blk s H scope (compEnvC scope cl A X.env) fp)
section
variable {elt tg iter e1 e2 : Expr} {c0 : Expr} {scope : Scope} {x : Str} {j : Nat} {c : Ev → R Bool} {el : Ev → R D} {h : Ev → R (List D)} {cpos p : Pos}
theorem pts_can1 {Y : Cx} (hc : ST Y EX C c0 c) : PTs Y [c0] (cT Y.K EX C c) := pts_one hc.can
theorem pts_can0 {Y : Cx} : PTs Y [] (cT Y.K EX C (fun _ => .ok true)) := by
  refine ⟨fun pins s σ H Q I w => ?_⟩
  obtain ⟨F, ρ, er, w⟩ := w
  exact pts_nil.run pins s σ H Q I (w H (Same.refl H))
variable {ifs : List Expr}
theorem sn_lcT (hc : X.calm = true) (hN : X.N.Nodup) (he : SE X EX C iter f) (ok : BlkOk X.N X.env.scope scope [(x, j)]) (hg : Blk X scope fun Y => PG Y tg (gName j)) (ht : Blk X scope fun Y => PTs Y ifs (cT Y.K E0 C c)) (hl : Blk X scope fun Y => SN Y E0 C elt el)
    (hs : ∀ x, foldedSetIterable iter X.env x = pure x := by intro _; rfl) : SN X EX C (.ListComp elt [⟨tg, iter, ifs, 0⟩] scope pos) (lcN j f selT c el) := by
  obtain ⟨te, pe, qe⟩ := he
  exact ⟨_, pe_lc hc hN (pi_tup pe) ok hg ht (fun s H A cl fp => (hl s H A cl fp).can) hs, fun F σ H ρ Q er w => lcT_read qe er w⟩
theorem sn_lcL (hc : X.calm = true) (hN : X.N.Nodup) (he : SE X EX C iter f) (ok : BlkOk X.N X.env.scope scope [(x, j)]) (hg : Blk X scope fun Y => PG Y tg (gName j)) (ht : Blk X scope fun Y => PTs Y ifs (cT Y.K E0 C c)) (hl : Blk X scope fun Y => SN Y E0 C elt el)
    (hs : ∀ x, foldedSetIterable iter X.env x = pure x := by intro _; rfl) : SN X EX C (.ListComp elt [⟨tg, iter, ifs, 0⟩] scope pos) (lcN j f selL c el) := by
  obtain ⟨te, pe, qe⟩ := he
  exact ⟨_, pe_lc hc hN (pi_list pe) ok hg ht (fun s H A cl fp => (hl s H A cl fp).can) hs, fun F σ H ρ Q er w => lcL_read qe er w⟩
theorem sn_lcR1 (hc : X.calm = true) (hN : X.N.Nodup) (hm : X.mg "range" = none) (he : SA X EX C [e1] h) (ok : BlkOk X.N X.env.scope scope [(x, j)]) (hg : Blk X scope fun Y => PG Y tg (gName j)) (ht : Blk X scope fun Y => PTs Y ifs (cT Y.K E0 C c)) (hl : Blk X scope fun Y => SN Y E0 C elt el)
    (hgl : Gl X "range" := by rfl) (h1 : starEach [e1] X.env = [(false, eval e1 X.env)] := by rfl)
    (hs : ∀ x, foldedSetIterable (.Call (.Name "range" p) [e1] [] cpos) X.env x = pure x := by intro _; rfl) : SN X EX C (.ListComp elt [⟨tg, .Call (.Name "range" p) [e1] [] cpos, ifs, 0⟩] scope pos) (lcRg j h rng1 c el) := by
  obtain ⟨⟨te, pe, qe⟩, _⟩ := he
  exact ⟨_, pe_lc hc hN (pi_range1 hgl hm pe h1) ok hg ht (fun s H A cl fp => (hl s H A cl fp).can) hs, fun F σ H ρ Q er w => lcR1_read qe er w⟩
theorem sn_lcR2 (hc : X.calm = true) (hN : X.N.Nodup) (hm : X.mg "range" = none) (he : SA X EX C [e1, e2] h) (ok : BlkOk X.N X.env.scope scope [(x, j)]) (hg : Blk X scope fun Y => PG Y tg (gName j)) (ht : Blk X scope fun Y => PTs Y ifs (cT Y.K E0 C c)) (hl : Blk X scope fun Y => SN Y E0 C elt el)
    (hgl : Gl X "range" := by rfl) (h1 : starEach [e1, e2] X.env = [(false, eval e1 X.env), (false, eval e2 X.env)] := by rfl) (h2 : starEach [e2] X.env = [(false, eval e2 X.env)] := by rfl)
    (hs : ∀ x, foldedSetIterable (.Call (.Name "range" p) [e1, e2] [] cpos) X.env x = pure x := by intro _; rfl) : SN X EX C (.ListComp elt [⟨tg, .Call (.Name "range" p) [e1, e2] [] cpos, ifs, 0⟩] scope pos) (lcRg j h rng2 c el) := by
  obtain ⟨⟨te, pe, qe⟩, _⟩ := he
  exact ⟨_, pe_lc hc hN (pi_range2 hgl hm pe h1 h2) ok hg ht (fun s H A cl fp => (hl s H A cl fp).can) hs, fun F σ H ρ Q er w => lcR2_read qe er w⟩
/-- y = [..] -/
theorem set_lc {i : Nat} {t : TE} {F : Hp} {σ : St} {H : Hp} {ρ : Ev} {Dn : Ends} {lc : Ev → R D} (er : ER X.K F σ H ρ) (ht : ∀ Q, WN X.K EX C H (lc ρ) Q → t σ H Q) (w : WS X.K EX C F H Dn (setO i lc ρ)) : tAsg t (gName i) Dn σ H := by
  refine ht _ ((WS.bind w er.same).imp fun d _ k v H1 s1 r1 => ?_)
  exact k F _ H1 (Same.refl F) (Same.tups s1) (er.store s1 r1)
variable {i : Nat} {y : Str} {py spos : Pos}
theorem ss_lcT (hc : X.calm = true) (hN : X.N.Nodup) (hy : X.N[i]? = some y) (hyl : X.env.scope.names.lookup y = some .local) (hsw : swapsWith (.ListComp elt [⟨tg, iter, ifs, 0⟩] scope pos) (some (.Name y py)) spos.line X.env = pure true)
    (he : SE X EX C iter f) (ok : BlkOk X.N X.env.scope scope [(x, j)]) (hg : Blk X scope fun Y => PG Y tg (gName j)) (ht : Blk X scope fun Y => PTs Y ifs (cT Y.K E0 C c)) (hl : Blk X scope fun Y => SN Y E0 C elt el)
    (hs : ∀ x, foldedSetIterable iter X.env x = pure x := by intro _; rfl) : SS X EX C (.Assign [.Name y py] (.ListComp elt [⟨tg, iter, ifs, 0⟩] scope pos) spos) (setO i (lcN j f selT c el)) := by
  obtain ⟨te, pe, qe⟩ := he
  exact ⟨_, ps_setLc hc hN hy hyl hsw (pi_tup pe) ok hg ht (fun s H A cl fp => (hl s H A cl fp).can) hs, fun F σ H ρ D er w => set_lc er (fun Q w => lcT_read qe er w) w⟩
theorem ss_lcL (hc : X.calm = true) (hN : X.N.Nodup) (hy : X.N[i]? = some y) (hyl : X.env.scope.names.lookup y = some .local) (hsw : swapsWith (.ListComp elt [⟨tg, iter, ifs, 0⟩] scope pos) (some (.Name y py)) spos.line X.env = pure true)
    (he : SE X EX C iter f) (ok : BlkOk X.N X.env.scope scope [(x, j)]) (hg : Blk X scope fun Y => PG Y tg (gName j)) (ht : Blk X scope fun Y => PTs Y ifs (cT Y.K E0 C c)) (hl : Blk X scope fun Y => SN Y E0 C elt el)
    (hs : ∀ x, foldedSetIterable iter X.env x = pure x := by intro _; rfl) : SS X EX C (.Assign [.Name y py] (.ListComp elt [⟨tg, iter, ifs, 0⟩] scope pos) spos) (setO i (lcN j f selL c el)) := by
  obtain ⟨te, pe, qe⟩ := he
  exact ⟨_, ps_setLc hc hN hy hyl hsw (pi_list pe) ok hg ht (fun s H A cl fp => (hl s H A cl fp).can) hs, fun F σ H ρ D er w => set_lc er (fun Q w => lcL_read qe er w) w⟩
theorem ss_lcR1 (hc : X.calm = true) (hN : X.N.Nodup) (hy : X.N[i]? = some y) (hyl : X.env.scope.names.lookup y = some .local) (hsw : swapsWith (.ListComp elt [⟨tg, .Call (.Name "range" p) [e1] [] cpos, ifs, 0⟩] scope pos) (some (.Name y py)) spos.line X.env = pure true)
    (hm : X.mg "range" = none) (he : SA X EX C [e1] h) (ok : BlkOk X.N X.env.scope scope [(x, j)]) (hg : Blk X scope fun Y => PG Y tg (gName j)) (ht : Blk X scope fun Y => PTs Y ifs (cT Y.K E0 C c)) (hl : Blk X scope fun Y => SN Y E0 C elt el)
    (hgl : Gl X "range" := by rfl) (h1 : starEach [e1] X.env = [(false, eval e1 X.env)] := by rfl)
    (hs : ∀ x, foldedSetIterable (.Call (.Name "range" p) [e1] [] cpos) X.env x = pure x := by intro _; rfl) : SS X EX C (.Assign [.Name y py] (.ListComp elt [⟨tg, .Call (.Name "range" p) [e1] [] cpos, ifs, 0⟩] scope pos) spos) (setO i (lcRg j h rng1 c el)) := by
  obtain ⟨⟨te, pe, qe⟩, _⟩ := he
  exact ⟨_, ps_setLc hc hN hy hyl hsw (pi_range1 hgl hm pe h1) ok hg ht (fun s H A cl fp => (hl s H A cl fp).can) hs, fun F σ H ρ D er w => set_lc er (fun Q w => lcR1_read qe er w) w⟩
theorem ss_lcR2 (hc : X.calm = true) (hN : X.N.Nodup) (hy : X.N[i]? = some y) (hyl : X.env.scope.names.lookup y = some .local) (hsw : swapsWith (.ListComp elt [⟨tg, .Call (.Name "range" p) [e1, e2] [] cpos, ifs, 0⟩] scope pos) (some (.Name y py)) spos.line X.env = pure true)
    (hm : X.mg "range" = none) (he : SA X EX C [e1, e2] h) (ok : BlkOk X.N X.env.scope scope [(x, j)]) (hg : Blk X scope fun Y => PG Y tg (gName j)) (ht : Blk X scope fun Y => PTs Y ifs (cT Y.K E0 C c)) (hl : Blk X scope fun Y => SN Y E0 C elt el)
    (hgl : Gl X "range" := by rfl) (h1 : starEach [e1, e2] X.env = [(false, eval e1 X.env), (false, eval e2 X.env)] := by rfl) (h2 : starEach [e2] X.env = [(false, eval e2 X.env)] := by rfl)
    (hs : ∀ x, foldedSetIterable (.Call (.Name "range" p) [e1, e2] [] cpos) X.env x = pure x := by intro _; rfl) : SS X EX C (.Assign [.Name y py] (.ListComp elt [⟨tg, .Call (.Name "range" p) [e1, e2] [] cpos, ifs, 0⟩] scope pos) spos) (setO i (lcRg j h rng2 c el)) := by
  obtain ⟨⟨te, pe, qe⟩, _⟩ := he
  exact ⟨_, ps_setLc hc hN hy hyl hsw (pi_range2 hgl hm pe h1 h2) ok hg ht (fun s H A cl fp => (hl s H A cl fp).can) hs, fun F σ H ρ D er w => set_lc er (fun Q w => lcR2_read qe er w) w⟩
end
/-! ### two assignments in one -/
theorem ss_par {i j : Nat} {x y : Str} {e1 e2 : Expr} {h : Ev → R (List D)} {px py pt : Pos} {kt k2 pt2} (hc : X.calm = true) (hN : X.N.Nodup) (hi : X.N[i]? = some x) (hj : X.N[j]? = some y) (hij : i ≠ j)
    (hx : X.env.scope.names.lookup x = some .local) (hy : X.env.scope.names.lookup y = some .local) (ha : SA X EX C [e1, e2] h) (hp : ∀ ta, PA X [e1, e2] ta → PS X (.Assign [.Tuple [.Name x px, .Name y py] kt pt] (.Tuple [e1, e2] k2 pt2) pos) (tPar i j ta)) :
    SS X EX C (.Assign [.Tuple [.Name x px, .Name y py] kt pt] (.Tuple [e1, e2] k2 pt2) pos) (fun ρ => h ρ >>= fun ds => match ds with
      | [.t x, .t y] => .ok (.nx ((ρ.set i (.d (.t x) true)).set j (.d (.t y) true)))
      | _ => .stuck) := by
  obtain ⟨⟨te, pe, qe⟩, _⟩ := ha
  refine ⟨_, hp te pe, fun F σ H ρ D er w => ?_⟩
  refine qe F σ H ρ _ er ((WS.bind w er.same).imp fun ds _ k vs H1 s1 r1 => ?_)
  split at k
  · obtain ⟨v, u, rfl, h1, h2⟩ := rd2 r1
    exact ⟨v, u, rfl, k F _ H1 (Same.refl F) (Same.tups s1) ((er.store (x := .t _) s1 h1).store (x := .t _) (Same.refl H1) h2)⟩
  · exact k.elim
end
/-! ## a def -/
def un (n : Nat) : Ev := List.replicate n Sl.un
def runDef (n : Nat) (g : Ev → R Out) (ds : List D) : R D := g (ds.map (Sl.d · false) ++ un n) >>= fun o => match o with
  | .rt d => .ok d
  | .nx _ => .ok (.t .non)
  | _ => .stuck
theorem er_start {K : PySem.W.Frag} {H : Hp} {N : List Str} {ds : List D} {vs : List V} (r : RDs K H ds vs) : ER K H (L2.start N vs) H (ds.map (Sl.d · false) ++ un (N.length - vs.length)) := by
  have get : ∀ {ds : List D} {vs : List V}, RDs K H ds vs → ∀ (i : Nat) x, ds[i]? = some x → ∃ v, vs[i]? = some v ∧ RD K H x v := by
    intro ds
    induction ds with
    | nil => intro vs r i x h; simp at h
    | cons d ds ih =>
      intro vs r i x h
      obtain ⟨v, ws, rfl, h1, h2⟩ := r
      cases i with
      | zero => simp at h; subst h; exact ⟨v, rfl, h1⟩
      | succ i => simpa using ih h2 i x (by simpa using h)
  have key : ∀ (i : Nat) x o, (ds.map (Sl.d · false) ++ un (N.length - vs.length))[i]? = some (.d x o) → o = false ∧ ∃ v, (L2.start N vs)[i]? = some (some v) ∧ RD K H x v := by
    intro i x o h
    by_cases hi : i < ds.length
    · rw [List.getElem?_append_left (by simpa using hi), List.getElem?_map] at h
      cases e : ds[i]? with
      | none => rw [e] at h; cases h
      | some y =>
        rw [e] at h
        cases h
        obtain ⟨v, h1, h2⟩ := get r i _ e
        refine ⟨rfl, v, ?_, h2⟩
        unfold L2.start
        rw [List.getElem?_append_left (by rw [List.length_map, r.length]; exact hi), List.getElem?_map, h1]; rfl
    · exfalso
      rw [List.getElem?_append_right (by simpa using hi)] at h
      unfold un at h
      have := List.mem_of_getElem? h
      cases (List.eq_of_mem_replicate this)
  refine ⟨Same.refl H, fun i x o h => ?_, fun i j x y a h1 => ?_, ?_, fun i v h => ?_⟩
  rotate_right
  · exfalso
    by_cases hi : i < ds.length
    · rw [List.getElem?_append_left (by simpa using hi), List.getElem?_map] at h
      cases e : ds[i]? with
      | none => rw [e] at h; cases h
      | some y => rw [e] at h; cases h
    · rw [List.getElem?_append_right (by simpa using hi)] at h
      unfold un at h
      cases (List.eq_of_mem_replicate (List.mem_of_getElem? h))
  · obtain ⟨rfl, v, h1, h2⟩ := key i x o h
    exact ⟨v, h1, fun e => by (cases e), fun _ => h2⟩
  · obtain ⟨e, _⟩ := key i x true h1
    cases e
  · unfold L2.start un
    simp [r.length]
section
variable {P : Program} {w : World} {K : PySem.W.Frag} {mg : Str → Option Value} {base : Heap} {C : Nat → Addr}
/-- THE RULE for a def: by its body's judgement -/
theorem fn_def {x qual : Str} {st : Stmt} {f : Addr} {fd : FuncData} {N ps : List Str} {k : Nat} {g : Ev → R Out} (F : Fun K x qual st f fd) (S : FnScope N ps (defScope st)) (hps : ps.length ≤ N.length)
    (hb : ∀ (cdv : Value) (A : Around) (outer : List Env) (s : Shared) (H : Hp) (E : XK), Room k (A.deeper (PyProof.Rows.envOfC qual (defScope st) s.heap.objs.size f cdv)) →
      SB (cxOf (L2N.CX P w) P w K mg base N qual (defScope st) f cdv A outer s H E) E C (defBody st) g) :
    FnOk P w K mg base (L2N.CX P w) (k + 1) f fd ps (spR K C ps.length (runDef (N.length - ps.length) g)) := by
  obtain ⟨oc, od, kV, doc, pm, an, cdv, ct, osl, rfl, lk, hcd⟩ := F.ex
  refine fn_of lk hcd S (fun vs H Q E h => ?_) (fun A outer s H vs Q E hr h => ?_)
  · obtain ⟨ds, h1, _⟩ := h
    exact h1
  · obtain ⟨ds, h1, r, q⟩ := h
    obtain ⟨ts, p, qs⟩ := hb cdv A outer s H E hr
    refine ⟨ts, p, qs H _ H _ _ (er_start r) ?_⟩
    rw [h1]
    unfold runDef at q
    cases e : g (ds.map (Sl.d · false) ++ un (N.length - ps.length)) with
    | ok o =>
      rw [e] at q
      cases o with
      | nx ρ => exact fun F' σ' H' s' _ er' => q .non H' (s'.trans er'.same) (by show RT _ _ _ _; unfold RT; rfl)
      | rt d => exact fun v H' s' r' => q v H' s' r'
      | bk ρ => exact (show False from q).elim
      | ct ρ => exact (show False from q).elim
    | raise c => rw [e] at q; exact q
    | stuck => rw [e] at q; exact (show False from q).elim
end
/-- what a def's body may let out: passes -/
theorem passX {P : Program} {w : World} {K : PySem.W.Frag} {mg : Str → Option Value} {base : Heap} {N : List Str} {qual : Str} {scope : Scope} {f : Addr} {cdv : Value} {A : Around} {outer : List Env} {s : Shared} {H : Hp} {E : XK} :
    Passes (L2N.CX P w) (cxOf (L2N.CX P w) P w K mg base N qual scope f cdv A outer s H E) E :=
  L2N.passes_call (W := fun cls d _ H => E cls d H) (L2N.takes_of rfl rfl rfl rfl) (fun _ _ _ _ h => h)
theorem takesX {P : Program} {w : World} {K : PySem.W.Frag} {mg : Str → Option Value} {base : Heap} {N : List Str} {qual : Str} {scope : Scope} {f : Addr} {cdv : Value} {A : Around} {outer : List Env} {s : Shared} {H : Hp} {E : XK} :
    L2N.Takes (cxOf (L2N.CX P w) P w K mg base N qual scope f cdv A outer s H E) (fun cls d _ H => E cls d H) := L2N.takes_of rfl rfl rfl rfl
theorem passL {X : Cx} : Passes (L2N.CX X.prog X.w) X E0 := fun _ _ _ _ _ _ _ h => by
  obtain ⟨_, _, _, _, _, _, _, _, _, _, _, _, z⟩ := h
  exact z.elim
end Pf

set_option Elab.async false
set_option linter.all false
set_option maxRecDepth 100000
set_option maxHeartbeats 2000000
namespace Pf
open PySem L2
/-! ## short words for what gen.py prints -/
@[simp] def kI (i : Int) (_ : Ev) : R D := .ok (.t (.int i))
@[simp] def kS (s : Str) (_ : Ev) : R D := .ok (.t (.str s))
@[simp] def kB (b : Bool) (_ : Ev) : R D := .ok (.t (.bl b))
@[simp] def kN (_ : Ev) : R D := .ok (.t .non)
@[simp] def kT (t : T) (_ : Ev) : R D := .ok (.t t)
@[simp] def kD (_ : Ev) : R D := .ok (.dct [])
@[simp] def b2 (op : D → D → R D) (f g : Ev → R D) (ρ : Ev) : R D := f ρ >>= fun x => g ρ >>= fun y => op x y
@[simp] def u1 (op : D → R D) (f : Ev → R D) (ρ : Ev) : R D := f ρ >>= op
@[simp] def nA (_ : Ev) : R (List D) := .ok []
@[simp] def cA (f : Ev → R D) (h : Ev → R (List D)) (ρ : Ev) : R (List D) := f ρ >>= fun x => h ρ >>= fun xs => .ok (x :: xs)
@[simp] def ap (op : List D → R D) (h : Ev → R (List D)) (ρ : Ev) : R D := h ρ >>= op
@[simp] def sN (_ : Ev) : R (Option Int) := .ok none
@[simp] def sS (f : Ev → R D) (ρ : Ev) : R (Option Int) := f ρ >>= asInt
@[simp] def sl3 (f : Ev → R D) (l h : Ev → R (Option Int)) (ρ : Ev) : R D := f ρ >>= fun d => l ρ >>= fun l => h ρ >>= fun h => slD d l h
@[simp] def tV (f : Ev → R D) (ρ : Ev) : R Bool := f ρ >>= asB
@[simp] def tAnd2 (f g : Ev → R Bool) (ρ : Ev) : R Bool := andR (f ρ) (g ρ)
@[simp] def tOr2 (f g : Ev → R Bool) (ρ : Ev) : R Bool := orR (f ρ) (g ρ)
@[simp] def tNot1 (f : Ev → R Bool) (ρ : Ev) : R Bool := f ρ >>= fun b => .ok (!b)
@[simp] def vAnd (f g : Ev → R D) (ρ : Ev) : R D := andV (f ρ) (g ρ)
@[simp] def vOr (f g : Ev → R D) (ρ : Ev) : R D := orV (f ρ) (g ρ)
@[simp] def vNot (f : Ev → R D) (ρ : Ev) : R D := f ρ >>= asB >>= fun b => .ok (.t (.bl (!b)))
@[simp] def dg2 (f g h : Ev → R D) (ρ : Ev) : R D := f ρ >>= asDct >>= fun d => g ρ >>= fun k => h ρ >>= fun x => dget2 d k x
@[simp] def nxO (ρ : Ev) : R Out := .ok (.nx ρ)
@[simp] def yes (_ : Ev) : R Bool := .ok true
@[simp] def neverO (_ : Ev) : R Out := .stuck
@[simp] def parO2 (i j : Nat) (h : Ev → R (List D)) (ρ : Ev) : R Out := h ρ >>= fun ds => match ds with
  | [.t x, .t y] => .ok (.nx ((ρ.set i (.d (.t x) true)).set j (.d (.t y) true)))
  | _ => .stuck

/-- a def stands at the module's name x -/
def DefAt (K : PySem.W.Frag) (mg : Str → Option Value) (x : Str) (st : Stmt) : Prop := ∃ fa fd, Fun K x x st fa fd ∧ mg x = some (.ref fa)
/-- .. and keeps its promise -/
def Cal (P : Program) (w : World) (K : PySem.W.Frag) (mg : Str → Option Value) (base : Heap) (C : Nat → Addr) (x : Str) (k : Nat) (n : Nat) (g : List D → R D) : Prop :=
  ∃ fa fd ps, ps.length = n ∧ FnOk P w K mg base (L2N.CX P w) k fa fd ps (spR K C n g) ∧ mg x = some (.ref fa) ∧ PySem.W.keepIn K (.ref fa) = true ∧ Binds K fd ps []
section
variable {P : Program} {w : World} {K : PySem.W.Frag} {mg : Str → Option Value} {base : Heap} {C : Nat → Addr}
theorem Cal.mono {x : Str} {j k n : Nat} {g : List D → R D} (h : Cal P w K mg base C x j n g) (hk : j ≤ k) : Cal P w K mg base C x k n g := by
  obtain ⟨fa, fd, ps, h1, h2, h3⟩ := h
  exact ⟨fa, fd, ps, h1, h2.mono hk, h3⟩
/-- a def by its body -/
theorem cal_def {x : Str} {st : Stmt} {N ps : List Str} {k n m : Nat} {g : Ev → R Out} (D : DefAt K mg x st) (S : FnScope N ps (defScope st))
    (hbi : ∀ (kV doc pm : Value) (an : Option Addr) (cdv ct : Value) (us : List Value), us.length = ps.length → bindArgs (PySem.W.fnOf x x (defArgs st) (defBody st) (defScope st) .none kV doc pm an cdv ct) ⟨us, []⟩ = pure (ps.zip us))
    (hn : ps.length = n) (hm : N.length - ps.length = m) (hps : ps.length ≤ N.length)
    (hb : ∀ (f : Addr) (cdv : Value) (A : Around) (outer : List Env) (s : Shared) (H : Hp) (E : XK), Room k (A.deeper (PyProof.Rows.envOfC x (defScope st) s.heap.objs.size f cdv)) →
      SB (cxOf (L2N.CX P w) P w K mg base N x (defScope st) f cdv A outer s H E) E C (defBody st) g) : Cal P w K mg base C x (k + 1) n (runDef m g) := by
  obtain ⟨fa, fd, F, hg⟩ := D
  subst hn hm
  exact ⟨fa, fd, ps, rfl, fn_def F S hps (fun cdv A outer s H E hr => hb fa cdv A outer s H E hr), hg, F.kp, F.binds hbi⟩
/-- nothing is promised -/
theorem cal_none {x : Str} {st : Stmt} {ps : List Str} {k n : Nat} (D : DefAt K mg x st) (hbi : ∀ (kV doc pm : Value) (an : Option Addr) (cdv ct : Value) (us : List Value), us.length = ps.length → bindArgs (PySem.W.fnOf x x (defArgs st) (defBody st) (defScope st) .none kV doc pm an cdv ct) ⟨us, []⟩ = pure (ps.zip us))
    (hn : ps.length = n) : Cal P w K mg base C x k n (fun _ => .stuck) := by
  obtain ⟨fa, fd, F, hg⟩ := D
  refine ⟨fa, fd, ps, hn, ⟨fun vs H Q E h => ?_, fun A outer s H args us vs Q E _ _ _ _ h => ?_⟩, hg, F.kp, F.binds hbi⟩
  · obtain ⟨ds, h1, _⟩ := h
    rw [hn]; exact h1
  · obtain ⟨ds, _, _, q⟩ := h
    exact (show False from q).elim
end
section
variable {X : Cx} {EX : XK} {C : Nat → Addr} {a b : Expr} {f g : Ev → R D} {pos : Pos}
theorem sn_cal {x : Str} {k n : Nat} {gr : List D → R D} {es : List Expr} {h : Ev → R (List D)} {p : Pos}
    (c : Cal X.prog X.w X.K X.mg X.base C x k n gr) (hr : Room k X.A) (hx : Passes (L2N.CX X.prog X.w) X EX)
    (ha : SA X EX C (a :: es) h) (hlen : n = es.length + 1 := by rfl) (hg : Gl X x := by rfl) (hdb : (x == ("__debug__" : Str)) = false := by decide) (he : starEach (a :: es) X.env = (false, eval a X.env) :: starEach es X.env := by rfl) (hpl : (backTo pos (starEach es X.env)).any (·.1) = false := by rfl) :
    SN X EX C (.Call (.Name x p) (a :: es) [] pos) (ap gr h) := by
  obtain ⟨fa, fd, ps, h1, h2, h3, h4, h5⟩ := c
  exact sn_call h2 hr h3 h4 h5 hx ha hlen hg hdb he hpl
theorem sn_len (ha : SA X EX C [a] h) (hm : X.mg "len" = none) {p : Pos} (hg : Gl X "len" := by rfl) (he : starEach (a :: []) X.env = (false, eval a X.env) :: starEach [] X.env := by rfl) (hpl : (backTo pos (starEach [] X.env)).any (·.1) = false := by rfl) : SN X EX C (.Call (.Name "len" p) [a] [] pos) (ap lenD h) :=
  sn_callB cr_len im_len ha hm PySem.boot_len hg (by decide) (by decide) he hpl
theorem sn_list (ha : SA X EX C [a] h) (hm : X.mg "list" = none) {p : Pos} (hg : Gl X "list" := by rfl) (he : starEach (a :: []) X.env = (false, eval a X.env) :: starEach [] X.env := by rfl) (hpl : (backTo pos (starEach [] X.env)).any (·.1) = false := by rfl) : SN X EX C (.Call (.Name "list" p) [a] [] pos) (ap listD h) :=
  sn_callTy call_list_of im_list ha hm (by decide +kernel) hg (by decide) (by decide) he hpl
theorem sn_tuple (ha : SA X EX C [a] h) (hm : X.mg "tuple" = none) {p : Pos} (hg : Gl X "tuple" := by rfl) (he : starEach (a :: []) X.env = (false, eval a X.env) :: starEach [] X.env := by rfl) (hpl : (backTo pos (starEach [] X.env)).any (·.1) = false := by rfl) : SN X EX C (.Call (.Name "tuple" p) [a] [] pos) (ap tupleD h) :=
  sn_callTy call_tuple_of im_tuple ha hm (by decide +kernel) hg (by decide) (by decide) he hpl
theorem sn_dict (ha : SA X EX C [a] h) (hm : X.mg "dict" = none) {p : Pos} (hg : Gl X "dict" := by rfl) (he : starEach (a :: []) X.env = (false, eval a X.env) :: starEach [] X.env := by rfl) (hpl : (backTo pos (starEach [] X.env)).any (·.1) = false := by rfl) : SN X EX C (.Call (.Name "dict" p) [a] [] pos) (ap dictD h) :=
  sn_callTy cr_dict im_dict ha hm (by decide +kernel) hg (by decide) (by decide) he hpl
theorem sn_sum (hc : X.calm = true) (ha : SA X EX C [a] h) (hm : X.mg "sum" = none) {p : Pos} (hg : Gl X "sum" := by rfl) (he : starEach (a :: []) X.env = (false, eval a X.env) :: starEach [] X.env := by rfl) (hpl : (backTo pos (starEach [] X.env)).any (·.1) = false := by rfl) : SN X EX C (.Call (.Name "sum" p) [a] [] pos) (ap sumD h) :=
  sn_callB (cr_sum hc) im_sum ha hm (by decide +kernel) hg (by decide) (by decide) he hpl
theorem sn_int1 (ha : SA X EX C [a] h) (hm : X.mg "int" = none) {p : Pos} (hg : Gl X "int" := by rfl) (he : starEach (a :: []) X.env = (false, eval a X.env) :: starEach [] X.env := by rfl) (hpl : (backTo pos (starEach [] X.env)).any (·.1) = false := by rfl) : SN X EX C (.Call (.Name "int" p) [a] [] pos) (ap intD h) :=
  sn_callTy call_int1 im_int ha hm (by decide +kernel) hg (by decide) (by decide) he hpl
theorem sn_abs (ha : SA X EX C [a] h) (hm : X.mg "abs" = none) {p : Pos} (hg : Gl X "abs" := by rfl) (he : starEach (a :: []) X.env = (false, eval a X.env) :: starEach [] X.env := by rfl) (hpl : (backTo pos (starEach [] X.env)).any (·.1) = false := by rfl) : SN X EX C (.Call (.Name "abs" p) [a] [] pos) (ap absD h) :=
  sn_callB call_abs im_abs ha hm (by decide +kernel) hg (by decide) (by decide) he hpl
theorem sn_sorted (hc : X.calm = true) (ha : SA X EX C [a] h) (hm : X.mg "sorted" = none) {p : Pos} (hg : Gl X "sorted" := by rfl) (he : starEach (a :: []) X.env = (false, eval a X.env) :: starEach [] X.env := by rfl) (hpl : (backTo pos (starEach [] X.env)).any (·.1) = false := by rfl) : SN X EX C (.Call (.Name "sorted" p) [a] [] pos) (ap sortedD h) :=
  sn_callB (cr_srtS hc) im_sorted ha hm (by decide +kernel) hg (by decide) (by decide) he hpl
end
/-! what a loop in a def's body must let pass -/
theorem passOwnX {P : Program} {w : World} {K : PySem.W.Frag} {mg : Str → Option Value} {base : Heap} {N : List Str} {qual : Str} {scope : Scope} {f : Addr} {cdv : Value} {A : Around} {outer : List Env} {s : Shared} {H : Hp} {E : XK} :
    PassesOwn (model P w) (cxOf (L2N.CX P w) P w K mg base N qual scope f cdv A outer s H E).A (cxOf (L2N.CX P w) P w K mg base N qual scope f cdv A outer s H E).env (cxOf (L2N.CX P w) P w K mg base N qual scope f cdv A outer s H E).xe :=
  passes_of rfl
end Pf

set_option Elab.async false
set_option linter.all false
set_option maxRecDepth 100000
set_option maxHeartbeats 2000000
namespace Pf
open PySem L2
section
variable {X : Cx} {EX : XK} {C : Nat → Addr} {a b : Expr} {f g : Ev → R D} {pos : Pos}
/-! ### comparisons as tests -/
theorem st_cmp {op : CmpOp} {r : R2} {op2 : D → D → R D} (ho : OpR X (compareOp op) r) (hi : Impl2 X EX C op2 r) (hm : behindInMarks op b = false) (ha : SE X EX C a f) (hb : SE X EX C b g) :
    ST X EX C (.Compare a [op] [b] pos) (tV (b2 op2 f g)) := by
  obtain ⟨ta, pa, qa⟩ := ha
  obtain ⟨tb, pb, qb⟩ := hb
  refine ⟨_, pt_cmpR ho pa pb hm, fun F σ H ρ Q er w => ?_⟩
  have w : WB EX C H ((f ρ >>= fun x => g ρ >>= fun y => op2 x y) >>= asB) Q := w
  have w := Wp.bind (Wp.bind w)
  refine qa F σ H ρ _ er (w.imp fun d1 _ k v1 H1 s1 r1 => ?_)
  refine qb F σ H1 ρ _ (er.mono s1) ((Wp.bind k).mono s1 fun d2 _ k2 v2 H2 s2 r2 => ?_)
  refine hi d1 d2 v1 v2 H2 _ (r1.same s2) r2 (Wp.mono k2 (s1.trans s2) fun d _ k3 v H3 s3 r3 => ?_)
  unfold asB at k3
  split at k3
  · rw [rt_bl r3.rd]
    exact ⟨_, rfl, k3 H3 ((s1.trans s2).trans s3)⟩
  · exact k3.elim
theorem st_lt (ha : SE X EX C a f) (hb : SE X EX C b g) : ST X EX C (.Compare a [.Lt] [b] pos) (tV (b2 ltD f g)) := st_cmp op_lt im_lt (nomark _) ha hb
theorem st_gt (ha : SE X EX C a f) (hb : SE X EX C b g) : ST X EX C (.Compare a [.Gt] [b] pos) (tV (b2 gtD f g)) := st_cmp op_gt im_gt (nomark _) ha hb
theorem st_ge (ha : SE X EX C a f) (hb : SE X EX C b g) : ST X EX C (.Compare a [.GtE] [b] pos) (tV (b2 geD f g)) := st_cmp op_ge im_ge (nomark _) ha hb
theorem st_le (ha : SE X EX C a f) (hb : SE X EX C b g) : ST X EX C (.Compare a [.LtE] [b] pos) (tV (b2 leD f g)) := st_cmp (OpR.or op_le op_le_str) im_le (nomark _) ha hb
theorem st_eq (hu : X.A.units + 64 < cLine) (ha : SE X EX C a f) (hb : SE X EX C b g) : ST X EX C (.Compare a [.Eq] [b] pos) (tV (b2 eqD f g)) := st_cmp (op_eqAll hu) im_eq (nomark _) ha hb
theorem st_ne (hu : X.A.units + 64 < cLine) (ha : SE X EX C a f) (hb : SE X EX C b g) : ST X EX C (.Compare a [.NotEq] [b] pos) (tV (b2 neD f g)) := st_cmp (op_neAll hu) im_ne (nomark _) ha hb
theorem st_is (ha : SE X EX C a f) (hb : SE X EX C b g) : ST X EX C (.Compare a [.Is] [b] pos) (tV (b2 isD f g)) := st_cmp op_isC im_is (nomark _) ha hb
theorem st_isn (ha : SE X EX C a f) (hb : SE X EX C b g) : ST X EX C (.Compare a [.IsNot] [b] pos) (tV (b2 isnD f g)) := st_cmp op_isnC im_isn (nomark _) ha hb
theorem st_in (hu : X.A.units + 1 < cLine) (ha : SE X EX C a f) (hb : SE X EX C b g) (hm : behindInMarks .In b = false := by rfl) : ST X EX C (.Compare a [.In] [b] pos) (tV (b2 inD f g)) := st_cmp (op_inAll hu) im_in hm ha hb
theorem st_nin (hu : X.A.units + 1 < cLine) (ha : SE X EX C a f) (hb : SE X EX C b g) (hm : behindInMarks .NotIn b = false := by rfl) : ST X EX C (.Compare a [.NotIn] [b] pos) (tV (b2 ninD f g)) := st_cmp (op_ninAll hu) im_nin hm ha hb
end
end Pf
namespace Pf
open PySem L2
section
variable {P : Program} {w : World} {K : PySem.W.Frag} {mg : Str → Option Value} {C : Nat → Addr} {h : Heap}
theorem def_at {x : Str} {st : Stmt} {f : Addr} {oc : Value} {od an : Option Addr} {osl : Array (Option Value)} {kV doc pm cdv ct : Value} (X : K.In h) (G : h.Ns mainGlobals mg) (a : PySem.W.nsIn K mainGlobals x = some (some (.ref f)))
    (l : K.lookup f = some ⟨oc, od, .func (PySem.W.fnOf x x (defArgs st) (defBody st) (defScope st) .none kV doc pm an cdv ct), osl⟩)
    (c : PySem.W.codeIn K cdv x = true) (k : PySem.W.keepIn K (.ref f) = true) : DefAt K mg x st := ⟨f, _, fun_mk l c k, PySem.W.mg_of X G a⟩
/-- the law's own def -/
theorem law_mk {y : Str} {st : Stmt} {N : List Str} {k m : Nat} {g : Ev → R Out} {fa : Addr} (D : DefAt K mg "law" st) (hfa : mg "law" = some (.ref fa)) (S : FnScope N [y] (defScope st))
    (hbi : ∀ (kV doc pm : Value) (an : Option Addr) (cdv ct : Value) (us : List Value), us.length = [y].length → bindArgs (PySem.W.fnOf "law" "law" (defArgs st) (defBody st) (defScope st) .none kV doc pm an cdv ct) ⟨us, []⟩ = pure ([y].zip us))
    (hm : N.length - 1 = m) (hps : 1 ≤ N.length)
    (hb : ∀ base : Heap, K.In base → base.Ns mainGlobals mg → ∀ (f : Addr) (cdv : Value) (A : Around) (outer : List Env) (s : Shared) (H : Hp) (E : XK), Room k (A.deeper (PyProof.Rows.envOfC "law" (defScope st) s.heap.objs.size f cdv)) →
      SB (cxOf (L2N.CX P w) P w K mg base N "law" (defScope st) f cdv A outer s H E) E C (defBody st) g) :
    ∃ fd : FuncData, (∀ (s : Shared) (u : Value), BindsTo s fd ⟨[u], []⟩ [(y, u)]) ∧ ∀ base : Heap, K.In base → base.Ns mainGlobals mg → FnOk P w K mg base (L2N.CX P w) (k + 1) fa fd [y] (spR K C 1 (runDef m g)) := by
  obtain ⟨f, fd, F, hg⟩ := D
  rw [hfa] at hg
  cases hg
  subst hm
  refine ⟨fd, fun s u => ?_, fun base kb nb => fn_def F S hps (fun cdv A outer s H E hr => hb base kb nb fa cdv A outer s H E hr)⟩
  obtain ⟨oc, od, kV, doc, pm, an, cdv, ct, osl, rfl, lk, hcd⟩ := F.ex
  exact .of_eq (hbi kV doc pm an cdv ct [u] rfl)
theorem cx_no {H : Hp} {s : Shared} {e : Value} {s' : Shared} (c : L2N.CX P w [] H s (fun _ _ _ => False) e s') : False := by
  obtain ⟨_, _, _, _, _, _, _, _, _, _, _, _, z⟩ := c
  exact z
def spOk (K : PySem.W.Frag) (m : List D → R D) : Sp := fun vs H Q E => ∃ ds d, vs.length = 1 ∧ RDs K H ds vs ∧ m ds = .ok d ∧ ∀ v H', Same H H' → RN K H H' d v → Q v H'
/-- a law over one row: the plain law gives its answer -/
theorem walk_law {l : PySem.W.OpenLaw} {q : Program} {loose : List Str} {XP : (Str → Option Value) → Heap → Prop} {YP : World → Heap → Prop} {d : DefRec} {K : Params → PySem.W.Frag} {k : Nat} {m : World → List D → R D} {y : Str}
    (hn : l.most = some 63) (hdf : d.params.defaults = []) (hr : Room k callerA) (hY : ∀ (w : World) (h : Heap), YP w h → (K w.params).In h)
    (pl : ∀ (w : World) (ns : List Int), ns.length ≤ 63 → m w [.scr ns] = .ok (.t (.bl true)))
    (F : ∀ (w : World) (mg : Str → Option Value) (fa : Addr) (h : Heap), (K w.params).In h → h.Ns mainGlobals mg → mg d.name = some (.ref fa) →
      ∃ (C : Nat → Addr) (fd : FuncData), (∀ (s : Shared) (u : Value), BindsTo s fd ⟨[u], []⟩ [(y, u)]) ∧ ∀ base : Heap, (K w.params).In base → base.Ns mainGlobals mg → FnOk l.prog w (K w.params) mg base (L2N.CX l.prog w) k fa fd [y] (spR (K w.params) C 1 (m w))) :
    PySem.W.WalkO q loose XP YP l.row.toRowW d [] (fun f vs => PySem.call f vs) :=
  L2.walk_of (n := 63) (k := k) (x := y) (CX := fun w => L2N.CX l.prog w) (sp := fun w => spOk (K w.params) (m w)) hn (by decide) hdf hr hY (fun w mg fa h KX G hm => by
      obtain ⟨C, fd, h1, h2⟩ := F w mg fa h KX G hm
      refine ⟨fd, h1, fun base kb nb => (h2 base kb nb).imp fun vs H Q E z => ?_⟩
      obtain ⟨ds, d, z1, z2, z3, z4⟩ := z
      exact ⟨ds, z1, z2, by rw [z3]; exact z4⟩)
    (fun w H a ns hl _ hS => ⟨[.scr ns], _, rfl, ⟨_, _, rfl, ⟨a, rfl, hS⟩, rfl⟩, pl w ns hl, fun v H' _ r => rt_bl r.rd⟩) fun w H s e s' z => cx_no z
end
end Pf

namespace Pf
open PySem L2
/-! ## words whose rules stand further on -/
@[simp] def raiseO (c : Nat) (_ : Ev) : R Out := .raise c
def joinD : D → D → R D
  | .t (.str a), .lst ts => match asStrs ts with
    | some ys => if (ys.map (·.length)).sum + ys.length * a.length ≤ 16777216 then .ok (.t (.str (Txt.join a ys))) else .stuck
    | none => .stuck
  | _, _ => .stuck
def t_YES : T := .tup [.str "and", .tup []]
def t_NO : T := .tup [.str "or", .tup []]
@[simp] def gl_YES (_ : Ev) : R D := .ok (.t t_YES)
@[simp] def gl_NO (_ : Ev) : R D := .ok (.t t_NO)
@[simp] def gl_LETTERS (_ : Ev) : R D := .ok (.t (.str "abcdefghijklmnopqrstuvwxyz"))
@[simp] def gl_MOST_WITHIN (_ : Ev) : R D := .ok (.t (.int 40))
@[simp] def gl_MOST_FIGURES (_ : Ev) : R D := .ok (.t (.int 60))
/-- each once -/
def onceS : List Str → List Str
  | [] => []
  | x :: r => if x ∈ r then onceS r else x :: onceS r
def ssetD : D → R D
  | .lst ts => match asStrs ts with
    | some xs => if xs.length < 4000 ∧ (onceS xs).length < 64 then .ok (.lst ((srtS (onceS xs)).map T.str)) else .stuck
    | none => .stuck
  | _ => .stuck
end Pf
namespace Pf
open PySem L2
def signs (z : Str) : List T := z.cps.toList.map fun c => T.str ⟨#[c]⟩
@[simp] def forSO (j : Nat) (f : Ev → R D) (body : Ev → R Out) (ρ : Ev) : R Out := f ρ >>= fun d => match d with
  | .t (.str z) => forR j body (signs z) ρ
  | _ => .stuck
end Pf

set_option Elab.async false
set_option linter.all false
set_option maxRecDepth 100000
set_option maxHeartbeats 4000000
namespace Pf
open PySem L2 PyProof.Rows
/-! ## sorted(set(texts)): a set of texts as the walk has it -/
def txO (e : Int × Value) : Str := match e.2 with | .str k _ => k | _ => Str.empty
def TxE (P : Program) (w : World) (e : Int × Value) : Prop := ∃ k tk, e.2 = Value.str k tk ∧ e.1 = (PySem.strKind P w).hash k
/-- the texts ks stand in the set at a -/
def TxS (P : Program) (w : World) (h : Heap) (a : Addr) (ks : List Str) : Prop :=
  ∃ o es ep t, h.get? a = some o ∧ o.ExactSet ∧ o.data = .set es ep t ∧ (∀ e ∈ es.toList, TxE P w e) ∧ (es.toList.map txO).Perm ks ∧ ks.Nodup ∧ es.size < scanBound ∧ t.fits es.size = true ∧ Ris t.place.toList ∧ (w.params.followText "set-order" = true ∨ t.led = true)
section
variable {P : Program} {w : World} {h h' : Heap} {a : Addr} {ks : List Str}
theorem TxS.move (R : TxS P w h a ks) (k : ∀ o, h.get? a = some o → h'.get? a = some o) : TxS P w h' a ks := by
  obtain ⟨o, es, ep, t, ho, r⟩ := R
  exact ⟨o, es, ep, t, k o ho, r⟩
theorem TxS.size (R : TxS P w h a ks) : ks.length < scanBound := by
  obtain ⟨o, es, ep, t, _, _, _, _, pm, _, hb, _⟩ := R
  rw [← pm.length_eq, List.length_map, Array.length_toList]; exact hb
theorem tx_elems {l : List (Int × Value)} (g : ∀ e ∈ l, TxE P w e) : ElemsOf (PySem.strKind P w) l := fun e he => by
  obtain ⟨k, tk, h1, h2⟩ := g e he
  refine ⟨⟨k, ?_, h2⟩, ?_⟩
  · rw [h1]; exact strKind_is P w k tk
  · rw [h1]; rfl
theorem tx_is {e : Int × Value} (g : TxE P w e) (k : Str) : (PySem.strKind P w).is k e.2 = true ↔ txO e = k := by
  obtain ⟨k0, tk, h1, _⟩ := g
  have q0 : (PySem.strKind P w).is k0 e.2 = true := by rw [h1]; exact strKind_is P w k0 tk
  have e0 : txO e = k0 := by unfold txO; rw [h1]
  rw [e0]
  exact ⟨fun q => (PySem.strKind P w).inj e.2 k0 k q0 q, fun q => q ▸ q0⟩
theorem tx_mem {l : List (Int × Value)} (g : ∀ e ∈ l, TxE P w e) (k : Str) : k ∈ l.map txO ↔ ∃ e ∈ l, (PySem.strKind P w).is k e.2 = true := by
  rw [List.mem_map]
  exact ⟨fun ⟨e, he, q⟩ => ⟨e, he, (tx_is (g e he) k).2 q⟩, fun ⟨e, he, q⟩ => ⟨e, he, (tx_is (g e he) k).1 q⟩⟩
end
section
variable {P : Program} {w : World} {A : Around} {E : Value → Shared → Prop} {s : Shared} {a : Addr} {ks : List Str}
theorem tx_tail {g : Bool → Sem Unit} (hg : ∀ (b : Bool) (s₁ : Shared) (Q' : Unit → Shared → Prop), Q' () s₁ → wpAny (model P w) A (g b) Q' E s₁) {o : Obj} {es : Array (Int × Value)} {ep : Nat} {t : SetTable} (ho : s.heap.get? a = some o) (hex : o.ExactSet) (hd : o.data = .set es ep t)
    {es1 : Array (Int × Value)} {t2 : SetTable} (g1 : ∀ e ∈ es1.toList, TxE P w e) (p1 : (es1.toList.map txO).Perm ks) (nd : ks.Nodup) (hb1 : es1.size < scanBound) (hf2 : t2.fits es1.size = true) (hr : Ris t2.place.toList) (hl : w.params.followText "set-order" = true ∨ t2.led = true) {dm : Bool} {R : Option Bool → Shared → Prop}
    (hR : ∀ h', Heap.SameBut a s.heap h' → TxS P w h' a ks → R (some true) { s with heap := h' }) :
    wpAny (model P w) A (do
        storeSet a es1 t2
        if (!dm && t2.tooFull) = true then do
            g (relayAll t2 es1 (SetTable.grown es1.size)).2.2
            storeSet a (relayAll t2 es1 (SetTable.grown es1.size)).1 (relayAll t2 es1 (SetTable.grown es1.size)).2.1
            pure (some true)
          else pure (some true)) R E s := by
  refine wpAny_bind (wpAny_storeSet_of ho hd ?_ (fits_of_scanBound hb1))
  have u1 := store_at (es' := es1) (t' := t2) ho hd
  have b1 := Heap.SameBut.update s.heap a (Obj.putSet es1 t2)
  split
  · have pm := relayAll_perm t2 es1 (SetTable.grown es1.size)
    have f3 := relayAll_fits t2 es1 (SetTable.grown es1.size)
    have r3 := relayAll_ris t2 es1 (SetTable.grown es1.size) 
    have l3 := relayAll_led t2 es1 (SetTable.grown es1.size)
    generalize relayAll t2 es1 (SetTable.grown es1.size) = Z at pm f3 r3 l3 ⊢
    obtain ⟨es2, t3, gv⟩ := Z
    dsimp only at pm f3 r3 l3 ⊢
    have b2 : es2.size < scanBound := by
      have q := pm.length_eq
      rw [Array.length_toList, Array.length_toList] at q
      rw [q]; exact hb1
    refine wpAny_bind (hg _ _ _ (wpAny_bind (wpAny_storeSet_of u1 rfl ?_ (fits_of_scanBound b2))))
    have u2 := store_at (es' := es2) (t' := t3) u1 rfl
    exact wpAny_pure (hR _ (b1.trans (Heap.SameBut.update _ a _)) ⟨_, es2, _, t3, u2, hex, rfl, fun e he => g1 e (pm.mem_iff.mp he), (pm.map txO).trans p1, nd, b2, f3, r3, hl.imp id fun z => l3.trans z⟩)
  · exact wpAny_pure (hR _ b1 ⟨_, es1, _, t2, u1, hex, rfl, g1, p1, nd, hb1, hf2, hr, hl⟩)
theorem tx_add {k : Str} {tk : Tok} {Q : Bool → Shared → Prop} (R : TxS P w s.heap a ks) (room : ks.length + 1 < scanBound)
    (hQ : ∀ h' b, Heap.SameBut a s.heap h' → TxS P w h' a (if k ∈ ks then ks else k :: ks) → Q b { s with heap := h' }) :
    wpAny (model P w) A (setAddHashed a (.str k tk) ((PySem.strKind P w).hash k)) Q E s := by
  have R0 := R
  obtain ⟨o, es, ep, t, ho, hex, hd, g, pm0, nd, hb, hf, hr, hl⟩ := R
  have hkey : (PySem.strKind P w).is k (.str k tk) = true := strKind_is P w k tk
  have hsc : (Value.str k tk).scannable = true := rfl
  have hel : ElemsOf (PySem.strKind P w) es.toList := tx_elems g
  have hmem : k ∈ ks ↔ ∃ e ∈ es.toList, (PySem.strKind P w).is k e.2 = true := by rw [← pm0.mem_iff]; exact tx_mem g k
  unfold setAddHashed setAddHashedIn
  refine wpAny_holding (wpAny_bind (wpAny_setState_of ho hd hf ?_))
  dsimp only
  rw [byScan_of hsc hb hel, if_pos rfl]
  unfold setAddByScan
  refine wpAny_bind (wpAny_bind (wpAny_rule (wpAny_bind (wpAny_setScan_of hkey ho hd hf hel ?_))))
  cases hfi : List.findIdx? (fun e => (PySem.strKind P w).is k e.2) es.toList with
  | some j =>
    dsimp only
    obtain ⟨hj, pj, _⟩ := List.findIdx?_eq_some_iff_getElem.mp hfi
    have hin : k ∈ ks := hmem.2 ⟨es.toList[j], List.getElem_mem hj, pj⟩
    have q := fun b => hQ s.heap b (Heap.SameBut.refl a s.heap)
    rw [if_pos hin] at q
    exact wpAny_pure (wpAny_pure (q _ R0))
  | none =>
    dsimp only
    have hout : ¬ k ∈ ks := fun z => by
      obtain ⟨e, he, q⟩ := hmem.1 z
      have c := List.findIdx?_eq_none_iff.mp hfi e he
      rw [q] at c; cases c
    have hgw : ∀ (b : Bool) {s₁ : Shared} {Q' : Unit → Shared → Prop}, Q' () s₁ → wpAny (model P w) A (match b with | true => rule "set.scan.the-table-gave-way" | false => pure ()) Q' E s₁ := fun b s₁ Q' q => by
      cases b
      · exact wpAny_pure q
      · exact wpAny_rule q
    have pm := layNew_perm t es ((PySem.strKind P w).hash k) (.str k tk)
    have f1 := layNew_fits t es ((PySem.strKind P w).hash k) (.str k tk)
    have r1 := layNew_ris t es ((PySem.strKind P w).hash k) (.str k tk) hr
    have l1 := layNew_led t es ((PySem.strKind P w).hash k) (.str k tk)
    generalize layNew t es ((PySem.strKind P w).hash k) (.str k tk) = Z at pm f1 r1 l1 ⊢
    obtain ⟨es1, t1, dm, gv⟩ := Z
    dsimp only at pm f1 r1 l1 ⊢
    rw [Array.toList_push] at pm
    have pc : es1.toList.Perm (((PySem.strKind P w).hash k, Value.str k tk) :: es.toList) := pm.trans (List.perm_append_singleton _ _)
    have pk : (es1.toList.map txO).Perm (k :: ks) := (pc.map txO).trans (pm0.cons k)
    have g1 : ∀ e ∈ es1.toList, TxE P w e := fun e he => (List.mem_cons.mp (pc.mem_iff.mp he)).elim (fun z => z ▸ ⟨k, tk, rfl, rfl⟩) (g e)
    have b1 : es1.size < scanBound := by
      have q := pk.length_eq
      rw [List.length_map, Array.length_toList, List.length_cons] at q
      rw [q]; exact room
    have led : w.params.followText "set-order" = true ∨ t1.led = true := hl.imp id fun z => l1.trans z
    have fin : ∀ h' b, Heap.SameBut a s.heap h' → TxS P w h' a (k :: ks) → Q b { s with heap := h' } := fun h' b sb r => hQ h' b sb (by rw [if_neg hout]; exact r)
    have nd1 := List.nodup_cons.mpr ⟨hout, nd⟩
    refine wpAny_bind (hgw _ ?_)
    split
    · refine wpAny_bind ?_
      rw [hashByValue_scannable 8 hsc]
      refine wpAny_pure (tx_tail ?_ ho hex hd g1 pk nd1 b1 ?_ ?_ ?_ ?_)
      · intro b s₁ Q' q; cases b <;> first | exact wpAny_pure q | exact wpAny_rule q
      · first | (split <;> first | exact f1 | exact SetTable.fits_plain_off f1) | exact f1
      · first | (split <;> exact r1) | exact r1
      · first | (split <;> exact led) | exact led
      · intro h' sb r; dsimp only; exact wpAny_pure (fin h' _ sb r)
    · refine wpAny_bind (wpAny_pure ?_)
      rw [if_pos rfl]
      refine tx_tail ?_ ho hex hd g1 pk nd1 b1 f1 r1 led ?_
      · intro b s₁ Q' q; cases b <;> first | exact wpAny_pure q | exact wpAny_rule q
      · intro h' sb r; dsimp only; exact wpAny_pure (fin h' _ sb r)
end
/-- what the first of xs put one by one leave -/
def putS : List Str → List Str → List Str
  | ks, [] => ks
  | ks, x :: r => putS (if x ∈ ks then ks else x :: ks) r
theorem putS_app : ∀ (xs ks : List Str) (x : Str), putS ks (xs ++ [x]) = if x ∈ putS ks xs then putS ks xs else x :: putS ks xs
  | [], ks, x => rfl
  | y :: r, ks, x => putS_app r _ x
theorem putS_len : ∀ (xs ks : List Str), (putS ks xs).length ≤ ks.length + xs.length
  | [], ks => Nat.le_refl _
  | x :: r, ks => by
    have := putS_len r (if x ∈ ks then ks else x :: ks)
    unfold putS
    refine Nat.le_trans this ?_
    split <;> simp <;> omega
theorem putS_mem (s : Str) : ∀ (xs ks : List Str), s ∈ putS ks xs ↔ s ∈ ks ∨ s ∈ xs
  | [], ks => by simp [putS]
  | x :: r, ks => by
    unfold putS
    rw [putS_mem s r]
    by_cases h : x ∈ ks
    · rw [if_pos h]; simp only [List.mem_cons]
      exact ⟨fun q => q.elim .inl fun q => .inr (.inr q), fun q => q.elim .inl fun q => q.elim (fun e => .inl (e ▸ h)) .inr⟩
    · rw [if_neg h]; simp only [List.mem_cons]
      exact ⟨fun q => q.elim (fun q => q.elim (fun e => .inr (.inl e)) .inl) fun q => .inr (.inr q), fun q => q.elim (fun q => .inl (.inr q)) fun q => q.elim (fun e => .inl (.inl e)) .inr⟩
theorem putS_nodup : ∀ (xs ks : List Str), ks.Nodup → (putS ks xs).Nodup
  | [], ks, h => h
  | x :: r, ks, h => by
    unfold putS
    refine putS_nodup r _ ?_
    split
    · exact h
    · rename_i q; exact List.nodup_cons.mpr ⟨q, h⟩
section
variable {P : Program} {w : World} {A : Around} {E : Value → Shared → Prop} {s : Shared}
theorem tx_loop {I : Addr} {fp wr : List Addr} {G : Array GenState → Array GenState → Prop} {n : Nat} {Pv : Nat → Value → Prop} {St : Nat → Shared → Prop} {R : Result → Shared → Prop}
    (W : WalksS P w A.in1 I fp wr G n Pv St) (S : Addr) (hSf : S ∉ fp) (xs : List Str) (hn : n = xs.length) (hb : xs.length + 1 < scanBound) (hval : ∀ i v, Pv i v → ∃ k t, xs[i]? = some k ∧ v = .str k t) :
    ∀ (k i : Nat) (s : Shared), n - i = k → i ≤ n → St i s → TxS P w s.heap S (putS [] (xs.take i)) →
      (∀ s', Moved (S :: wr) G s s' → TxS P w s'.heap S (putS [] xs) → R (.ok (.ret .none)) s') → codeAny (model P w) A (.builtin "set.update.loop" ⟨[.ref S, .ref I], []⟩) R s := by
  have hSw : S ∉ wr := fun h => hSf (W.sub _ h)
  have hsub : ∀ b ∈ wr, b ∈ S :: wr := fun b hb => List.mem_cons_of_mem _ hb
  intro k
  induction k with
  | zero =>
    intro i s hk' hi hst hS hR
    have hin : i = n := by omega
    subst hin
    refine codeAny_builtin F.entry_set_update_loop ?_
    rw [Around.under_plainId F.plain_set_update_loop _]
    refine wpAny_bind (m := pyNext (.ref I)) (W.done s _ _ hst fun s' hm => ?_)
    rw [List.take_of_length_le (by omega)] at hS
    exact wpAny_pure (hR s' (hm.mono hsub) (hS.move fun o e => hm.heap S o hSw e))
  | succ k ih =>
    intro i s hk' hi hst hS hR
    have hlt : i < n := by omega
    refine codeAny_builtin F.entry_set_update_loop ?_
    rw [Around.under_plainId F.plain_set_update_loop _]
    refine wpAny_bind (m := pyNext (.ref I)) (W.item i s _ _ hlt hst fun v s' hP hst' hm => ?_)
    obtain ⟨z, t, hz, rfl⟩ := hval i v hP
    have hS' : TxS P w s'.heap S (putS [] (xs.take i)) := hS.move fun o e => hm.heap S o hSw e
    refine wpAny_bind (m := holding [Value.str z t] (setAdd S (.str z t))) (wpAny_holding ?_)
    unfold setAdd
    refine wpAny_holding (wpAny_bind ((PySem.strKind P w).pyHash (k := z) (strKind_is _ _ _ _) ?_))
    have hroom : (putS [] (xs.take i)).length + 1 < scanBound := by
      have q := putS_len (xs.take i) []
      rw [List.length_take, List.length_nil] at q
      omega
    refine tx_add (s := { s' with toks := s'.toks + 1 }) hS' hroom fun h' b hsb hS2 => ?_
    rw [← putS_app] at hS2
    have hS3 : TxS P w h' S (putS [] (xs.take (i + 1))) := by
      rw [List.take_add_one, hz]; exact hS2
    refine wpAny_pure ⟨plainId_quiet F.plain_set_update_loop _, ih (i + 1) _ (by omega) hlt (W.frame _ s' _ _ hst' (Nat.le_succ _) fun b hb o e => ?_) hS3 fun s'' hm'' hS'' => ?_⟩
    · rw [hsb.2 b (fun h : b = S => hSf (h ▸ hb))]; exact e
    · refine hR s'' (Moved.trans W.gtrans ((hm.mono hsub).then_heap (Nat.le_succ _) fun b o hb e => ?_) hm'') hS''
      rw [hsb.2 b (fun h : b = S => hb (h ▸ List.mem_cons_self))]; exact e
abbrev freO (w : World) : Obj := { cls := .type "set", dict := none, data := .set #[] 0 (.fresh 0 0 (!w.params.followText "set-order")) }
theorem tx_fresh {h : Heap} {a : Addr} (ho : h.get? a = some { cls := .type "set", dict := none, data := .set #[] 0 (.fresh 0 0 (!w.params.followText "set-order")) }) : TxS P w h a [] :=
  ⟨_, #[], 0, _, ho, ⟨rfl, rfl, rfl⟩, rfl, (fun e he => by simp at he), List.Perm.refl _, List.nodup_nil, (by decide), (by rfl), List.Pairwise.nil, by
    show _ ∨ (!w.params.followText "set-order") = true
    cases w.params.followText "set-order"
    · exact .inr rfl
    · exact .inl rfl⟩
theorem tx_at {us : List Value} {xs : List Str} (h : StrsAre us xs) (i : Nat) (v : Value) (e : us[i]? = some v) : ∃ k t, xs[i]? = some k ∧ v = .str k t := by
  obtain ⟨t, q⟩ := _root_.SS.strs_at h i v e
  have hl := StrsAre.len_eq h
  have hi : i < xs.length := by rw [← hl]; exact (List.getElem?_eq_some_iff.mp e).1
  refine ⟨xs[i], t, List.getElem?_eq_getElem hi, ?_⟩
  rw [q, List.getD_eq_getElem?_getD, List.getElem?_eq_getElem hi]; rfl
set_option maxHeartbeats 3200000 in
theorem tx_of_list {l : Addr} {items : Array Value} {xs : List Str} {Q : Value → Shared → Prop} (hh : A.handled = none) (hl : s.heap.IsList l items) (hit : StrsAre items.toList xs) (hb : xs.length + 1 < scanBound)
    (h : ∀ (h' : Heap) (tk : Nat), TxS P w h' s.heap.objs.size (putS [] xs) → (∀ b o, s.heap.get? b = some o → h'.get? b = some o) → Q (.ref s.heap.objs.size) { s with heap := h', toks := tk }) :
    wpAny (model P w) A (call (.type "set") [.ref l]) Q E s := by
  have hsz : items.size = xs.length := by
    have q := StrsAre.len_eq hit
    rwa [Array.length_toList] at q
  obtain ⟨c, tl, hmro⟩ := F.called_set.mro
  have hmade := F.called_set.made
  have hsub := F.called_set.sub
  refine wpAny_call (codeAny_of_tree ?_)
  show wpAny _ _ (callAny (.type "set") _) _ _ _
  refine wpAny_pure ⟨Code.quiet_builtin _ (by decide +kernel), codeAny_builtin F.entry_type_call ?_⟩
  rw [Around.under_plain (weight_type_call_type "set" [.ref l] []) rfl]
  have h1 := F.called_set.notType
  have h2 := F.called_set.canCreate
  have hct := F.typeCall_set_1 (.ref l)
  repeat (any_goals (first | assumption | wp_step))
  generalize hO : ({ cls := .type "set", dict := none, data := .set #[] 0 (.fresh 0 0 (!w.params.followText "set-order")) } : Obj) = O
  have hOc : O.cls = .type "set" := by rw [← hO]
  refine codeAny_mono (code_set_led1 (.ref l) (E := E) (Q₁ := fun obj s₁ => obj = .ref s.heap.objs.size ∧ s₁ = { s with heap := s.heap.push O }) ⟨rfl, by rw [hO]⟩) fun r s₁ hr => ?_
  cases r with
  | error e => exact hr
  | ok fl =>
    cases fl with
    | ret obj =>
      obtain ⟨rfl, rfl⟩ := hr
      have hS : (s.heap.push O).get? s.heap.objs.size = some O := Heap.get?_push_size _ (by rw [← hO]; rfl)
      have hT : Shared.TypeIs { s with heap := s.heap.push O } (.ref s.heap.objs.size) "set" := ⟨_, hS, hOc⟩
      have hli := F.called_set.init.lookup
      have hbi := F.called_set.init.bind (.ref s.heap.objs.size)
      repeat (any_goals (first | assumption | wp_step))
      refine codeAny_mono (codeAny_call_builtin (R := wants (fun r s₂ => r = .none ∧ ∃ h' tk, s₂ = { s with heap := h', toks := tk } ∧ TxS P w h' s.heap.objs.size (putS [] xs) ∧ (∀ b o, s.heap.get? b = some o → h'.get? b = some o)) E) F.called_set.init.plain F.entry_set_init (check_set_init_1 hT ?_)) fun r₂ s₂ hr₂ => ?_
      · subst hO
        obtain ⟨ol, hol, hcl, nl, hdl⟩ := hl
        obtain ⟨ocls, odict, odata, oslots⟩ := ol
        simp only at hcl hdl
        subst hcl; subst hdl
        have hol' : (s.heap.push (freO w)).get? l = some { cls := .type "list", dict := odict, data := .seq items nl, slots := oslots } := Heap.get?_push_of_some _ hol
        have hsls := F.sub_list_set
        have hslf := F.sub_list_frozenset
        have hne : (Value.type "list" == Value.type "dict") = false := by decide
        have hl1 : (s.heap.push (freO w)).IsList l items := ⟨_, hol', rfl, nl, rfl⟩
        unfold Builtin.«set.__init__» noKeywords Builtin.Frozenset.updateFrom
        generalize hPI : pyIter = PI
        wp_walk
        subst hPI
        refine wpAny_pyIter_list hl1 ?_
        refine wpAny_bind (wpAny_runValue ?_)
        have hlS : l < s.heap.objs.size := Heap.lt_size hol
        have hh3 : A.in1.in1.in1.handled = none := by simp [hh]
        have hz : (s.heap.push (freO w)).objs.size = s.heap.objs.size + 1 := Heap.size_push ..
        have hneI : l ≠ (s.heap.push (freO w)).objs.size := by rw [hz]; exact Nat.ne_of_lt (Nat.lt_succ_of_lt hlS)
        have hSf : s.heap.objs.size ∉ [(s.heap.push (freO w)).objs.size, l] := by
          rw [hz]; simp only [List.mem_cons, List.not_mem_nil, or_false, not_or]; exact ⟨Nat.ne_of_lt (Nat.lt_succ_self _), Nat.ne_of_gt hlS⟩
        refine tx_loop ((Walks.list hh3 _ l hneI items).toS) s.heap.objs.size hSf xs hsz hb (fun i v hv => tx_at hit i v (by rw [Array.getElem?_toList]; exact hv)) (items.size - 0) 0 _ (by omega) (Nat.zero_le _)
          ⟨⟨_, Heap.get?_push_size _ rfl, rfl, rfl⟩, (hl1.push _)⟩ ?hS0 ?hR
        case hS0 =>
          exact tx_fresh (Heap.get?_push_of_some _ hS)
        case hR =>
          intro s' hm hS'
          obtain ⟨h', g2, d', tk', os'⟩ := s'
          have eg : g2 = s.gens := hm.gens
          have ed : d' = s.drawn := hm.drawn
          have eo : os' = s.os := hm.os
          subst eg ed eo
          show wpAny _ _ _ _ _ _
          refine wpAny_pure ?_
          show wpAny _ _ (ret Value.none) _ _ _
          refine wpAny_pure ⟨rfl, h', tk', rfl, hS', fun b o e => ?_⟩
          have hb0 : b < s.heap.objs.size := Heap.lt_size e
          refine hm.heap b o ?_ (Heap.get?_push_of_some _ (Heap.get?_push_of_some _ e))
          rw [hz]; simp only [List.mem_cons, List.not_mem_nil, or_false, not_or]; exact ⟨Nat.ne_of_lt hb0, Nat.ne_of_lt (Nat.lt_succ_of_lt hb0)⟩
      · cases r₂ with
        | error e => exact hr₂
        | ok fl₂ =>
          cases fl₂ with
          | ret r =>
            obtain ⟨rfl, h', tk, rfl, hS', hk'⟩ := hr₂
            repeat (any_goals (first | assumption | wp_step))
            exact h _ _ hS' hk'
          | _ => exact hr₂.elim
    | _ => exact hr.elim
end

/-! ### sorted of it -/
section
variable {P : Program} {w : World} {A : Around} {E : Value → Shared → Prop} {s : Shared} {a : Addr}
theorem tx_strs : ∀ (l : List (Int × Value)), (∀ e ∈ l, TxE P w e) → ∀ v ∈ l.map (·.2), ∃ x t, v = Value.str x t := fun l g v hv => by
  obtain ⟨e, he, rfl⟩ := List.mem_map.mp hv
  obtain ⟨k, tk, h1, _⟩ := g e he
  exact ⟨k, tk, h1⟩
theorem tx_sorted {ks : List Str} {Q : Value → Shared → Prop} (R : TxS P w s.heap a ks) (hh : A.handled = none) (h64 : ks.length < 64)
    (hQ : ∀ s' p (out : Array Value) (c : Nat) (ys : List Str), (∀ b o, s.heap.get? b = some o → s'.heap.get? b = some o) → s'.gens = s.gens → s'.os = s.os → s.heap.objs.size ≤ p →
      s'.heap.get? p = some (seqObj "list" out c) → StrsAre out.toList ys → ys.Perm ks → sortedS ys = true → Q (.ref p) s') :
    wpAny (model P w) A (call (.builtin "sorted") [.ref a]) Q E s := by
  obtain ⟨o, es, ep, t, ho, hex, hd, g, pm0, nd, hb, hf, hr, hl⟩ := R
  refine Calls.call_function_entry kind_sorted plain_sorted entry_sorted (args_sorted1 _) ?_
  unfold Builtin.«sorted»
  refine wpAny_bind (m := checkCount "sorted" 1 1 _) (wpAny_pure (wpAny_bind (collect_set (A := A.in1) hh ⟨o, ho, hex.1, hd⟩ hf hb hr hl fun s1 vs k1 hz g1 o1 pm => ?_)))
  have hS : StrsAre vs (vs.map strOf) := strsAre_map vs fun v hv => tx_strs _ g v (pm.mem_iff.mp hv)
  have e1 : es.toList.map txO = (es.toList.map (·.2)).map strOf := by
    rw [List.map_map]
    apply List.map_congr_left
    intro e he
    obtain ⟨k, tk, h1, _⟩ := g e he
    simp only [txO, Function.comp, h1, strOf]
  have pk : (vs.map strOf).Perm ks := (pm.map strOf).trans (e1 ▸ pm0)
  have hvl : vs.length = ks.length := by rw [← pk.length_eq, List.length_map]
  refine wpAny_bind (wpAny_newList ?_ (by rw [hvl, sizeLine_eq]; omega))
  have hoL : (s1.heap.push (seqObj "list" vs.toArray 0)).get? s1.heap.objs.size = some (seqObj "list" vs.toArray 0) := Heap.get?_push_size _ rfl
  refine wpAny_bind (wpAny_holding (wpAny_call_entry slot_list_sort ⟨_, hoL, rfl⟩ entry_list_sort (list_sort_treeK strKind_oneLt hoL hS.keysOf (fun v₁ v₂ rest e => keyKind_strs (by rw [← e]; exact hS)) (by rw [hvl]; exact h64) fun st' a1 a2 => ⟨_, rfl, ?_⟩) (args_list_sort _)))
  obtain ⟨ys, y1, y2, y3⟩ := sorted_out_str hS a1 a2
  obtain ⟨c, hc⟩ := sortedHeap_at (vs := vs) (out := (arrOf st').map (·.2)) hoL
  refine wpAny_pure ⟨_, rfl, hQ _ s1.heap.objs.size _ c ys (fun b u e => ?_) g1 o1 hz hc y1 (y2.trans pk) y3⟩
  have q := k1 b u e
  have hlt := Heap.lt_size q
  show (sortedHeap (s1.heap.push (seqObj "list" vs.toArray 0)) s1.heap.objs.size vs _).get? b = some u
  rw [sortedHeap_old (Nat.ne_of_lt hlt) (by rw [size_push']; exact Nat.lt_succ_of_lt hlt)]
  exact Heap.get?_push_of_some _ q
end
/-! ### over the layer -/
def TxO (P : Program) (w : World) (a : Addr) (ks : List Str) : HO := .ext fun h => TxS P w h a ks
section
variable {X : Cx} {EX : XK} {C : Nat → Addr}
theorem txO_new {P : Program} {w : World} {H : Hp} {h : Heap} {a : Addr} {ks : List Str} (R : TxS P w h a ks) : ObjOk P w H h a (TxO P w a ks) := by
  have ⟨o, _, _, _, ho, _⟩ := R
  exact ⟨R, ⟨o, ho⟩, fun h1 h2 p k => TxS.move p k⟩
theorem txO_get {pins : List (Addr × Obj)} {σ : L2.St} {H : Hp} {s : Shared} {a : Addr} {ks : List Str} (I : Inv X pins σ H s) (ha : H a = some (TxO X.prog X.w a ks)) : TxS X.prog X.w s.heap a ks := (I.hok a _ ha).1
def rSetT (K : PySem.W.Frag) (P : Program) (w : World) : List V → Hp → VK → Prop := fun vs H Q => ∃ (l : Addr) (xs : List Str), vs = [.ref l] ∧ SqL K H l (xs.map V.str) ∧ xs.length < 4000 ∧ ∀ p, H p = none → Q (.ref p) (upd H p (TxO P w p (putS [] xs)))
theorem cr_setT (hc : X.calm = true) : CallR X (.type "set") (rSetT X.K X.prog X.w) := by
  intro pins s σ H vs us Q I r h
  obtain ⟨l, xs, rfl, hs, hlen, q⟩ := h
  obtain ⟨its, rv, hl, _⟩ := I.list hs
  rw [Vals.ref1 r]
  refine tx_of_list (I.ok.hd hc) hl.isList rv.strs (by unfold scanBound; omega) fun h' tk new k => ?_
  exact ⟨.ref _, upd H s.heap.objs.size (TxO X.prog X.w s.heap.objs.size (putS [] xs)), I.laid (t' := tk) (fun b u e => k b u e) (Nat.le_refl _) (txO_new new), rfl, q _ (I.hok.fresh (Nat.le_refl _))⟩
def rSortT (P : Program) (w : World) : List V → Hp → VK → Prop := fun vs H Q => ∃ (a : Addr) (ks : List Str), vs = [V.ref a] ∧ H a = some (TxO P w a ks) ∧ ks.length < 64 ∧
  ∀ (ys : List Str) (p : Addr), ys.Perm ks → sortedS ys = true → H p = none → Q (.ref p) (upd H p (.lst (ys.map V.str)))
theorem cr_sortT (hc : X.calm = true) : CallR X (.builtin "sorted") (rSortT X.prog X.w) := by
  intro pins s σ H vs us Q I r h
  obtain ⟨a, ks, rfl, ha, h64, q⟩ := h
  have R := txO_get I ha
  rw [Vals.ref1 r]
  refine tx_sorted R (I.ok.hd hc) h64 fun s' p out c ys k g o hp hg hi pm hs => ?_
  have hlen : (ys.map V.str).length ≤ sizeLine := by rw [List.length_map, pm.length_eq, sizeLine_eq]; omega
  have hn : H p = none := I.hok.fresh hp
  have J : Inv X pins σ (upd H p (.lst (ys.map V.str))) { s with heap := s'.heap, gens := s'.gens, drawn := s'.drawn, toks := s'.toks } :=
    I.call (ch := []) (Un.laid k hp hn) (I.hok.laid k hp ⟨hlen, out.toList, c, vals_of_strs hi, hg⟩) (by rw [g]; exact I.bare) (fun _ z => nomatch z)
  have e : s' = { s with heap := s'.heap, gens := s'.gens, drawn := s'.drawn, toks := s'.toks } := by
    cases s'; cases s; cases o; rfl
  rw [e]
  exact ⟨.ref p, _, J, rfl, q ys p pm hs hn⟩
end
end Pf

set_option Elab.async false
set_option linter.all false
set_option maxRecDepth 100000
set_option maxHeartbeats 4000000
namespace Pf
open PySem L2 PyProof.Rows
section
variable {X : Cx} {EX : XK} {C : Nat → Addr} {a : Expr} {f : Ev → R D} {pos : Pos}
theorem rd_strs {H : Hp} {ts : List T} {xs : List Str} {v : V} (h : asStrs ts = some xs) (r : RD X.K H (.lst ts) v) : ∃ l, v = .ref l ∧ H l = some (.lst (xs.map V.str)) := by
  obtain ⟨l, ws, h1, h2, h3⟩ := r
  have e : ts = xs.map T.str := by
    clear h2 h3
    induction ts generalizing xs with
    | nil => simp [asStrs] at h; subst h; rfl
    | cons t r ih =>
      cases t with
      | str s =>
        simp only [asStrs, Option.map_eq_some_iff] at h
        obtain ⟨ys, h4, rfl⟩ := h
        rw [ih h4]; rfl
      | _ => simp [asStrs] at h
  subst e
  rw [RTs.strs h3] at h2
  exact ⟨l, h1, h2⟩
theorem once_perm (xs : List Str) : (putS [] xs).Perm (onceS xs) := by
  have hm : ∀ (s : Str) (l : List Str), s ∈ onceS l ↔ s ∈ l := by
    intro s l
    induction l with
    | nil => simp [onceS]
    | cons x r ih =>
      unfold onceS
      split
      · rename_i h
        rw [ih, List.mem_cons]
        exact ⟨.inr, fun q => q.elim (fun e => e ▸ h) id⟩
      · rw [List.mem_cons, List.mem_cons, ih]
  have hn : ∀ l : List Str, (onceS l).Nodup := by
    intro l
    induction l with
    | nil => simp [onceS]
    | cons x r ih =>
      unfold onceS
      split
      · exact ih
      · rename_i h
        exact List.nodup_cons.mpr ⟨fun q => h ((hm x r).mp q), ih⟩
  refine (List.perm_ext_iff_of_nodup (putS_nodup xs [] List.nodup_nil) (hn xs)).mpr fun s => ?_
  rw [putS_mem, hm]; simp
theorem sn_sset (hc : X.calm = true) (ha : SE X EX C a f) (hm : X.mg "sorted" = none) (hm2 : X.mg "set" = none) {p p2 q : Pos} (hg : Gl X "sorted" := by rfl) (hg2 : Gl X "set" := by rfl)
    (he : starEach (.Call (.Name "set" p2) [a] [] q :: []) X.env = (false, eval (.Call (.Name "set" p2) [a] [] q) X.env) :: starEach [] X.env := by rfl) (hpl : (backTo pos (starEach [] X.env)).any (·.1) = false := by rfl)
    (he2 : starEach (a :: []) X.env = (false, eval a X.env) :: starEach [] X.env := by rfl) (hpl2 : (backTo q (starEach [] X.env)).any (·.1) = false := by rfl) :
    SN X EX C (.Call (.Name "sorted" p) [.Call (.Name "set" p2) [a] [] q] [] pos) (u1 ssetD f) := by
  obtain ⟨te, pa, qa⟩ := ha
  have h1 := pe_callTy (p := p2) (cr_setT hc) hg2 hm2 (by decide +kernel) (pa_cons pa pa_nil he2) (by decide) (by decide) he2 hpl2
  have h2 := pe_callB (p := p) (cr_sortT hc) hg hm (by decide +kernel) (pa_cons h1 pa_nil he) (by decide) (by decide) he hpl
  refine ⟨_, h2, fun F σ H ρ Q er w => ?_⟩
  refine qa F σ H ρ _ er (w.bind.imp fun d _ k v H1 s1 r1 => ?_)
  unfold ssetD at k
  split at k
  · split at k
    · rename_i ts xs hx
      split at k
      · rename_i hl
        obtain ⟨l, rfl, hl2⟩ := rd_strs hx r1
        refine ⟨l, xs, rfl, SqL.of hl2, hl.1, fun p hp => ?_⟩
        have pm := once_perm xs
        refine ⟨p, putS [] xs, rfl, by unfold upd; simp, by rw [pm.length_eq]; exact hl.2, fun ys p2 y1 y2 hp2 => ?_⟩
        rw [srtS_of (y1.trans pm) y2]
        have s2 := s1.trans (same_new hp (TxO X.prog X.w p (putS [] xs)))
        exact k _ _ (s2.trans (same_new hp2 _)) ((new_lst hp2 (RTs.ofStrs _)).less s2)
      · exact k.elim
    · exact k.elim
  · exact k.elim
end
end Pf

set_option Elab.async false
set_option linter.all false
set_option maxRecDepth 100000
set_option maxHeartbeats 4000000
namespace Pf
open PySem L2
/-! ## exceptions -/
/-- an own class of exceptions without an __init__ stands at the module's name x -/
structure ExcAt (K : PySem.W.Frag) (mg : Str → Option Value) (C : Nat → Addr) (x : Str) (c : Nat) : Prop where
  q : PySem.W.excIn K (C c) [.type "ValueError", .type "Exception", .type "BaseException", .type "object"] "ValueError.__new__" = true
  g : mg x = some (.ref (C c))
  k : PySem.W.keepIn K (.ref (C c)) = true
  s : PySem.W.subIn K (.ref (C c)) (.type "BaseException") = some true
  t : PySem.W.typeIn K (.ref (C c)) = some (.type "type")
section
variable {X : Cx} {EX : XK} {C : Nat → Addr} {pos : Pos}
theorem ss_raise {x m : Str} {c : Nat} {j : Nat} {p p2 p3 : Pos} (e : ExcAt X.K X.mg C x c) (hc : X.calm = true) (tk : L2N.Takes X (fun cls d _ H => EX cls d H)) (hg : Gl X x := by rfl) (hdb : (x == ("__debug__" : Str)) = false := by decide) :
    SS X EX C (.Raise (some (.Call (.Name x p) [.Constant (.str m) j p2] [] p3)) none pos) (raiseO c) := by
  refine ⟨_, L2N.ps_raise hc tk (L2N.pmk_own PySem.F.excBase_ValueError e.q e.g e.k (raises_own e.s e.t) hg hdb), fun F σ H ρ D er w => ?_⟩
  exact w H er.same
/-! ### isinstance of the exception that is handled -/
theorem cr_isE {a D : Addr} {oe : Obj} (hp : (a, oe) ∈ X.pn) (c0 : ExcC X.K D) (hz : Zc (.ref D) none oe) (hf : ∃ vs, oe.data = .fields vs) : CallR X (.builtin "isinstance") (rIsE X.K D a) := by
  intro pins s σ H xs us Q I r h
  obtain ⟨c, cv, b, rfl, hcv, e, q⟩ := h
  obtain ⟨u1, u2, rfl, rx, rt⟩ : ∃ u1 u2, us = [u1, u2] ∧ RelV (.ref a) u1 ∧ RelV c u2 := by
    cases r with
    | cons rx rr =>
      cases rr with
      | cons rt rr => cases rr; exact ⟨_, _, rfl, rx, rt⟩
  cases rx
  have ec := hcv _ rt
  subst ec
  obtain ⟨hget, _⟩ := I.pin (a, oe) (List.mem_append.mpr (.inl hp))
  have J : PySem.W.InstAt s.heap a oe D none := by
    obtain ⟨vs, hv⟩ := hf
    obtain ⟨oc, od, oda, osl⟩ := oe
    obtain ⟨h1, h2⟩ := hz
    dsimp only at h1 h2 hv
    subst h1 h2 hv
    exact ⟨hget, rfl, rfl, trivial⟩
  exact PySem.W.kia_one (PySem.W.handS_kitx_exc c0.hg c0.hk c0.hs c0.hd c0.ha c0.hn c0.ht c0.hm) I.kIn J e (fun z => nomatch z) fun tk => ⟨.bl b, H, I.kept (t' := tk) fun _ _ z => z, rfl, q⟩
def exR (i : Nat) (a : Addr) (b : Bool) (ρ : Ev) : R D := match ρ[i]? with
  | some (.raw (.ref a')) => if a' = a then .ok (.t (.bl b)) else .stuck
  | _ => .stuck
theorem sn_isE {i : Nat} {a D : Addr} {oe : Obj} {x y : Str} {p1 p0 p2 : Pos} {v : V} {cv : Value} {b : Bool} (hp : (a, oe) ∈ X.pn) (c0 : ExcC X.K D) (hz : Zc (.ref D) none oe) (hf : ∃ vs, oe.data = .fields vs)
    (pv : PE X (.Name y p0) (tVar i)) (pc : PE X (.Name x p2) (tC v)) (hcv : ∀ u, RelV v u → u = cv) (hk : PySem.W.kitOne X.K (.ref D) cv = some b) (hm : X.mg "isinstance" = none) (hg : Gl X "isinstance" := by rfl) (hb : bootBuiltins "isinstance" = some (.builtin "isinstance") := by decide +kernel)
    (h1 : starEach [.Name y p0, .Name x p2] X.env = (false, eval (.Name y p0) X.env) :: starEach [.Name x p2] X.env := by rfl) (h2 : starEach [.Name x p2] X.env = (false, eval (.Name x p2) X.env) :: starEach [] X.env := by rfl)
    (hpl : (backTo pos (starEach [.Name x p2] X.env)).any (·.1) = false := by rfl) :
    SN X EX C (.Call (.Name "isinstance" p1) [.Name y p0, .Name x p2] [] pos) (exR i a b) := by
  refine ⟨_, pe_callB (cr_isE hp c0 hz hf) hg hm hb (pa_cons pv (pa_cons pc pa_nil h2) h1) (by decide) (by decide) h1 hpl, fun F σ H ρ Q er w => ?_⟩
  unfold exR at w
  split at w
  · rename_i a' h
    split at w
    · rename_i e
      subst e
      exact ⟨_, er.raw i _ h, _, _, _, rfl, hcv, hk, w (.bl b) H (Same.refl H) rn_bl⟩
    · exact w.elim
  · exact w.elim
/-! ### join -/
theorem sn_join {z : Str} {j : Nat} {p : Pos} {e : Expr} {g : Ev → R D} {apos : Pos} (he : SE X EX C e g) (hs : starEach [e] X.env = [(false, eval e X.env)] := by rfl) (hbase : attributeBase (.Constant (.str z) j p) "join" X.env (eval (.Constant (.str z) j p) X.env) = eval (.Constant (.str z) j p) X.env := by rfl) (hline : (apos.endLine == pos.line) = true := by rfl) :
    SN X EX C (.Call (.Attribute (.Constant (.str z) j p) "join" apos) [e] [] pos) (b2 joinD (kS z) g) := by
  obtain ⟨te, pe, qe⟩ := he
  refine ⟨_, pe_join pe_str pe hs hbase hline, fun F σ H ρ Q er w => ?_⟩
  refine ⟨⟨z, rfl⟩, ?_⟩
  have w' : WN X.K EX C H (g ρ >>= fun y => joinD (.t (.str z)) y) Q := w
  refine qe F σ H ρ _ er (w'.bind.imp fun d _ k v H1 s1 r1 => ?_)
  cases d with
  | lst ts =>
    simp only [joinD] at k
    split at k
    · rename_i ys hy
      split at k
      · rename_i hl
        obtain ⟨l, vs, rfl, h2, h3⟩ := r1
        rw [asStrs_eq hy] at h3
        rw [h3.strs] at h2
        exact ⟨z, l, ys, rfl, rfl, .inl (SqL.of h2), hl, k _ _ s1 rn_str⟩
      · exact k.elim
    · exact k.elim
  | _ => exact k.elim
end
/-! ### a def that is called with the handled exception -/
def wordOf (c : Nat) : Str := if c = 0 then "no value" else if c = 1 then "not plain" else "no note"
/-- what the def of that word promises, called where the exception p is handled -/
def RunW (P : Program) (w : World) (K : PySem.W.Frag) (mg : Str → Option Value) (base : Heap) (C : Nat → Addr) (k : Nat) (f : Addr) (fd : FuncData) (ps : List Str) : Prop :=
  ∀ (A : Around) (outer : List Env) (s : Shared) (H : Hp) (args : Args) (us : List Value) (Q : VK) (E : XK) (p : Addr × Obj) (c : Nat), c < 3 → L2H.RoomH k A → L2H.Hot1 A p → L2H.PinOk outer H s p → Zc (.ref (C c)) none p.2 → Env0 P w K mg base A outer s H → BindsTo s fd args (ps.zip us) → us = [.ref p.1] →
    (∀ H', Same H H' → Q (.str (wordOf c)) H') → codeAny (model P w) A (.call (.ref f) args) (L2.CR (L2N.CX P w) outer P w H s Q E) s
theorem runW_of {P : Program} {w : World} {K : PySem.W.Frag} {mg : Str → Option Value} {base : Heap} {C : Nat → Addr} {k : Nat} {f : Addr} {name : Str} {params : Arguments} {body : List Stmt} {scope : Scope} {dV kV doc pm cdv ct oc : Value} {an od : Option Addr} {osl : Array (Option Value)} {N : List Str} {y : Str}
    (lk : K.lookup f = some ⟨oc, od, .func (PySem.W.fnOf name name params body scope dV kV doc pm an cdv ct), osl⟩) (hcd : PySem.W.codeIn K cdv name = true) (S : FnScope N [y] scope)
    (hbody : ∀ (A : Around) (outer : List Env) (s : Shared) (H : Hp) (E : XK) (p : Addr × Obj) (c : Nat), c < 3 → L2H.Hot1 A p → Zc (.ref (C c)) none p.2 → L2H.RoomH k (A.deeper (PyProof.Rows.envOfC name scope s.heap.objs.size f cdv)) →
      ∃ g, SB (L2H.cxH (L2N.CX P w) P w K mg base N name scope f cdv A outer s H E p) E0 C body g ∧ ∃ o, g (.raw (.ref p.1) :: un (N.length - 1)) = .ok o ∧ o = .rt (.t (.str (wordOf c)))) :
    RunW P w K mg base C (k + 1) f (PySem.W.fnOf name name params body scope dV kV doc pm an cdv ct) [y] := by
  intro A outer s H args us Q E p c hc hr hot hpin hz e0 hb hus hq
  subst hus
  have r : Vals [V.ref p.1] [Value.ref p.1] := .cons rfl .nil
  have KX : K.In s.heap := e0.mod.kin.keeps fun b o e => (e0.bs b o e).1
  have lim : s.heap.NoLimit := e0.mod.nolimit.keeps fun b o e => (e0.bs b o e).1
  have hkind : ∀ z ∈ [y].zip [Value.ref p.1], scope.names.lookup z.1 = some .local ∨ (scope.names.lookup z.1 = some .cell ∧ ((cellsFrom (s.heap.objs.size + 1) scope.names []).lookup z.1).isSome = true) := fun ⟨n, v⟩ hz => by
    rcases S.par n (List.of_mem_zip hz).1 with q | q
    · exact .inl q
    · exact .inr ⟨q, PySem.W.cellsFrom_some _ _ _ (.inl q)⟩
  refine codeAny_call_function hr.depth (KX _ _ lk) rfl S.co S.gen rfl (PySem.W.codeRec_of KX hcd) (hb _ _ _ _ ?_)
  refine wpAny_newFunctionEnv_cells S.kind hkind fun env he s1 x => ?_
  subst he
  refine ⟨lim.keeps x.toInCall.keep, codeAny_func ?_⟩
  obtain ⟨g, ⟨t, ht, hqs⟩, o, ho, rfl⟩ := hbody A outer s H E p c hc hot hz (hr.deeper _)
  have I : Inv (L2H.cxH (L2N.CX P w) P w K mg base N name scope f cdv A outer s H E p) [] (L2.start N [V.ref p.1]) H s1 := L2H.inv_startH S hpin e0 rfl r x
  have er : ER K H (L2.start N [V.ref p.1]) H (.raw (.ref p.1) :: un (N.length - 1)) := by
    have hun : ∀ (i : Nat) s, (un (N.length - 1))[i]? = some s → s = .un := fun i s h => List.eq_of_mem_replicate (List.mem_of_getElem? h)
    have hN : 1 ≤ N.length := by have := congrArg List.length S.pre; rw [List.length_take] at this; simp at this; omega
    refine ⟨Same.refl H, fun i x o h => ?_, fun i j x y a h1 => ?_, ?_, fun i v h => ?_⟩
    · cases i with
      | zero => cases h
      | succ i => have := hun i _ h; cases this
    · cases i with
      | zero => cases h1
      | succ i => have := hun i _ h1; cases this
    · unfold L2.start un; simp <;> omega
    · cases i with
      | zero => cases h; rfl
      | succ i => have := hun i _ h; cases this
  have hrt : WS K E0 C H H { nx := fun _ H' => Q .non H', rt := Q } (g (.raw (.ref p.1) :: un (N.length - 1))) := by
    rw [ho]
    intro v H' s' r'
    have e : v = .str (wordOf c) := by
      have z := r'
      simpa only [RN, RT] using z
    rw [e]; exact hq H' s'
  have hw := hqs H (L2.start N [V.ref p.1]) H _ _ er hrt
  refine wpAny_mono (ht.run [] s1 (L2.start N [V.ref p.1]) H _ I hw) (fun fl s' hs => ?_) fun e s' hs => hs
  cases fl with
  | ret u =>
    obtain ⟨v, σ', H', J, rv, q⟩ := hs
    exact ⟨v, H', J.os, J.bare, J.base, J.hok, rv, q⟩
  | next =>
    obtain ⟨σ', H', J, q⟩ := hs
    exact ⟨V.non, H', J.os, J.bare, J.base, J.hok, rfl, q⟩
  | brk =>
    obtain ⟨_, _, _, q⟩ := hs
    exact False.elim q
  | cont =>
    obtain ⟨_, _, _, q⟩ := hs
    exact False.elim q

section
variable {X : Cx} {EX : XK} {C : Nat → Addr} {pos : Pos}
theorem pe_callW {i k c : Nat} {f : Addr} {fd : FuncData} {x e y : Str} {p q : Pos} {pr : Addr × Obj} (F : RunW X.prog X.w X.K X.mg X.base C k f fd [y]) (hc : c < 3) (hr : L2H.RoomH k X.A) (hot : L2H.Hot1 X.A pr) (hp : pr ∈ X.pn) (hz : Zc (.ref (C c)) none pr.2) (hg : Gl X x) (hm : X.mg x = some (.ref f)) (hk : PySem.W.keepIn X.K (.ref f) = true)
    (hb : Binds X.K fd [y] []) (pv : PE X (.Name e q) (tVar i)) (hdb : (x == ("__debug__" : Str)) = false := by decide) (he : starEach [.Name e q] X.env = (false, eval (.Name e q) X.env) :: starEach [] X.env := by rfl) (hpl : (backTo pos (starEach [] X.env)).any (·.1) = false := by rfl) :
    PE X (.Call (.Name x p) [.Name e q] [] pos) (fun σ H Q => σ[i]? = some (some (.ref pr.1)) ∧ ∀ H', Same H H' → Q (.str (wordOf c)) H') := by
  refine ⟨fun pins s σ H Q I ⟨h1, h2⟩ => ?_⟩
  refine wpAny_Call_Name_kw (ld_glob I hg hm ?_ hdb)
  have ha : PA X [.Name e q] (tCons (tVar i) tNil) := pa_cons pv pa_nil he
  refine PySem.W.callWith_K (h₀ := X.base) I.ok.mod.kin hk (thn (ha.run pos pins s σ H (fun vs H1 => vs = [V.ref pr.1] ∧ H = H1) I ⟨_, h1, rfl, rfl⟩) fun us s1 ⟨vs, H1, I1, r, ev, eH⟩ => ⟨I1.kIn, ?_⟩) he hpl
  subst ev
  rw [← eH] at I1
  have hu : us = [Value.ref pr.1] := by
    cases r with
    | cons ru rn => cases rn; cases ru; rfl
  subst hu
  have b := hb s1 [Value.ref pr.1] I1.kIn rfl
  rw [List.append_nil] at b
  have P1 := I1.pin pr (List.mem_append_left _ hp)
  have hpin : L2H.PinOk X.stack H s1 pr := ⟨P1.1, P1.2.1, fun hm => (List.mem_cons.mp (I1.stkSub pr.1 hm)).elim P1.2.2.1 P1.2.2.2.1, P1.2.2.2.2⟩
  refine wpAny_call (codeAny_mono (F X.A X.stack s1 H ⟨[Value.ref pr.1], []⟩ [Value.ref pr.1] Q E0 pr c hc hr hot hpin hz I1.env0 b rfl h2) fun r s' hq => ?_)
  cases r with
  | error e => exact passL pins σ H s1 e s' I1 hq
  | ok fl =>
    cases fl with
    | ret u => exact I1.after hq
    | next => exact False.elim hq
    | brk => exact False.elim hq
    | cont => exact False.elim hq
/-- the def of the word stands at the module's name x -/
def CalW (P : Program) (w : World) (K : PySem.W.Frag) (mg : Str → Option Value) (base : Heap) (C : Nat → Addr) (x : Str) (k : Nat) : Prop :=
  ∃ fa fd y, RunW P w K mg base C k fa fd [y] ∧ mg x = some (.ref fa) ∧ PySem.W.keepIn K (.ref fa) = true ∧ Binds K fd [y] []
/-- the exceptions that the suite takes -/
def ExmAt (K : PySem.W.Frag) (mg : Str → Option Value) (C : Nat → Addr) (x : Str) : Prop := ∃ a, mg x = some (.ref a) ∧ ∀ c, c < 3 → PySem.W.exmOne K (.ref (C c)) (.ref a) = some true
theorem takes0N {X : Cx} : L2N.Takes X (fun _ _ _ _ => False) := fun _ _ x => by
  obtain ⟨_, _, _, _, _, _, _, _, _, _, _, _, _, _, _, _, z⟩ := x
  exact z.elim
/-- what the suite 'return word(e)' gives -/
def tsW (C : Nat → Addr) (i : Nat) : Addr → Value → Option Addr → TS := fun a cls d D σ H => (∃ c, c < 3 ∧ cls = .ref (C c) ∧ d = none ∧ ∀ H', Same H H' → D.rt (.str (wordOf c)) H') ∧ σ[i]? = some (some (.ref a))
theorem suiteW {i k : Nat} {x e : Str} {p q p2 : Pos} {a : Addr} {oe : Obj} {cls : Value} {d : Option Addr} {pn : List (Addr × Obj)} (c : CalW X.prog X.w X.K X.mg X.base C x k) (hr : Room k X.A) (hz : L2N.Zn cls d oe) (hf : ∃ vs, oe.data = .fields vs) (hg : Gl X x)
    (pv : PE (X.suite a ((a, oe) :: pn)) (.Name e q) (tVar i)) (hdb : (x == ("__debug__" : Str)) = false) (he : starEach [.Name e q] X.env = (false, eval (.Name e q) X.env) :: starEach [] X.env) (hpl : (backTo p2 (starEach [] X.env)).any (·.1) = false) :
    PSs (X.suite a ((a, oe) :: pn)) [.Return (some (.Call (.Name x p) [.Name e q] [] p2)) pos] (tsW C i a cls d) := by
  obtain ⟨fa, fd, y, F, hm, hk, hb⟩ := c
  refine ⟨fun pins s σ H D I h => ?_⟩
  obtain ⟨⟨c, hc, rfl, rfl, hq⟩, hs⟩ := h
  obtain ⟨vs, hv⟩ := hf
  have hot : L2H.Hot1 (X.suite a ((a, oe) :: pn)).A (a, oe) := ⟨rfl, vs, hv, hz.2.2 vs hv⟩
  have hr' : L2H.RoomH k (X.suite a ((a, oe) :: pn)).A := L2H.roomH_of hr |> fun r => ⟨r.dp, r.un⟩
  have P1 : PE (X.suite a ((a, oe) :: pn)) (.Call (.Name x p) [.Name e q] [] p2) _ := pe_callW (pr := (a, oe)) (c := c) F hc hr' hot List.mem_cons_self hz.zc hg hm hk hb pv hdb he hpl
  exact (pss_one (ps_ret P1)).run pins s σ H D I ⟨hs, hq⟩
end

/-! ### try: f(..) / return f(..), except SomeError as e: return word(e) -/
@[simp] def tryO (i : Nat) (gr : List D → R D) (h : Ev → R (List D)) (ρ : Ev) : R Out := h ρ >>= fun ds => match gr ds with
  | .ok _ => .ok (.nx ρ)
  | .raise c => if c < 3 ∧ i < ρ.length then .ok (.rt (.t (.str (wordOf c)))) else .stuck
  | .stuck => .stuck
@[simp] def tryRO (i : Nat) (gr : List D → R D) (h : Ev → R (List D)) (ρ : Ev) : R Out := h ρ >>= fun ds => match gr ds with
  | .ok d => .ok (.rt d)
  | .raise c => if c < 3 ∧ i < ρ.length then .ok (.rt (.t (.str (wordOf c)))) else .stuck
  | .stuck => .stuck
/-- arguments that are names, in a try's body -/
def SAt (X : Cx) (es : List Expr) (h : Ev → R (List D)) : Prop :=
  ∃ ta, (∀ pn xe, PA (X.tr pn xe) es ta) ∧ (∀ F σ H ρ ds (Q : List V → Hp → Prop), ER X.K F σ H ρ → h ρ = .ok ds → (∀ vs H', Same H H' → RDs X.K H' ds vs → Q vs H') → ta σ H Q) ∧ (∀ ρ ds, h ρ = .ok ds → ds.length = es.length) ∧ ∀ ρ c, h ρ ≠ .raise c
section
variable {X : Cx} {EX : XK} {C : Nat → Addr} {pos : Pos}
theorem sat_nil : SAt X [] nA := ⟨tNil, fun _ _ => pa_nil, fun F σ H ρ ds Q er e k => by cases e; exact k [] H (Same.refl H) rfl, fun ρ ds e => by cases e; rfl, fun ρ c e => by cases e⟩
theorem sat_cons {i : Nat} {y : Str} {q : Pos} {es : List Expr} {h : Ev → R (List D)} (pv : ∀ pn xe, PE (X.tr pn xe) (.Name y q) (tVar i)) (ha : SAt X es h) (hs : starEach (.Name y q :: es) X.env = (false, eval (.Name y q) X.env) :: starEach es X.env := by rfl) : SAt X (.Name y q :: es) (cA (rdE i) h) := by
  obtain ⟨ta, pa, qa, la, na⟩ := ha
  have hrd : ∀ ρ, (∃ x, rdE i ρ = .ok x ∧ ∃ o, ρ[i]? = some (.d x o)) ∨ rdE i ρ = .stuck := fun ρ => by
    unfold rdE
    split
    · rename_i x o h; exact .inl ⟨x, rfl, o, h⟩
    · exact .inr rfl
  refine ⟨tCons (tVar i) ta, fun pn xe => pa_cons (pv pn xe) (pa pn xe) hs, fun F σ H ρ ds Q er e k => ?_, fun ρ ds e => ?_, fun ρ c e => ?_⟩
  · rcases hrd ρ with ⟨x, h1, o, h2⟩ | h1
    · simp only [cA, h1, R.ok_bind] at e
      cases hh : h ρ with
      | ok xs =>
        rw [hh] at e
        cases e
        obtain ⟨v, v1, v2⟩ := er.rd h2
        exact ⟨v, v1, qa F σ H ρ xs _ er hh fun vs H' s r => k (v :: vs) H' s ⟨v, vs, rfl, v2.same s, r⟩⟩
      | raise c => exact absurd hh (na ρ c)
      | stuck => rw [hh] at e; cases e
    · simp only [cA, h1, R.stuck_bind] at e; cases e
  · rcases hrd ρ with ⟨x, h1, o, h2⟩ | h1
    · simp only [cA, h1, R.ok_bind] at e
      cases hh : h ρ with
      | ok xs =>
        rw [hh] at e
        cases e
        rw [List.length_cons, List.length_cons, la ρ xs hh]
      | raise c => exact absurd hh (na ρ c)
      | stuck => rw [hh] at e; cases e
    · simp only [cA, h1, R.stuck_bind] at e; cases e
  · rcases hrd ρ with ⟨x, h1, o, h2⟩ | h1
    · simp only [cA, h1, R.ok_bind] at e
      cases hh : h ρ with
      | ok xs => rw [hh] at e; cases e
      | raise c => exact absurd hh (na ρ c)
      | stuck => rw [hh] at e; cases e
    · simp only [cA, h1, R.stuck_bind] at e; cases e
theorem wx_word {K : PySem.W.Frag} {cSome : Value} {i : Nat} {D : Ends} {σ : St} {H : Hp} {c : Nat} (hi : i < σ.length) (hx : PySem.W.exmOne K (.ref (C c)) cSome = some true) (hc : c < 3) (hq : ∀ H', Same H H' → D.rt (.str (wordOf c)) H') :
    wAs K cSome i (tsW C i) (fun _ _ _ _ => False) D (.ref (C c)) none σ H := by
  refine ⟨true, hx, fun _ a ha => ⟨⟨c, hc, rfl, rfl, hq⟩, ?_⟩, fun z => by cases z⟩
  rw [List.getElem?_set_self hi]
theorem ss_tryX {i k kw n : Nat} {es : List Expr} {a : Expr} {h : Ev → R (List D)} {gr : List D → R D} {f x xs e : Str} {p p1 p2 p3 p4 p5 q : Pos} {fpos : Pos} {sp : Pos}
    (cf : Cal X.prog X.w X.K X.mg X.base C f k n gr) (cw : CalW X.prog X.w X.K X.mg X.base C x kw) (hx : ExmAt X.K X.mg C xs) (hr : Room k X.A) (hrw : Room kw X.A) (ha : SAt X (a :: es) h) (pv : ∀ b oe pn, PE (X.suite b ((b, oe) :: pn)) (.Name e q) (tVar i)) (hN : X.N.Nodup)
    (hs : X.stack = X.env :: X.outer := by rfl) (hf : X.env.frame = some X.env.locals := by rfl) (hi : X.N[i]? = some e := by rfl) (hln : X.env.kindOf e = some .local := by rfl)
    (hgf : Gl X f := by rfl) (hgx : Gl X x := by rfl) (hgs : Gl X xs := by rfl) (hlen : n = es.length + 1 := by rfl) (hdf : (f == ("__debug__" : Str)) = false := by decide) (hdx : (x == ("__debug__" : Str)) = false := by decide) (hds : (xs == ("__debug__" : Str)) = false := by decide)
    (he : starEach [.Name e q] X.env = (false, eval (.Name e q) X.env) :: starEach [] X.env := by rfl) (hpl : (backTo p2 (starEach [] X.env)).any (·.1) = false := by rfl)
    (he2 : starEach (a :: es) X.env = (false, eval a X.env) :: starEach es X.env := by rfl) (hpl2 : (backTo fpos (starEach es X.env)).any (·.1) = false := by rfl) (hsw : swapsWith (.Call (.Name f p3) (a :: es) [] fpos) none sp.line X.env = pure false := by rfl) :
    SS X EX C (.Try [.Expr (.Call (.Name f p3) (a :: es) [] fpos) sp] [.ExceptHandler (some (.Name xs p4)) (some e) [.Return (some (.Call (.Name x p) [.Name e q] [] p2)) p1] p5] [] [] pos) (tryO i gr h) := by
  obtain ⟨cs, hms, hex⟩ := hx
  obtain ⟨fa, fd, ps, l1, F, hm, hk, hb⟩ := cf
  obtain ⟨ta, pa, qa, la, na⟩ := ha
  refine ⟨_, L2N.ps_try_as (i := i) (c := .ref cs) (Wout := fun _ _ _ _ => False) (tb := fun W => tDrop (tCallS (spR X.K C n gr) (WE W) ta)) (ts := tsW C i) hs hf hN hi hln ⟨hgs, hds, .inl hms⟩ takes0N ?_ ?_, fun F1 σ H ρ D er w => ?_⟩
  · intro W pn xe tk _
    exact pss_one (ps_expr (pe_callS (X := X.tr pn xe) F hr hgf hm hk hb (fun σ => L2N.passAt tk σ) (pa pn xe) hdf he2 hpl2) hsw)
  · intro b oe cls d pn hz hfl
    exact suiteW cw hrw hz hfl hgx (pv b oe pn) hdx he hpl
  · show ta σ H _
    unfold tryO at w
    cases hh : h ρ with
    | stuck => rw [hh] at w; exact (show False from w).elim
    | raise c => exact absurd hh (na ρ c)
    | ok ds =>
      rw [hh] at w
      refine qa F1 σ H ρ ds _ er hh fun vs H1 s1 r1 => ?_
      refine ⟨ds, by rw [RDs.length r1, la ρ ds hh, hlen]; rfl, r1, ?_⟩
      simp only [R.ok_bind] at w
      cases hg : gr ds with
      | ok d =>
        rw [hg] at w
        intro v H2 s2 _
        exact w F1 σ H2 (Same.refl F1) (Same.tups (s1.trans s2)) (er.mono (s1.trans s2))
      | raise c =>
        rw [hg] at w
        intro H2 s2
        by_cases hc : c < 3 ∧ i < ρ.length
        · simp only [if_pos hc] at w
          exact wx_word (by rw [er.len]; exact hc.2) (hex c hc.1) hc.1 fun H3 s3 => w _ H3 (er.same.trans (s1.trans (s2.trans s3))) rn_str
        · simp only [if_neg hc] at w
          exact (show False from w).elim
      | stuck => rw [hg] at w; exact (show False from w).elim
theorem ss_tryR {i k kw n : Nat} {es : List Expr} {a : Expr} {h : Ev → R (List D)} {gr : List D → R D} {f x xs e : Str} {p p1 p2 p3 p4 p5 q : Pos} {fpos : Pos} {sp : Pos}
    (cf : Cal X.prog X.w X.K X.mg X.base C f k n gr) (cw : CalW X.prog X.w X.K X.mg X.base C x kw) (hx : ExmAt X.K X.mg C xs) (hr : Room k X.A) (hrw : Room kw X.A) (ha : SAt X (a :: es) h) (pv : ∀ b oe pn, PE (X.suite b ((b, oe) :: pn)) (.Name e q) (tVar i)) (hN : X.N.Nodup)
    (hs : X.stack = X.env :: X.outer := by rfl) (hf : X.env.frame = some X.env.locals := by rfl) (hi : X.N[i]? = some e := by rfl) (hln : X.env.kindOf e = some .local := by rfl)
    (hgf : Gl X f := by rfl) (hgx : Gl X x := by rfl) (hgs : Gl X xs := by rfl) (hlen : n = es.length + 1 := by rfl) (hdf : (f == ("__debug__" : Str)) = false := by decide) (hdx : (x == ("__debug__" : Str)) = false := by decide) (hds : (xs == ("__debug__" : Str)) = false := by decide)
    (he : starEach [.Name e q] X.env = (false, eval (.Name e q) X.env) :: starEach [] X.env := by rfl) (hpl : (backTo p2 (starEach [] X.env)).any (·.1) = false := by rfl)
    (he2 : starEach (a :: es) X.env = (false, eval a X.env) :: starEach es X.env := by rfl) (hpl2 : (backTo fpos (starEach es X.env)).any (·.1) = false := by rfl) :
    SS X EX C (.Try [.Return (some (.Call (.Name f p3) (a :: es) [] fpos)) sp] [.ExceptHandler (some (.Name xs p4)) (some e) [.Return (some (.Call (.Name x p) [.Name e q] [] p2)) p1] p5] [] [] pos) (tryRO i gr h) := by
  obtain ⟨cs, hms, hex⟩ := hx
  obtain ⟨fa, fd, ps, l1, F, hm, hk, hb⟩ := cf
  obtain ⟨ta, pa, qa, la, na⟩ := ha
  refine ⟨_, L2N.ps_try_as (i := i) (c := .ref cs) (Wout := fun _ _ _ _ => False) (tb := fun W => tRet (tCallS (spR X.K C n gr) (WE W) ta)) (ts := tsW C i) hs hf hN hi hln ⟨hgs, hds, .inl hms⟩ takes0N ?_ ?_, fun F1 σ H ρ D er w => ?_⟩
  · intro W pn xe tk _
    exact pss_one (ps_ret (pe_callS (X := X.tr pn xe) F hr hgf hm hk hb (fun σ => L2N.passAt tk σ) (pa pn xe) hdf he2 hpl2))
  · intro b oe cls d pn hz hfl
    exact suiteW cw hrw hz hfl hgx (pv b oe pn) hdx he hpl
  · show ta σ H _
    unfold tryRO at w
    cases hh : h ρ with
    | stuck => rw [hh] at w; exact (show False from w).elim
    | raise c => exact absurd hh (na ρ c)
    | ok ds =>
      rw [hh] at w
      refine qa F1 σ H ρ ds _ er hh fun vs H1 s1 r1 => ?_
      refine ⟨ds, by rw [RDs.length r1, la ρ ds hh, hlen]; rfl, r1, ?_⟩
      simp only [R.ok_bind] at w
      cases hg : gr ds with
      | ok d =>
        rw [hg] at w
        intro v H2 s2 r2
        exact w v H2 (er.same.trans (s1.trans s2)) (r2.less (er.same.trans s1))
      | raise c =>
        rw [hg] at w
        intro H2 s2
        by_cases hc : c < 3 ∧ i < ρ.length
        · simp only [if_pos hc] at w
          exact wx_word (by rw [er.len]; exact hc.2) (hex c hc.1) hc.1 fun H3 s3 => w _ H3 (er.same.trans (s1.trans (s2.trans s3))) rn_str
        · simp only [if_neg hc] at w
          exact (show False from w).elim
      | stuck => rw [hg] at w; exact (show False from w).elim
end

/-! ### the word of an exception -/
structure WrdFacts (K : PySem.W.Frag) (mg : Str → Option Value) (C : Nat → Addr) : Prop where
  g0 : mg "NoValue" = some (.ref (C 0))
  g1 : mg "NotPlain" = some (.ref (C 1))
  g2 : mg "NoNote" = some (.ref (C 2))
  ex : ∀ c, c < 3 → ExcC K (C c)
  io : ∀ c j, c < 3 → j < 3 → PySem.W.kitOne K (.ref (C c)) (.ref (C j)) = some (decide (c = j))
  ve : ∀ c, c < 3 → PySem.W.kitOne K (.ref (C c)) (.type "ValueError") = some true
def gW (a : Addr) (x0 x1 x2 : Bool) : Ev → R Out :=
  (seqO (setO 1 (ap mkLst nA))
  (seqO (ifO (tV (exR 0 a x0)) (appO 1 (kS "no value")) nxO)
  (seqO (ifO (tV (exR 0 a x1)) (appO 1 (kS "not plain")) nxO)
  (seqO (ifO (tV (exR 0 a x2)) (appO 1 (kS "no note")) nxO)
  (seqO (ifO (tNot1 (tV (exR 0 a true))) (appO 1 (kS "no ValueError")) nxO)
  (retO (b2 joinD (kS "") (rdE 1))))))))
theorem gW_ok (a : Addr) (c : Nat) (hc : c < 3) : gW a (decide (c = 0)) (decide (c = 1)) (decide (c = 2)) (.raw (.ref a) :: un 1) = .ok (.rt (.t (.str (wordOf c)))) := by
  have h : c = 0 ∨ c = 1 ∨ c = 2 := by omega
  have j0 : joinD (.t (.str "")) (.lst [.str "no value"]) = .ok (.t (.str "no value")) := by rfl
  have j1 : joinD (.t (.str "")) (.lst [.str "not plain"]) = .ok (.t (.str "not plain")) := by rfl
  have j2 : joinD (.t (.str "")) (.lst [.str "no note"]) = .ok (.t (.str "no note")) := by rfl
  have h1 : ∀ (f : Ev → R D) ρ, tV f ρ = (f ρ >>= asB) := fun f ρ => rfl
  rcases h with rfl | rfl | rfl <;> simp [gW, exR, un, mkLst, asTs, appO, asB, rdE, j0, j1, j2, wordOf]
/-- an exception's class in the frame -/
structure EF (K : PySem.W.Frag) (e eS : Addr) : Prop where
  q : PySem.W.excIn K e [.type "ValueError", .type "Exception", .type "BaseException", .type "object"] "ValueError.__new__" = true
  k : PySem.W.keepIn K (.ref e) = true
  s : PySem.W.subIn K (.ref e) (.type "BaseException") = some true
  t : PySem.W.typeIn K (.ref e) = some (.type "type")
  hg : PySem.W.findIn K (.ref e) "__getattribute__" = some (some (.builtin "BaseException.__getattribute__"))
  hk : PySem.W.findIn K (.ref e) "__getattr__" = some none
  hd : PySem.W.hasDictIn K e = true
  ha : PySem.W.findIn K (.ref e) "__class__" = some (some (.builtin "object.__class__"))
  hm : PySem.W.mroIn K e (.type "object") = some true
  v : PySem.W.subIn K (.ref e) (.type "ValueError") = some true
  o : PySem.W.subIn K (.ref e) (.ref eS) = some true
theorem ef_cls {K : PySem.W.Frag} {e eS : Addr} (f : EF K e eS) : (PySem.W.clsIn K e).isSome = true := by
  obtain ⟨cd, hc, _⟩ := PySem.W.any_some f.hd
  rw [hc]; rfl
theorem kit_ref {K : PySem.W.Frag} {e f eS : Addr} (g : EF K f eS) {b : Bool} (hn : e ≠ f ∨ b = true) (h : PySem.W.subIn K (.ref e) (.ref f) = some b) : PySem.W.kitOne K (.ref e) (.ref f) = some b := by
  unfold PySem.W.kitOne
  split
  · rename_i q
    have : e = f := by simpa using q
    rcases hn with hn | hn
    · exact absurd this hn
    · rw [hn]
  · unfold PySem.W.kitCls
    simp only [ef_cls g, g.t]
    exact h
def cs3 (e0 e1 e2 : Addr) (n : Nat) : Addr := if n = 0 then e0 else if n = 1 then e1 else e2
theorem excs_of {K : PySem.W.Frag} {mg : Str → Option Value} {h : Heap} {e0 e1 e2 eS : Addr} (KX : K.In h) (G : h.Ns mainGlobals mg) (n0 : PySem.W.nsIn K mainGlobals "NoValue" = some (some (.ref e0))) (n1 : PySem.W.nsIn K mainGlobals "NotPlain" = some (some (.ref e1))) (n2 : PySem.W.nsIn K mainGlobals "NoNote" = some (some (.ref e2)))
    (nS : PySem.W.nsIn K mainGlobals "SomeError" = some (some (.ref eS))) (f0 : EF K e0 eS) (f1 : EF K e1 eS) (f2 : EF K e2 eS) (h01 : e0 ≠ e1) (h02 : e0 ≠ e2) (h12 : e1 ≠ e2)
    (s01 : PySem.W.subIn K (.ref e0) (.ref e1) = some false) (s02 : PySem.W.subIn K (.ref e0) (.ref e2) = some false) (s10 : PySem.W.subIn K (.ref e1) (.ref e0) = some false) (s12 : PySem.W.subIn K (.ref e1) (.ref e2) = some false) (s20 : PySem.W.subIn K (.ref e2) (.ref e0) = some false) (s21 : PySem.W.subIn K (.ref e2) (.ref e1) = some false)
    (s00 : PySem.W.subIn K (.ref e0) (.ref e0) = some true) (s11 : PySem.W.subIn K (.ref e1) (.ref e1) = some true) (s22 : PySem.W.subIn K (.ref e2) (.ref e2) = some true)
    (tS : PySem.W.typeIn K (.ref eS) = some (.type "type")) (bS : PySem.W.subIn K (.ref eS) (.type "BaseException") = some true) (dS : PySem.W.hasDictIn K eS = true)
    (sn : PySem.W.specialIn K (.builtin "object.__class__") "__get__" = some (some (.builtin "getset_descriptor.__get__"))) (st : PySem.W.takesIn K (.builtin "object.__class__") = some true) :
    WrdFacts K mg (cs3 e0 e1 e2) ∧ ExmAt K mg (cs3 e0 e1 e2) "SomeError" ∧ ExcAt K mg (cs3 e0 e1 e2) "NoValue" 0 ∧ ExcAt K mg (cs3 e0 e1 e2) "NotPlain" 1 ∧ ExcAt K mg (cs3 e0 e1 e2) "NoNote" 2 := by
  have m0 := PySem.W.mg_of KX G n0
  have m1 := PySem.W.mg_of KX G n1
  have m2 := PySem.W.mg_of KX G n2
  have mS := PySem.W.mg_of KX G nS
  have c3 : ∀ c, c < 3 → c = 0 ∨ c = 1 ∨ c = 2 := fun c h => by omega
  have ec : ∀ {e : Addr}, EF K e eS → ExcC K e := fun f => ⟨f.hg, f.hk, f.s, f.hd, f.ha, sn, st, f.hm⟩
  have ev : ∀ {e : Addr}, EF K e eS → PySem.W.kitOne K (.ref e) (.type "ValueError") = some true := fun f => by
    unfold PySem.W.kitOne
    rw [if_neg (by simp)]
    have km : PySem.W.kitMeta "ValueError" = true := by decide +kernel
    simp only [PySem.W.kitCls, km, if_true]
    exact f.v
  have ex : ∀ {e : Addr}, EF K e eS → PySem.W.exmOne K (.ref e) (.ref eS) = some true := fun f => PySem.W.exm_ref bS dS tS f.o
  refine ⟨⟨m0, m1, m2, fun c hc => ?_, fun c j hc hj => ?_, fun c hc => ?_⟩, ⟨eS, mS, fun c hc => ?_⟩, ⟨f0.q, m0, f0.k, f0.s, f0.t⟩, ⟨f1.q, m1, f1.k, f1.s, f1.t⟩, ⟨f2.q, m2, f2.k, f2.s, f2.t⟩⟩
  · rcases c3 c hc with rfl | rfl | rfl
    · exact ec f0
    · exact ec f1
    · exact ec f2
  · rcases c3 c hc with rfl | rfl | rfl <;> rcases c3 j hj with rfl | rfl | rfl
    · exact kit_ref f0 (.inr rfl) s00
    · exact kit_ref f1 (.inl h01) s01
    · exact kit_ref f2 (.inl h02) s02
    · exact kit_ref f0 (.inl h01.symm) s10
    · exact kit_ref f1 (.inr rfl) s11
    · exact kit_ref f2 (.inl h12) s12
    · exact kit_ref f0 (.inl h02.symm) s20
    · exact kit_ref f1 (.inl h12.symm) s21
    · exact kit_ref f2 (.inr rfl) s22
  · rcases c3 c hc with rfl | rfl | rfl
    · exact ev f0
    · exact ev f1
    · exact ev f2
  · rcases c3 c hc with rfl | rfl | rfl
    · exact ex f0
    · exact ex f1
    · exact ex f2
theorem cal_word {P : Program} {w : World} {K : PySem.W.Frag} {mg : Str → Option Value} {base : Heap} {C : Nat → Addr} {x : Str} {st : Stmt} {N : List Str} {y : Str} {k : Nat} (D_ : DefAt K mg x st) (S : FnScope N [y] (defScope st)) (hN : N.length = 2)
    (hbi : ∀ (kV doc pm : Value) (an : Option Addr) (cdv ct : Value) (us : List Value), us.length = 1 → bindArgs (PySem.W.fnOf x x (defArgs st) (defBody st) (defScope st) .none kV doc pm an cdv ct) ⟨us, []⟩ = pure ([y].zip us))
    (hb : ∀ (f : Addr) (cdv : Value) (A : Around) (outer : List Env) (s : Shared) (H : Hp) (E : XK) (p : Addr × Obj) (c : Nat), c < 3 → (∃ vs, p.2.data = .fields vs) → Zc (.ref (C c)) none p.2 →
      SB (L2H.cxH (L2N.CX P w) P w K mg base N x (defScope st) f cdv A outer s H E p) E0 C (defBody st) (gW p.1 (decide (c = 0)) (decide (c = 1)) (decide (c = 2)))) : CalW P w K mg base C x (k + 1) := by
  obtain ⟨fa, fd, F, hg⟩ := D_
  have hbd : Binds K fd [y] [] := F.binds hbi
  have hkp := F.kp
  obtain ⟨oc, od, kV, doc, pm, an, cdv, ct, osl, rfl, lk, hcd⟩ := F.ex
  refine ⟨fa, _, y, runW_of lk hcd S fun A outer s H E p c hc hot hz hr => ?_, hg, hkp, hbd⟩
  obtain ⟨_, vs, e, _⟩ := hot
  refine ⟨_, hb fa cdv A outer s H E p c hc ⟨vs, e⟩ hz, _, ?_, rfl⟩
  rw [hN]
  exact gW_ok p.1 c hc
end Pf

set_option Elab.async false
set_option linter.all false
set_option maxRecDepth 100000
set_option maxHeartbeats 4000000
namespace Pf
open PySem L2 PyProof.Rows
/-! ## dicts whose keys are nested tuples -/
section
variable {X : Cx} {pins : List (Addr × Obj)} {σ : L2.St} {H : Hp} {s : Shared}
mutual
theorem nested_of (I : Inv X pins σ H s) : ∀ (n : Nat) (x : T) (v : V) (u : Value), keyN n x = true → RT X.K H x v → RelV v u → NestedIs s.heap (keyK x) u
  | _, .non, _, _, h, _, _ => by simp [keyN] at h
  | _, .bl _, _, _, h, _, _ => by simp [keyN] at h
  | _, .int i, v, u, _, r, ru => by
    unfold RT at r; subst r
    obtain ⟨t, rfl⟩ := ru
    exact .int i t
  | _, .str i, v, u, _, r, ru => by
    unfold RT at r; subst r
    obtain ⟨t, rfl⟩ := ru
    exact .text i t
  | 0, .tup _, _, _, h, _, _ => by simp [keyN] at h
  | n + 1, .tup xs, v, u, h, r, ru => by
    unfold RT at r
    obtain ⟨a, vs, rfl, q, rs⟩ := r
    cases ru
    obtain ⟨its, rv, ⟨o, ho, hc, m, hd⟩, _⟩ := I.tuple q
    simp only [keyN] at h
    unfold keyK
    exact .tup ho hc hd (by simpa using nesteds_of I n xs vs its h rs rv)
theorem nesteds_of (I : Inv X pins σ H s) : ∀ (n : Nat) (xs : List T) (vs : List V) (us : List Value), keyNs n xs = true → RTs X.K H xs vs → Vals vs us → NestedAll s.heap (keyKs xs) us
  | _, [], vs, us, _, r, ru => by
    rw [r.unnil] at ru
    cases ru
    unfold keyKs; exact .nil
  | n, x :: xs, vs, us, h, r, ru => by
    obtain ⟨v, ws, rfl, r1, rs⟩ := r.uncons
    simp only [keyNs, Bool.and_eq_true] at h
    cases ru with
    | cons ra rb =>
      unfold keyKs
      exact .cons (nested_of I n x v _ h.1 r1 ra) (nesteds_of I n xs ws _ h.2 rs rb)
end
theorem key_at (I : Inv X pins σ H s) {x : T} {b : Addr} (h : keyT x = true) (r : RT X.K H x (.ref b)) : (nestedKind X.prog X.w).is s.heap (keyK x) b := by
  obtain ⟨xs, rfl, h8⟩ := keyT_tup h
  exact ⟨nested_of I 8 _ _ _ h8 r rfl, keyN_depth 8 _ h8⟩
theorem seen_get {w : World} {a : Addr} {xs : List (NestedKey × Addr)} (I : Inv X pins σ H s) (ha : H a = some (SeenO w a xs)) : (a == sysModules) = false ∧ ∃ o es ep, s.heap.get? a = some o ∧ o.ExactDict ∧ o.data = .dict es ep ∧ es.toList = xs.map fun q => (⟨NestedKey.hash w q.1, .ref q.2, .bool true⟩ : DictEntry) := (I.hok a _ ha).1
theorem seen_new {P : Program} {w : World} {H : Hp} {h : Heap} {a : Addr} {xs : List (NestedKey × Addr)} (hs : (a == sysModules) = false) {o : Obj} {es : Array DictEntry} {ep : Nat} (ho : h.get? a = some o) (hx : o.ExactDict) (hd : o.data = .dict es ep) (he : es.toList = xs.map fun q => (⟨NestedKey.hash w q.1, .ref q.2, .bool true⟩ : DictEntry)) : ObjOk P w H h a (SeenO w a xs) :=
  ⟨⟨hs, o, es, ep, ho, hx, hd, he⟩, ⟨o, ho⟩, fun h1 h2 ⟨p0, o1, es1, ep1, p1, p2, p3, p4⟩ k => ⟨p0, o1, es1, ep1, k o1 p1, p2, p3, p4⟩⟩
/-- the keys are keys in the heap -/
theorem seen_is {a : Addr} {ts : List T} {xs : List (NestedKey × Addr)} (I : Inv X pins σ H s) (ha : H a = some (SeenO X.w a xs)) (r : SeenR X.K H ts xs) : s.heap.DictOfH (nestedKind X.prog X.w) a (xs.map fun q => (q.1, q.2, Value.bool true)) := by
  obtain ⟨hs, o, es, ep, ho, hx, hd, he⟩ := seen_get I ha
  refine ⟨o, es, ep, ho, hx, hd, ?_, fun x hxm => ?_, ?_⟩
  · rw [he, List.map_map]; rfl
  · obtain ⟨q, hq, rfl⟩ := List.mem_map.mp hxm
    obtain ⟨i, hi⟩ := List.getElem?_of_mem hq
    have hk : (xs.map (·.1))[i]? = some q.1 := by rw [List.getElem?_map, hi]; rfl
    have hv : (xs.map fun q => V.ref q.2)[i]? = some (V.ref q.2) := by rw [List.getElem?_map, hi]; rfl
    rw [r.keys, List.getElem?_map] at hk
    obtain ⟨t, ht, e⟩ := Option.map_eq_some_iff.mp hk
    obtain ⟨t2, ht2, rt⟩ := RTs.getV r.vals hv
    rw [ht] at ht2; cases ht2
    rw [← e]
    exact key_at I (r.ok t (List.mem_of_getElem? ht)) rt
  · rw [List.map_map]
    have e : xs.map ((·.1) ∘ fun q => (q.1, q.2, Value.bool true)) = xs.map (·.1) := rfl
    rw [e, r.keys]
    have hn := r.nd
    have ho := r.ok
    clear r
    induction ts with
    | nil => simp
    | cons t ts ih =>
      obtain ⟨h1, h2⟩ := List.nodup_cons.mp hn
      rw [List.map_cons, List.nodup_cons]
      refine ⟨fun q => ?_, ih h2 fun t ht => ho t (List.mem_cons_of_mem _ ht)⟩
      obtain ⟨t', ht', e2⟩ := List.mem_map.mp q
      exact h1 (keyT_inj (ho t' (List.mem_cons_of_mem _ ht')) (ho t (by simp)) e2 ▸ ht')
end
noncomputable instance decT : DecidableEq T := fun _ _ => Classical.propDecidable _
noncomputable instance decW : DecidableEq World := fun _ _ => Classical.propDecidable _
noncomputable def putT (ks : List T) (k : T) : List T := if k ∈ ks then ks else ks ++ [k]
theorem atKey_seen {xs : List (NestedKey × Addr)} {k : NestedKey} : (atKey (xs.map fun q => (q.1, q.2, Value.bool true)) k).isSome = true ↔ k ∈ xs.map (·.1) := by
  unfold atKey
  rw [Option.isSome_map, List.find?_isSome]
  constructor
  · rintro ⟨x, hx, e⟩
    obtain ⟨q, hq, rfl⟩ := List.mem_map.mp hx
    exact List.mem_map.mpr ⟨q, hq, by simpa using e⟩
  · intro h
    obtain ⟨q, hq, e⟩ := List.mem_map.mp h
    exact ⟨_, List.mem_map.mpr ⟨q, hq, rfl⟩, by simpa using e⟩
theorem putAt_seen (k : NestedKey) (xs : List (NestedKey × Addr)) : (xs.map fun q => (q.1, q.2, Value.bool true)).map (putAt k (.bool true)) = xs.map fun q => (q.1, q.2, Value.bool true) := by
  rw [List.map_map]
  apply List.map_congr_left
  intro q _
  simp only [Function.comp, putAt]
  split <;> rfl
section
variable {X : Cx} {EX : XK} {C : Nat → Addr} {a b : Expr} {f g : Ev → R D} {pos : Pos}
/-- {} , to be such a dict -/
def kDs (w : World) (_ : Ev) : R D := .ok (.sn w [])
theorem sn_snew : SN X EX C (.Dict [] [] pos) (kDs X.w) := by
  refine ⟨fun _ H Q => ∀ p, H p = none → Q (.ref p) (upd H p (SeenO X.w p [])), ⟨fun pins s σ H Q I h =>
    wpAny_Dict_empty ⟨.ref s.heap.objs.size, _, I.laid (a := s.heap.objs.size) (o := SeenO X.w s.heap.objs.size []) (t' := s.toks) (fun _ _ q => Heap.get?_push_of_some _ q) (Nat.le_refl _) (seen_new (beq_eq_false_iff_ne.mpr (Ne.symm (Nat.ne_of_lt I.big))) (Heap.get?_push_size _ rfl) ⟨rfl, rfl, rfl⟩ rfl rfl), rfl, h _ (I.hok.fresh (Nat.le_refl _))⟩⟩, fun F σ H ρ Q er w p hp => ?_⟩
  have w' : WN X.K EX C H (R.ok (.sn X.w [])) Q := w
  exact w' _ _ (same_new hp _) ⟨p, [], rfl, hp, upd_same, ⟨rfl, RTs.nil, by simp, by simp, by simp⟩⟩
/-- d[k] = True -/
noncomputable def sputO (w : World) (i : Nat) (fk fv : Ev → R D) (ρ : Ev) : R Out := fv ρ >>= fun v => match ρ[i]? with
  | some (.d (.sn w' ks) true) => fk ρ >>= fun k => match k, v with
    | .t k, .t (.bl true) => if w' = w ∧ keyT k = true ∧ ks.length < 16777216 then .ok (.nx (ρ.set i (.d (.sn w (putT ks k)) true))) else .stuck
    | _, _ => .stuck
  | _ => .stuck
def sSPut (w : World) (K : PySem.W.Frag) (td ty tv : TE) : TS := fun D σ H => tv σ H fun v H1 => td σ H1 fun x H2 => ty σ H2 fun y H3 => ∃ (a : Addr) (ts : List T) (xs : List (NestedKey × Addr)) (t : T) (b : Addr), x = .ref a ∧ y = .ref b ∧ v = .bl true ∧ H3 a = some (SeenO w a xs) ∧ SeenR K H3 ts xs ∧
  keyT t = true ∧ RT K H3 t (.ref b) ∧ ts.length < 16777216 ∧ D.nx σ (upd H3 a (SeenO w a (if t ∈ ts then xs else xs ++ [(keyK t, b)])))
theorem ps_sput {o i value : Expr} {pos' : Pos} {td ty tv : TE} (hu : X.A.units + 64 < cLine) (ho : PE X o td) (hi : PE X i ty) (hv : PE X value tv) (hs : swapsWith value (some (.Subscript o i pos')) pos.line X.env = pure false) :
    PS X (.Assign [.Subscript o i pos'] value pos) (sSPut X.w X.K td ty tv) := by
  refine ⟨fun pins s σ H D I h => ?_⟩
  refine wpAny_Assign_Subscript (thn (hv.run pins s σ H _ I h) fun r s1 ⟨v, H1, I1, rv, q1⟩ => thn (ho.run pins s1 σ H1 _ I1 q1) fun u s2 ⟨x, H2, I2, rx, q2⟩ => thn (hi.run pins s2 σ H2 _ I2 q2) fun iv s3 ⟨y, H3, I3, ry, a, ts, xs, t, b, ex, ey, ev, ha, hr, hk, hb, hl, q3⟩ => ?_) hs
  subst ex ey ev
  obtain rfl : u = Value.ref a := rx
  obtain rfl : iv = Value.ref b := ry
  obtain rfl : r = Value.bool true := rv
  have dd := seen_is I3 ha hr
  obtain ⟨hsm, _⟩ := seen_get I3 ha
  have hlen : xs.length = ts.length := by have := congrArg List.length hr.keys; simpa using this
  have hroom : X.A.in1.units + 8 < cLine := by rw [Around.in1_units]; omega
  refine wpAny_setItem_heap (hsz := by rw [List.length_map, sizeLine_eq]; omega) hroom (key_at I3 hk hb) dd fun h' dd' hsb => ?_
  have hmem : (keyK t ∈ xs.map (·.1)) ↔ t ∈ ts := by
    rw [hr.keys]
    constructor
    · intro q
      obtain ⟨t', ht', e⟩ := List.mem_map.mp q
      exact keyT_inj (hr.ok t' ht') hk e ▸ ht'
    · intro q; exact List.mem_map.mpr ⟨t, q, rfl⟩
  have hst : storedH (xs.map fun q => (q.1, q.2, Value.bool true)) (keyK t) b (.bool true) = (if t ∈ ts then xs else xs ++ [(keyK t, b)]).map fun q => (q.1, q.2, Value.bool true) := by
    cases e : atKey (xs.map fun q => (q.1, q.2, Value.bool true)) (keyK t) with
    | some p =>
      rw [storedH_old e, putAt_seen, if_pos (hmem.mp (atKey_seen.mp (by rw [e]; rfl)))]
    | none =>
      rw [storedH_new e, if_neg (fun q => by have := atKey_seen.mpr (hmem.mpr q); rw [e] at this; cases this), List.map_append]; rfl
  rw [hst] at dd'
  obtain ⟨ob, es, ep, hob, hx, hd, he, _, _⟩ := dd'
  refine ⟨σ, upd H3 a (SeenO X.w a (if t ∈ ts then xs else xs ++ [(keyK t, b)])), d_write I3 (by rw [ha]; trivial) hsb ⟨ob, hob⟩ (seen_new hsm hob hx hd ?_), q3⟩
  rw [he, List.map_map]; rfl
theorem ss_sput {i : Nat} {x : Str} {p pos' : Pos} {ek ev : Expr} (hu : X.A.units + 64 < cLine) (hv : PE X (.Name x p) (tVar i)) (hk : SE X EX C ek f) (he : SE X EX C ev g)
    (hs : swapsWith ev (some (.Subscript (.Name x p) ek pos')) pos.line X.env = pure false := by rfl) : SS X EX C (.Assign [.Subscript (.Name x p) ek pos'] ev pos) (sputO X.w i f g) := by
  obtain ⟨tk, pk, qk⟩ := hk
  obtain ⟨te, pe, qe⟩ := he
  refine ⟨_, ps_sput hu hv pk pe hs, fun F σ H ρ D er w => ?_⟩
  refine qe F σ H ρ _ er ((WS.bind w er.same).imp fun d _ k u H1 s1 r1 => ?_)
  split at k
  · rename_i w' kvs h
    have er1 := er.mono s1
    obtain ⟨v, g1, g2, _⟩ := er1.slot _ _ _ h
    obtain ⟨a, xs, rfl, hF, ha, hr⟩ := g2 rfl
    refine ⟨.ref a, g1, ?_⟩
    refine qk F σ H1 ρ _ er1 ((WS.bind (k.grow (Same.refl F) (Same.tups s1)) er1.same).imp fun dk _ k2 vk H2 s2 r2 => ?_)
    split at k2
    · rename_i key _ _
      split at k2
      · rename_i hz
        obtain ⟨rfl, hkt, hlen⟩ := hz
        have r1' := rt_bl (r1.same s2)
        subst r1'
        have r2' : RT X.K H2 key vk := r2
        obtain ⟨zs, rfl, h8⟩ := keyT_tup hkt
        obtain ⟨b, ys, rfl, hb, hys⟩ := rt_tup r2
        have hr2 := hr.mono (fun _ _ q => Same.sqT s2 q)
        have ha2 := s2 _ _ ha
        refine ⟨a, kvs, xs, .tup zs, b, rfl, rfl, rfl, ha2, hr2, hkt, r2', hlen, ?_⟩
        refine k2 F σ _ (Same.refl F) ((Same.tups s2).trans (upd_tups ha2 trivial)) ((er1.mono s2).wrote h (fun z e => by cases e) g1 hF ha2 trivial ?_)
        refine ⟨a, _, rfl, hF, upd_same, ?_⟩
        have hr3 := hr2.mono (fun _ _ q => sqT_upd (o' := SeenO X.w a (if T.tup zs ∈ kvs then xs else xs ++ [(keyK (.tup zs), b)])) ha2 trivial q)
        by_cases hm : T.tup zs ∈ kvs
        · have e : putT kvs (.tup zs) = kvs := by unfold putT; rw [if_pos hm]
          rw [e]
          simp only [if_pos hm] at hr3 ⊢
          exact hr3
        · have e : putT kvs (.tup zs) = kvs ++ [.tup zs] := by unfold putT; rw [if_neg hm]
          rw [e]
          simp only [if_neg hm] at hr3 ⊢
          refine ⟨by rw [List.map_append, List.map_append, hr3.keys]; rfl, ?_, fun t ht => ?_, ?_, by simp; omega⟩
          · rw [List.map_append]
            exact hr3.vals.append (RTs.cons (RT.mono (fun _ _ q => sqT_upd ha2 trivial q) _ _ r2') RTs.nil)
          · rcases List.mem_append.mp ht with q | q
            · exact hr3.ok t q
            · simp at q; rw [q]; exact hkt
          · rw [List.nodup_append]
            exact ⟨hr3.nd, by simp, fun x hx y hy e2 => by simp at hy; subst hy; exact hm (e2 ▸ hx)⟩
      · exact k2.elim
    · exact k2.elim
  · exact k.elim
/-- list(d) -/
def listSn : List D → R D
  | [.sn _ ks] => .ok (.lst ks)
  | _ => .stuck
def rListSn : List V → Hp → VK → Prop := fun vs H Q => ∃ (w : World) (p : Addr) (xs : List (NestedKey × Addr)), vs = [.ref p] ∧ H p = some (SeenO w p xs) ∧ xs.length ≤ 16777216 ∧ ∀ q, H q = none → Q (.ref q) (upd H q (.lst (xs.map fun k => V.ref k.2)))
theorem cr_listSn (hc : X.calm = true) : CallR X (.type "list") rListSn := by
  intro pins s σ H vs us Q I r h
  obtain ⟨w, d, ks, rfl, hd, hz, q⟩ := h
  obtain ⟨u, rfl, rx⟩ := r.one
  cases rx
  obtain ⟨hs, o, es, ep, ho, hx, hdt, he⟩ := seen_get I hd
  have l1 : es.size = ks.length := by rw [← Array.length_toList, he, List.length_map]
  refine PySem.W.kdl_call (kdl_raw hs hx hdt) (I.ok.hd hc) ho (by rw [l1, sizeLine_eq]; exact hz) fun h' tk acc' c' kp e it => ?_
  have ea : acc'.toList = ks.map fun x => Value.ref x.2 := by
    have hl : acc'.toList.length = ks.length := by rw [Array.length_toList, it.1]; exact l1
    apply List.ext_getElem?
    intro j
    rw [List.getElem?_map]
    cases hj : acc'.toList[j]? with
    | none =>
      have h1 := List.getElem?_eq_none_iff.mp hj
      rw [List.getElem?_eq_none (by omega)]
      all_goals rfl
    | some v =>
      obtain ⟨en, hen, hv⟩ := it.2 j v (by rw [← Array.getElem?_toList]; exact hj)
      have qe : es[j]? = (ks[j]?).map fun q => (⟨NestedKey.hash w q.1, .ref q.2, .bool true⟩ : DictEntry) := by rw [← Array.getElem?_toList, he, List.getElem?_map]
      rw [hen] at qe
      cases hb : ks[j]? with
      | none => rw [hb] at qe; cases qe
      | some b =>
        rw [hb] at qe
        have e2 := Option.some.inj qe
        rw [hv, e2]
        all_goals rfl
  have eb : acc'.toList = (ks.map fun x => x.2).map Value.ref := by rw [ea, List.map_map]; all_goals rfl
  have ec : (ks.map fun k => V.ref k.2) = (ks.map fun x => x.2).map V.ref := by rw [List.map_map]; rfl
  have rv : Vals ((ks.map fun x => x.2).map V.ref) acc'.toList := by rw [eb]; exact vals_refs _
  rw [ec] at q
  have hz2 : ((ks.map fun x => x.2).map V.ref).length ≤ sizeLine := by rw [List.length_map, List.length_map, sizeLine_eq]; omega
  refine ⟨.ref s.heap.objs.size, _, I.laid (t' := tk) (o := .lst ((ks.map fun x => x.2).map V.ref)) kp (Nat.le_refl _) ?_, rfl, q _ (I.hok.fresh (Nat.le_refl _))⟩
  exact ⟨hz2, acc'.toList, c', rv, by rw [Array.toArray_toList]; exact e⟩
theorem im_listSn : Impl1 X EX C listSn rListSn := by
  intro ds vs H Q r w
  unfold listSn at w
  split at w
  · rename_i w0 ks
    obtain ⟨v, rfl, a, xs, rfl, ha, hr⟩ := rd1 r
    refine ⟨w0, a, xs, rfl, ha, ?_, fun q hq => w _ _ (same_new hq _) (new_lst hq hr.vals)⟩
    have := congrArg List.length hr.keys
    have h2 := hr.len
    simp at this; omega
  · exact w.elim
/-! ### len(d), tuple(d) -/
def lenSn : List D → R D
  | [.sn _ ks] => .ok (.t (.int ks.length))
  | _ => .stuck
def rLenSn (K : PySem.W.Frag) : List V → Hp → VK → Prop := fun vs H Q => ∃ (w : World) (p : Addr) (xs : List (NestedKey × Addr)), vs = [.ref p] ∧ H p = some (SeenO w p xs) ∧ xs.length ≤ 16777216 ∧ Q (.int xs.length) H
theorem len_body_raw {P : Program} {w : World} {A : Around} {E : Value → Shared → Prop} {s : Shared} {d : Addr} {o : Obj} {es : Array DictEntry} {ep : Nat} {Q : Value → Shared → Prop} (hd : (d == sysModules) = false) (ho : s.heap.get? d = some o) (hx : o.ExactDict) (hdt : o.data = .dict es ep) (hfit : (es.size : Int) < 2 ^ 63)
    (h : Q (.int es.size (s.toks + 1)) { s with toks := s.toks + 1 + 1 }) : wpAny (model P w) A (call (.builtin "len") [.ref d]) Q E s := by
  have hT : s.TypeIs (.ref d) "dict" := ⟨o, ho, hx.1⟩
  have hm : MeetsIn P w (Builtin.«dict.__len__» ⟨[.ref d], []⟩) (fun _ R s => (s.heap.get? d = some o) ∧ R (.ok (.ret (.int es.size s.toks))) { s with toks := s.toks + 1 }) :=
    .of_wp fun A R s ⟨ho, h⟩ => by
      show wpAny _ _ (dictSize d >>= _) _ _ s
      unfold dictSize
      refine wpAny_bind (wpAny_bind (wpAny_dictEntries ho hdt (wpAny_pure ?_)))
      show wpAny _ _ (Builtin.Dict.pendingCount d >>= _) _ _ s
      refine wpAny_bind (wpAny_pendingCount_other hd ?_)
      refine wpAny_ret_mkInt ?_
      rw [Nat.add_zero]; exact h
  refine Calls.call_function_entry kind_len plain_len entry_len (args_len1 _) ?_
  unfold Builtin.«len»
  refine wpAny_bind (m := oneArg "len" _) (wpAny_pure ?_)
  refine wpAny_bind (m := callSpecial? (.ref d) (Str.ofString "__len__")) (wpAny_callSpecial?_slot (name := Str.ofString "__len__") hT F.slot_dict_len
    (call_meetsIn F.slot_dict_len hT F.entry_dict_len (F.args_dict_len_1 _) hm ⟨ho, ?_⟩))
  show wpAny _ _ _ _ _ { s with toks := s.toks + 1 }
  refine wpAny_bind (wpAny_holding (wpAny_pure ?_))
  refine wpAny_bind (wpAny_letGo ?_)
  show wpAny _ _ (if ((es.size : Nat) : Int) < 0 then _ else _) _ _ _
  rw [if_neg (by omega)]
  show wpAny _ _ (if ((es.size : Nat) : Int) ≥ 2 ^ 63 then _ else _) _ _ _
  rw [if_neg (by omega)]
  exact wpAny_bind (wpAny_mkInt (wpAny_pure ⟨_, rfl, h⟩))
theorem cr_lenSn : CallR X (.builtin "len") (rLenSn X.K) := by
  intro pins s σ H vs us Q I r h
  obtain ⟨w, d, ks, rfl, hd, hz, q⟩ := h
  obtain ⟨u, rfl, rx⟩ := r.one
  cases rx
  obtain ⟨hs, o, es, ep, ho, hx, hdt, he⟩ := seen_get I hd
  have l1 : es.size = ks.length := by rw [← Array.length_toList, he, List.length_map]
  refine len_body_raw hs ho hx hdt (by omega) ?_
  rw [l1]
  exact ⟨.int ks.length, H, I.tok _, ⟨_, rfl⟩, q⟩
theorem im_lenSn : Impl1 X EX C lenSn (rLenSn X.K) := by
  intro ds vs H Q r w
  unfold lenSn at w
  split at w
  · rename_i w0 ks
    obtain ⟨v, rfl, a, xs, rfl, ha, hr⟩ := rd1 r
    have hl : xs.length = ks.length := by have := congrArg List.length hr.keys; simpa using this
    refine ⟨w0, a, xs, rfl, ha, by rw [hl]; exact hr.len, ?_⟩
    rw [hl]
    exact w _ H (Same.refl H) rn_int
  · exact w.elim
theorem collect_raw {P : Program} {w : World} {A : Around} {E : Value → Shared → Prop} {s : Shared} {d : Addr} {o : Obj} {es : Array DictEntry} {ep : Nat} {Q : List Value → Shared → Prop} (hh : A.handled = none) (hs : (d == sysModules) = false) (ho : s.heap.get? d = some o) (hx : o.ExactDict) (hdt : o.data = .dict es ep) (hz : es.size ≤ sizeLine)
    (hQ : ∀ (h' : Heap) (tk : Nat) (acc : Array Value), (∀ b o, s.heap.get? b = some o → h'.get? b = some o) → ItemsOf (fun i v => ∃ en : DictEntry, es[i]? = some en ∧ v = en.key) acc es.size → Q acc.toList { s with heap := h', toks := tk }) :
    wpAny (model P w) A (collect (.ref d)) Q E s := by
  unfold collect
  refine wpAny_bind (wpAny_runValue (codeAny_builtin F.entry_proto_collect ?_))
  rw [Around.under_plainId F.plain_proto_collect _]
  show wpAny _ A.in1 (newList [] >>= fun l => again (.builtin "list.__iadd__" ⟨[l, .ref d], []⟩)) _ _ s
  refine wpAny_bind (wpAny_newObj_type ?_)
  refine wpAny_pure ⟨plainId_quiet F.plain_list_iadd _, codeAny_builtin F.entry_list_iadd ?_⟩
  rw [Around.under_plainId F.plain_list_iadd _]
  show wpAny _ A.in1 (Builtin.List.listExtendWith (.ref s.heap.objs.size) (.ref d) (.ref s.heap.objs.size)) _ _ _
  have hS : (s.heap.push { cls := .type "list", data := .seq ([] : List Value).toArray }).get? s.heap.objs.size = some { cls := .type "list", data := .seq #[] 0 } := Heap.get?_push_size _ rfl
  have hne : s.heap.objs.size ≠ d := (Nat.ne_of_lt (Heap.lt_size ho)).symm
  refine wpAny_mono (PySem.W.kdl_extend (A := A) (R := fun rr s' => rr = .ok (.ret (.ref s.heap.objs.size)) ∧ ∃ (h' : Heap) (tk : Nat) (acc : Array Value) (c' : Nat), s' = { s with heap := h', toks := tk } ∧
      (∀ b o, s.heap.get? b = some o → h'.get? b = some o) ∧ h'.get? s.heap.objs.size = some { cls := .type "list", dict := none, data := .seq acc c', slots := #[] } ∧ ItemsOf (fun i v => ∃ en : DictEntry, es[i]? = some en ∧ v = en.key) acc es.size)
    (s := { s with heap := s.heap.push { cls := .type "list", data := .seq ([] : List Value).toArray } }) (kdl_raw hs hx hdt) hh (Heap.get?_push_of_some _ ho) _ hne hne _ 0 hS
    (fun h' tk acc c' hk e hi => ⟨rfl, h', tk, acc, c', rfl, fun b o q => hk b o (Nat.ne_of_lt (Heap.lt_size q)) (Heap.get?_push_of_some _ q), e, hi⟩) hz) (fun fin s' h => ?_) (fun e s' h => ?_)
  · cases fin with
    | done f =>
      obtain ⟨e, h', tk, acc, c', rfl, hk, hS', hi⟩ := h
      cases e
      show wpAny _ A (load s.heap.objs.size >>= _) _ _ _
      exact wpAny_bind (wpAny_load hS' (wpAny_pure (hQ h' tk acc hk hi)))
    | again c' =>
      refine ⟨h.1, codeAny_mono h.2 fun rr s'' hr' => ?_⟩
      obtain ⟨rfl, h', tk, acc, c', rfl, hk, hS', hi⟩ := hr'
      show wpAny _ A (load s.heap.objs.size >>= _) _ _ _
      exact wpAny_bind (wpAny_load hS' (wpAny_pure (hQ h' tk acc hk hi)))
  · exact absurd h.1 (by simp)
theorem code_tuple_raw {P : Program} {w : World} {A : Around} {E : Value → Shared → Prop} {s : Shared} {d : Addr} {o : Obj} {es : Array DictEntry} {ep : Nat} {Q₁ : Value → Shared → Prop} (hh : A.handled = none) (hs : (d == sysModules) = false) (ho : s.heap.get? d = some o) (hx : o.ExactDict) (hdt : o.data = .dict es ep) (hz : es.size ≤ sizeLine)
    (h : ∀ (h' : Heap) (tk : Nat) (acc : Array Value), (∀ b o, s.heap.get? b = some o → h'.get? b = some o) → ItemsOf (fun i v => ∃ en : DictEntry, es[i]? = some en ∧ v = en.key) acc es.size →
      Q₁ (.ref h'.objs.size) { s with heap := h'.push { cls := .type "tuple", data := .seq acc }, toks := tk }) :
    codeAny (model P w) A (.call (.builtin "tuple.__new__") ⟨[.type "tuple", .ref d], []⟩) (wants Q₁ E) s := by
  refine codeAny_of_tree ?_
  show wpAny _ A.in1 (do checkBuiltinCall "tuple.__new__" ⟨[.type "tuple", .ref d], []⟩; again (.builtin "tuple.__new__" ⟨[.type "tuple", .ref d], []⟩)) _ _ s
  refine wpAny_bind (wpAny_of_eq (F.newCall_tuple_1 _) (wpAny_pure ⟨plainId_quiet F.plain_tuple_new _, codeAny_builtin F.entry_tuple_new ?_⟩))
  rw [Around.under_plainId F.plain_tuple_new _]
  have hsub := sub_tuple_self
  have hinit := init_tuple_lookup
  have hmh := madeHere_tuple
  have hTI : s.TypeIs (.ref d) "dict" := ⟨_, ho, hx.1⟩
  have hh1 : A.in1.handled = none := hh
  wp_walk using wpAny_typeOf hTI, collect_raw (A := A.in1) hh1 hs ho hx hdt hz
  intro h' tk acc hk hacc
  show wpAny _ _ (Builtin.Tuple.tupleExact acc.toList.toArray >>= fun v => ret v) _ _ _
  unfold Builtin.Tuple.tupleExact
  refine wpAny_bind (wpAny_newObj_type ?_ (by show acc.toList.toArray.size ≤ sizeLine; simp only [Array.toArray_toList]; rw [hacc.1]; exact hz))
  refine wpAny_pure ?_
  have e : acc.toList.toArray = acc := by simp
  rw [e]
  exact h h' tk acc hk hacc
theorem call_tuple_raw {P : Program} {w : World} {A : Around} {E : Value → Shared → Prop} {s : Shared} {d : Addr} {o : Obj} {es : Array DictEntry} {ep : Nat} {Q : Value → Shared → Prop} (hh : A.handled = none) (hs : (d == sysModules) = false) (ho : s.heap.get? d = some o) (hx : o.ExactDict) (hdt : o.data = .dict es ep) (hz : es.size ≤ sizeLine)
    (hQ : ∀ (h' : Heap) (tk : Nat) (acc : Array Value), (∀ b o, s.heap.get? b = some o → h'.get? b = some o) → ItemsOf (fun i v => ∃ en : DictEntry, es[i]? = some en ∧ v = en.key) acc es.size →
      Q (.ref h'.objs.size) { s with heap := h'.push { cls := .type "tuple", data := .seq acc }, toks := tk }) :
    wpAny (model P w) A (call (.type "tuple") [.ref d]) Q E s := by
  refine callType_codes (Q₁ := fun obj s₁ => s₁.TypeIs obj "tuple" ∧ Q obj s₁) F.called_tuple (F.typeCall_tuple_1 _) F.entry_object_init
    (code_tuple_raw (A := A.in1) hh hs ho hx hdt hz fun h' tk acc hk hacc => ⟨⟨_, Heap.get?_push_size _ rfl, rfl⟩, hQ h' tk acc hk hacc⟩) fun obj s₁ h₁ => ?_
  exact ⟨h₁.1, F.args_object_init_2 obj _, object_init_meets F.called_tuple.init.lookup F.called_tuple.made (by decide) P w A.in1 _ s₁ ⟨h₁.1, rfl, h₁.2⟩⟩
def tupleSn : List D → R D
  | [.sn _ ks] => .ok (.t (.tup ks))
  | _ => .stuck
def rTupleSn : List V → Hp → VK → Prop := fun vs H Q => ∃ (w : World) (p : Addr) (xs : List (NestedKey × Addr)), vs = [.ref p] ∧ H p = some (SeenO w p xs) ∧ xs.length ≤ 16777216 ∧ ∀ q, H q = none → Q (.ref q) (upd H q (.tup (xs.map fun k => V.ref k.2)))
theorem keys_of_raw {w : World} {es : Array DictEntry} {ks : List (NestedKey × Addr)} {acc : Array Value} (he : es.toList = ks.map fun q => (⟨NestedKey.hash w q.1, .ref q.2, .bool true⟩ : DictEntry)) (it : ItemsOf (fun i v => ∃ en : DictEntry, es[i]? = some en ∧ v = en.key) acc es.size) : acc.toList = (ks.map fun x => x.2).map Value.ref := by
  have l1 : es.size = ks.length := by rw [← Array.length_toList, he, List.length_map]
  have ea : acc.toList = ks.map fun x => Value.ref x.2 := by
    have hl : acc.toList.length = ks.length := by rw [Array.length_toList, it.1]; exact l1
    apply List.ext_getElem?
    intro j
    rw [List.getElem?_map]
    cases hj : acc.toList[j]? with
    | none =>
      have h1 := List.getElem?_eq_none_iff.mp hj
      rw [List.getElem?_eq_none (by omega)]
      all_goals rfl
    | some v =>
      obtain ⟨en, hen, hv⟩ := it.2 j v (by rw [← Array.getElem?_toList]; exact hj)
      have qe : es[j]? = (ks[j]?).map fun q => (⟨NestedKey.hash w q.1, .ref q.2, .bool true⟩ : DictEntry) := by rw [← Array.getElem?_toList, he, List.getElem?_map]
      rw [hen] at qe
      cases hb : ks[j]? with
      | none => rw [hb] at qe; cases qe
      | some b =>
        rw [hb] at qe
        have e2 := Option.some.inj qe
        rw [hv, e2]
        all_goals rfl
  rw [ea, List.map_map]; all_goals rfl
theorem cr_tupleSn (hc : X.calm = true) : CallR X (.type "tuple") rTupleSn := by
  intro pins s σ H vs us Q I r h
  obtain ⟨w, d, ks, rfl, hd, hz, q⟩ := h
  obtain ⟨u, rfl, rx⟩ := r.one
  cases rx
  obtain ⟨hs, o, es, ep, ho, hx, hdt, he⟩ := seen_get I hd
  have l1 : es.size = ks.length := by rw [← Array.length_toList, he, List.length_map]
  refine call_tuple_raw (I.ok.hd hc) hs ho hx hdt (by rw [l1, sizeLine_eq]; exact hz) fun h' tk acc kp it => ?_
  have eb := keys_of_raw he it
  have ec : (ks.map fun k => V.ref k.2) = (ks.map fun x => x.2).map V.ref := by rw [List.map_map]; rfl
  have rv : Vals ((ks.map fun x => x.2).map V.ref) acc.toList := by rw [eb]; exact vals_refs _
  rw [ec] at q
  have hz2 : ((ks.map fun x => x.2).map V.ref).length ≤ sizeLine := by rw [List.length_map, List.length_map, sizeLine_eq]; omega
  have I1 : Inv X pins σ H { s with heap := h', toks := tk } := I.kept (t' := tk) kp
  refine ⟨.ref h'.objs.size, upd H h'.objs.size (.tup ((ks.map fun x => x.2).map V.ref)), I1.laid (t' := tk) (fun b o e => Heap.get?_push_of_some _ e) (Nat.le_refl _) ?_, rfl, q _ (I1.hok.fresh (Nat.le_refl _))⟩
  exact ⟨hz2, acc.toList, rv, by simpa using IsTup.new _ _⟩
theorem im_tupleSn : Impl1 X EX C tupleSn rTupleSn := by
  intro ds vs H Q r w
  unfold tupleSn at w
  split at w
  · rename_i w0 ks
    obtain ⟨v, rfl, a, xs, rfl, ha, hr⟩ := rd1 r
    refine ⟨w0, a, xs, rfl, ha, ?_, fun q hq => w _ _ (same_new hq _) (new_tup hq hr.vals)⟩
    have := congrArg List.length hr.keys
    have h2 := hr.len
    simp at this; omega
  · exact w.elim
end
end Pf

set_option Elab.async false
set_option linter.all false
set_option maxRecDepth 100000
set_option maxHeartbeats 4000000
namespace Pf
open PySem L2 PyProof.Rows
/-! ## sorted(set(ints)): a set of ints as the walk has it -/
theorem ints_len : ∀ {us : List Value} {xs : List Int}, IntsAre us xs → us.length = xs.length
  | _, _, .nil => rfl
  | _, _, .cons n t r => by simp [ints_len r]
theorem ints_at : ∀ {us : List Value} {xs : List Int}, IntsAre us xs → ∀ (i : Nat) (v : Value), us[i]? = some v → ∃ t, v = .int (xs.getD i 0) t
  | _, _, .nil, i, v, e => by simp at e
  | _, _, .cons n t r, 0, v, e => by simp at e; subst e; exact ⟨t, rfl⟩
  | _, _, .cons n t r, i + 1, v, e => by
    obtain ⟨t', h⟩ := ints_at r i v (by simpa using e)
    exact ⟨t', by simpa using h⟩
def ixO (e : Int × Value)  : Int := match e.2 with | .int k _ => k | _ => 0
def IxE (P : Program) (w : World) (e : Int × Value) : Prop := ∃ k tk, e.2 = Value.int k tk ∧ e.1 = (PySem.intKind P w).hash k
/-- the texts ks stand in the set at a -/
def IxS (P : Program) (w : World) (h : Heap) (a : Addr) (ks : List Int) : Prop :=
  ∃ o es ep t, h.get? a = some o ∧ o.ExactSet ∧ o.data = .set es ep t ∧ (∀ e ∈ es.toList, IxE P w e) ∧ (es.toList.map ixO).Perm ks ∧ ks.Nodup ∧ es.size < scanBound ∧ t.fits es.size = true ∧ Ris t.place.toList ∧ (w.params.followText "set-order" = true ∨ t.led = true)
section
variable {P : Program} {w : World} {h h' : Heap} {a : Addr} {ks : List Int}
theorem IxS.move (R : IxS P w h a ks) (k : ∀ o, h.get? a = some o → h'.get? a = some o) : IxS P w h' a ks := by
  obtain ⟨o, es, ep, t, ho, r⟩ := R
  exact ⟨o, es, ep, t, k o ho, r⟩
theorem IxS.size (R : IxS P w h a ks) : ks.length < scanBound := by
  obtain ⟨o, es, ep, t, _, _, _, _, pm, _, hb, _⟩ := R
  rw [← pm.length_eq, List.length_map, Array.length_toList]; exact hb
theorem ix_elems {l : List (Int × Value)} (g : ∀ e ∈ l, IxE P w e) : ElemsOf (PySem.intKind P w) l := fun e he => by
  obtain ⟨k, tk, h1, h2⟩ := g e he
  refine ⟨⟨k, ?_, h2⟩, ?_⟩
  · rw [h1]; exact intKind_is P w k tk
  · rw [h1]; rfl
theorem ix_is {e : Int × Value} (g : IxE P w e) (k : Int) : (PySem.intKind P w).is k e.2 = true ↔ ixO e = k := by
  obtain ⟨k0, tk, h1, _⟩ := g
  have q0 : (PySem.intKind P w).is k0 e.2 = true := by rw [h1]; exact intKind_is P w k0 tk
  have e0 : ixO e = k0 := by unfold ixO; rw [h1]
  rw [e0]
  exact ⟨fun q => (PySem.intKind P w).inj e.2 k0 k q0 q, fun q => q ▸ q0⟩
theorem ix_mem {l : List (Int × Value)} (g : ∀ e ∈ l, IxE P w e) (k : Int) : k ∈ l.map ixO ↔ ∃ e ∈ l, (PySem.intKind P w).is k e.2 = true := by
  rw [List.mem_map]
  exact ⟨fun ⟨e, he, q⟩ => ⟨e, he, (ix_is (g e he) k).2 q⟩, fun ⟨e, he, q⟩ => ⟨e, he, (ix_is (g e he) k).1 q⟩⟩
end
section
variable {P : Program} {w : World} {A : Around} {E : Value → Shared → Prop} {s : Shared} {a : Addr} {ks : List Int}
theorem ix_tail {g : Bool → Sem Unit} (hg : ∀ (b : Bool) (s₁ : Shared) (Q' : Unit → Shared → Prop), Q' () s₁ → wpAny (model P w) A (g b) Q' E s₁) {o : Obj} {es : Array (Int × Value)} {ep : Nat} {t : SetTable} (ho : s.heap.get? a = some o) (hex : o.ExactSet) (hd : o.data = .set es ep t)
    {es1 : Array (Int × Value)} {t2 : SetTable} (g1 : ∀ e ∈ es1.toList, IxE P w e) (p1 : (es1.toList.map ixO).Perm ks) (nd : ks.Nodup) (hb1 : es1.size < scanBound) (hf2 : t2.fits es1.size = true) (hr : Ris t2.place.toList) (hl : w.params.followText "set-order" = true ∨ t2.led = true) {dm : Bool} {R : Option Bool → Shared → Prop}
    (hR : ∀ h', Heap.SameBut a s.heap h' → IxS P w h' a ks → R (some true) { s with heap := h' }) :
    wpAny (model P w) A (do
        storeSet a es1 t2
        if (!dm && t2.tooFull) = true then do
            g (relayAll t2 es1 (SetTable.grown es1.size)).2.2
            storeSet a (relayAll t2 es1 (SetTable.grown es1.size)).1 (relayAll t2 es1 (SetTable.grown es1.size)).2.1
            pure (some true)
          else pure (some true)) R E s := by
  refine wpAny_bind (wpAny_storeSet_of ho hd ?_ (fits_of_scanBound hb1))
  have u1 := store_at (es' := es1) (t' := t2) ho hd
  have b1 := Heap.SameBut.update s.heap a (Obj.putSet es1 t2)
  split
  · have pm := relayAll_perm t2 es1 (SetTable.grown es1.size)
    have f3 := relayAll_fits t2 es1 (SetTable.grown es1.size)
    have r3 := relayAll_ris t2 es1 (SetTable.grown es1.size) 
    have l3 := relayAll_led t2 es1 (SetTable.grown es1.size)
    generalize relayAll t2 es1 (SetTable.grown es1.size) = Z at pm f3 r3 l3 ⊢
    obtain ⟨es2, t3, gv⟩ := Z
    dsimp only at pm f3 r3 l3 ⊢
    have b2 : es2.size < scanBound := by
      have q := pm.length_eq
      rw [Array.length_toList, Array.length_toList] at q
      rw [q]; exact hb1
    refine wpAny_bind (hg _ _ _ (wpAny_bind (wpAny_storeSet_of u1 rfl ?_ (fits_of_scanBound b2))))
    have u2 := store_at (es' := es2) (t' := t3) u1 rfl
    exact wpAny_pure (hR _ (b1.trans (Heap.SameBut.update _ a _)) ⟨_, es2, _, t3, u2, hex, rfl, fun e he => g1 e (pm.mem_iff.mp he), (pm.map ixO).trans p1, nd, b2, f3, r3, hl.imp id fun z => l3.trans z⟩)
  · exact wpAny_pure (hR _ b1 ⟨_, es1, _, t2, u1, hex, rfl, g1, p1, nd, hb1, hf2, hr, hl⟩)
theorem ix_add {k : Int} {tk : Tok} {Q : Bool → Shared → Prop} (R : IxS P w s.heap a ks) (room : ks.length + 1 < scanBound)
    (hQ : ∀ h' b, Heap.SameBut a s.heap h' → IxS P w h' a (if k ∈ ks then ks else k :: ks) → Q b { s with heap := h' }) :
    wpAny (model P w) A (setAddHashed a (.int k tk) ((PySem.intKind P w).hash k)) Q E s := by
  have R0 := R
  obtain ⟨o, es, ep, t, ho, hex, hd, g, pm0, nd, hb, hf, hr, hl⟩ := R
  have hkey : (PySem.intKind P w).is k (.int k tk) = true := intKind_is P w k tk
  have hsc : (Value.int k tk).scannable = true := rfl
  have hel : ElemsOf (PySem.intKind P w) es.toList := ix_elems g
  have hmem : k ∈ ks ↔ ∃ e ∈ es.toList, (PySem.intKind P w).is k e.2 = true := by rw [← pm0.mem_iff]; exact ix_mem g k
  unfold setAddHashed setAddHashedIn
  refine wpAny_holding (wpAny_bind (wpAny_setState_of ho hd hf ?_))
  dsimp only
  rw [byScan_of hsc hb hel, if_pos rfl]
  unfold setAddByScan
  refine wpAny_bind (wpAny_bind (wpAny_rule (wpAny_bind (wpAny_setScan_of hkey ho hd hf hel ?_))))
  cases hfi : List.findIdx? (fun e => (PySem.intKind P w).is k e.2) es.toList with
  | some j =>
    dsimp only
    obtain ⟨hj, pj, _⟩ := List.findIdx?_eq_some_iff_getElem.mp hfi
    have hin : k ∈ ks := hmem.2 ⟨es.toList[j], List.getElem_mem hj, pj⟩
    have q := fun b => hQ s.heap b (Heap.SameBut.refl a s.heap)
    rw [if_pos hin] at q
    exact wpAny_pure (wpAny_pure (q _ R0))
  | none =>
    dsimp only
    have hout : ¬ k ∈ ks := fun z => by
      obtain ⟨e, he, q⟩ := hmem.1 z
      have c := List.findIdx?_eq_none_iff.mp hfi e he
      rw [q] at c; cases c
    have hgw : ∀ (b : Bool) {s₁ : Shared} {Q' : Unit → Shared → Prop}, Q' () s₁ → wpAny (model P w) A (match b with | true => rule "set.scan.the-table-gave-way" | false => pure ()) Q' E s₁ := fun b s₁ Q' q => by
      cases b
      · exact wpAny_pure q
      · exact wpAny_rule q
    have pm := layNew_perm t es ((PySem.intKind P w).hash k) (.int k tk)
    have f1 := layNew_fits t es ((PySem.intKind P w).hash k) (.int k tk)
    have r1 := layNew_ris t es ((PySem.intKind P w).hash k) (.int k tk) hr
    have l1 := layNew_led t es ((PySem.intKind P w).hash k) (.int k tk)
    generalize layNew t es ((PySem.intKind P w).hash k) (.int k tk) = Z at pm f1 r1 l1 ⊢
    obtain ⟨es1, t1, dm, gv⟩ := Z
    dsimp only at pm f1 r1 l1 ⊢
    rw [Array.toList_push] at pm
    have pc : es1.toList.Perm (((PySem.intKind P w).hash k, Value.int k tk) :: es.toList) := pm.trans (List.perm_append_singleton _ _)
    have pk : (es1.toList.map ixO).Perm (k :: ks) := (pc.map ixO).trans (pm0.cons k)
    have g1 : ∀ e ∈ es1.toList, IxE P w e := fun e he => (List.mem_cons.mp (pc.mem_iff.mp he)).elim (fun z => z ▸ ⟨k, tk, rfl, rfl⟩) (g e)
    have b1 : es1.size < scanBound := by
      have q := pk.length_eq
      rw [List.length_map, Array.length_toList, List.length_cons] at q
      rw [q]; exact room
    have led : w.params.followText "set-order" = true ∨ t1.led = true := hl.imp id fun z => l1.trans z
    have fin : ∀ h' b, Heap.SameBut a s.heap h' → IxS P w h' a (k :: ks) → Q b { s with heap := h' } := fun h' b sb r => hQ h' b sb (by rw [if_neg hout]; exact r)
    have nd1 := List.nodup_cons.mpr ⟨hout, nd⟩
    refine wpAny_bind (hgw _ ?_)
    split
    · refine wpAny_bind ?_
      rw [hashByValue_scannable 8 hsc]
      refine wpAny_pure (ix_tail ?_ ho hex hd g1 pk nd1 b1 ?_ ?_ ?_ ?_)
      · intro b s₁ Q' q; cases b <;> first | exact wpAny_pure q | exact wpAny_rule q
      · first | (split <;> first | exact f1 | exact SetTable.fits_plain_off f1) | exact f1
      · first | (split <;> exact r1) | exact r1
      · first | (split <;> exact led) | exact led
      · intro h' sb r; dsimp only; exact wpAny_pure (fin h' _ sb r)
    · refine wpAny_bind (wpAny_pure ?_)
      rw [if_pos rfl]
      refine ix_tail ?_ ho hex hd g1 pk nd1 b1 f1 r1 led ?_
      · intro b s₁ Q' q; cases b <;> first | exact wpAny_pure q | exact wpAny_rule q
      · intro h' sb r; dsimp only; exact wpAny_pure (fin h' _ sb r)
end
/-- what the first of xs put one by one leave -/
def putI : List Int → List Int → List Int
  | ks, [] => ks
  | ks, x :: r => putI (if x ∈ ks then ks else x :: ks) r
theorem putI_app : ∀ (xs ks : List Int) (x : Int), putI ks (xs ++ [x]) = if x ∈ putI ks xs then putI ks xs else x :: putI ks xs
  | [], ks, x => rfl
  | y :: r, ks, x => putI_app r _ x
theorem putI_len : ∀ (xs ks : List Int), (putI ks xs).length ≤ ks.length + xs.length
  | [], ks => Nat.le_refl _
  | x :: r, ks => by
    have := putI_len r (if x ∈ ks then ks else x :: ks)
    unfold putI
    refine Nat.le_trans this ?_
    split <;> simp <;> omega
theorem putI_mem (s : Int) : ∀ (xs ks : List Int), s ∈ putI ks xs ↔ s ∈ ks ∨ s ∈ xs
  | [], ks => by simp [putI]
  | x :: r, ks => by
    unfold putI
    rw [putI_mem s r]
    by_cases h : x ∈ ks
    · rw [if_pos h]; simp only [List.mem_cons]
      exact ⟨fun q => q.elim .inl fun q => .inr (.inr q), fun q => q.elim .inl fun q => q.elim (fun e => .inl (e ▸ h)) .inr⟩
    · rw [if_neg h]; simp only [List.mem_cons]
      exact ⟨fun q => q.elim (fun q => q.elim (fun e => .inr (.inl e)) .inl) fun q => .inr (.inr q), fun q => q.elim (fun q => .inl (.inr q)) fun q => q.elim (fun e => .inl (.inl e)) .inr⟩
theorem putI_nodup : ∀ (xs ks : List Int), ks.Nodup → (putI ks xs).Nodup
  | [], ks, h => h
  | x :: r, ks, h => by
    unfold putI
    refine putI_nodup r _ ?_
    split
    · exact h
    · rename_i q; exact List.nodup_cons.mpr ⟨q, h⟩
section
variable {P : Program} {w : World} {A : Around} {E : Value → Shared → Prop} {s : Shared}
theorem ix_loop {I : Addr} {fp wr : List Addr} {G : Array GenState → Array GenState → Prop} {n : Nat} {Pv : Nat → Value → Prop} {St : Nat → Shared → Prop} {R : Result → Shared → Prop}
    (W : WalksS P w A.in1 I fp wr G n Pv St) (S : Addr) (hSf : S ∉ fp) (xs : List Int) (hn : n = xs.length) (hb : xs.length + 1 < scanBound) (hval : ∀ i v, Pv i v → ∃ k t, xs[i]? = some k ∧ v = .int k t) :
    ∀ (k i : Nat) (s : Shared), n - i = k → i ≤ n → St i s → IxS P w s.heap S (putI [] (xs.take i)) →
      (∀ s', Moved (S :: wr) G s s' → IxS P w s'.heap S (putI [] xs) → R (.ok (.ret .none)) s') → codeAny (model P w) A (.builtin "set.update.loop" ⟨[.ref S, .ref I], []⟩) R s := by
  have hSw : S ∉ wr := fun h => hSf (W.sub _ h)
  have hsub : ∀ b ∈ wr, b ∈ S :: wr := fun b hb => List.mem_cons_of_mem _ hb
  intro k
  induction k with
  | zero =>
    intro i s hk' hi hst hS hR
    have hin : i = n := by omega
    subst hin
    refine codeAny_builtin F.entry_set_update_loop ?_
    rw [Around.under_plainId F.plain_set_update_loop _]
    refine wpAny_bind (m := pyNext (.ref I)) (W.done s _ _ hst fun s' hm => ?_)
    rw [List.take_of_length_le (by omega)] at hS
    exact wpAny_pure (hR s' (hm.mono hsub) (hS.move fun o e => hm.heap S o hSw e))
  | succ k ih =>
    intro i s hk' hi hst hS hR
    have hlt : i < n := by omega
    refine codeAny_builtin F.entry_set_update_loop ?_
    rw [Around.under_plainId F.plain_set_update_loop _]
    refine wpAny_bind (m := pyNext (.ref I)) (W.item i s _ _ hlt hst fun v s' hP hst' hm => ?_)
    obtain ⟨z, t, hz, rfl⟩ := hval i v hP
    have hS' : IxS P w s'.heap S (putI [] (xs.take i)) := hS.move fun o e => hm.heap S o hSw e
    refine wpAny_bind (m := holding [Value.int z t] (setAdd S (.int z t))) (wpAny_holding ?_)
    unfold setAdd
    refine wpAny_holding (wpAny_bind ((PySem.intKind P w).pyHash (k := z) (intKind_is _ _ _ _) ?_))
    have hroom : (putI [] (xs.take i)).length + 1 < scanBound := by
      have q := putI_len (xs.take i) []
      rw [List.length_take, List.length_nil] at q
      omega
    refine ix_add (s := { s' with toks := s'.toks + 1 }) hS' hroom fun h' b hsb hS2 => ?_
    rw [← putI_app] at hS2
    have hS3 : IxS P w h' S (putI [] (xs.take (i + 1))) := by
      rw [List.take_add_one, hz]; exact hS2
    refine wpAny_pure ⟨plainId_quiet F.plain_set_update_loop _, ih (i + 1) _ (by omega) hlt (W.frame _ s' _ _ hst' (Nat.le_succ _) fun b hb o e => ?_) hS3 fun s'' hm'' hS'' => ?_⟩
    · rw [hsb.2 b (fun h : b = S => hSf (h ▸ hb))]; exact e
    · refine hR s'' (Moved.trans W.gtrans ((hm.mono hsub).then_heap (Nat.le_succ _) fun b o hb e => ?_) hm'') hS''
      rw [hsb.2 b (fun h : b = S => hb (h ▸ List.mem_cons_self))]; exact e
abbrev freI (w : World) : Obj := { cls := .type "set", dict := none, data := .set #[] 0 (.fresh 0 0 (!w.params.followText "set-order")) }
theorem ix_fresh {h : Heap} {a : Addr} (ho : h.get? a = some { cls := .type "set", dict := none, data := .set #[] 0 (.fresh 0 0 (!w.params.followText "set-order")) }) : IxS P w h a [] :=
  ⟨_, #[], 0, _, ho, ⟨rfl, rfl, rfl⟩, rfl, (fun e he => by simp at he), List.Perm.refl _, List.nodup_nil, (by decide), (by rfl), List.Pairwise.nil, by
    show _ ∨ (!w.params.followText "set-order") = true
    cases w.params.followText "set-order"
    · exact .inr rfl
    · exact .inl rfl⟩
theorem ix_at {us : List Value} {xs : List Int} (h : IntsAre us xs) (i : Nat) (v : Value) (e : us[i]? = some v) : ∃ k t, xs[i]? = some k ∧ v = .int k t := by
  obtain ⟨t, q⟩ := ints_at h i v e
  have hl := ints_len h
  have hi : i < xs.length := by rw [← hl]; exact (List.getElem?_eq_some_iff.mp e).1
  refine ⟨xs[i], t, List.getElem?_eq_getElem hi, ?_⟩
  rw [q, List.getD_eq_getElem?_getD, List.getElem?_eq_getElem hi]; rfl
set_option maxHeartbeats 3200000 in
theorem ix_of_list {l : Addr} {items : Array Value} {xs : List Int} {Q : Value → Shared → Prop} (hh : A.handled = none) (hl : s.heap.IsList l items) (hit : IntsAre items.toList xs) (hb : xs.length + 1 < scanBound)
    (h : ∀ (h' : Heap) (tk : Nat), IxS P w h' s.heap.objs.size (putI [] xs) → (∀ b o, s.heap.get? b = some o → h'.get? b = some o) → Q (.ref s.heap.objs.size) { s with heap := h', toks := tk }) :
    wpAny (model P w) A (call (.type "set") [.ref l]) Q E s := by
  have hsz : items.size = xs.length := by
    have q := ints_len hit
    rwa [Array.length_toList] at q
  obtain ⟨c, tl, hmro⟩ := F.called_set.mro
  have hmade := F.called_set.made
  have hsub := F.called_set.sub
  refine wpAny_call (codeAny_of_tree ?_)
  show wpAny _ _ (callAny (.type "set") _) _ _ _
  refine wpAny_pure ⟨Code.quiet_builtin _ (by decide +kernel), codeAny_builtin F.entry_type_call ?_⟩
  rw [Around.under_plain (weight_type_call_type "set" [.ref l] []) rfl]
  have h1 := F.called_set.notType
  have h2 := F.called_set.canCreate
  have hct := F.typeCall_set_1 (.ref l)
  repeat (any_goals (first | assumption | wp_step))
  generalize hO : ({ cls := .type "set", dict := none, data := .set #[] 0 (.fresh 0 0 (!w.params.followText "set-order")) } : Obj) = O
  have hOc : O.cls = .type "set" := by rw [← hO]
  refine codeAny_mono (code_set_led1 (.ref l) (E := E) (Q₁ := fun obj s₁ => obj = .ref s.heap.objs.size ∧ s₁ = { s with heap := s.heap.push O }) ⟨rfl, by rw [hO]⟩) fun r s₁ hr => ?_
  cases r with
  | error e => exact hr
  | ok fl =>
    cases fl with
    | ret obj =>
      obtain ⟨rfl, rfl⟩ := hr
      have hS : (s.heap.push O).get? s.heap.objs.size = some O := Heap.get?_push_size _ (by rw [← hO]; rfl)
      have hT : Shared.TypeIs { s with heap := s.heap.push O } (.ref s.heap.objs.size) "set" := ⟨_, hS, hOc⟩
      have hli := F.called_set.init.lookup
      have hbi := F.called_set.init.bind (.ref s.heap.objs.size)
      repeat (any_goals (first | assumption | wp_step))
      refine codeAny_mono (codeAny_call_builtin (R := wants (fun r s₂ => r = .none ∧ ∃ h' tk, s₂ = { s with heap := h', toks := tk } ∧ IxS P w h' s.heap.objs.size (putI [] xs) ∧ (∀ b o, s.heap.get? b = some o → h'.get? b = some o)) E) F.called_set.init.plain F.entry_set_init (check_set_init_1 hT ?_)) fun r₂ s₂ hr₂ => ?_
      · subst hO
        obtain ⟨ol, hol, hcl, nl, hdl⟩ := hl
        obtain ⟨ocls, odict, odata, oslots⟩ := ol
        simp only at hcl hdl
        subst hcl; subst hdl
        have hol' : (s.heap.push (freI w)).get? l = some { cls := .type "list", dict := odict, data := .seq items nl, slots := oslots } := Heap.get?_push_of_some _ hol
        have hsls := F.sub_list_set
        have hslf := F.sub_list_frozenset
        have hne : (Value.type "list" == Value.type "dict") = false := by decide
        have hl1 : (s.heap.push (freI w)).IsList l items := ⟨_, hol', rfl, nl, rfl⟩
        unfold Builtin.«set.__init__» noKeywords Builtin.Frozenset.updateFrom
        generalize hPI : pyIter = PI
        wp_walk
        subst hPI
        refine wpAny_pyIter_list hl1 ?_
        refine wpAny_bind (wpAny_runValue ?_)
        have hlS : l < s.heap.objs.size := Heap.lt_size hol
        have hh3 : A.in1.in1.in1.handled = none := by simp [hh]
        have hz : (s.heap.push (freI w)).objs.size = s.heap.objs.size + 1 := Heap.size_push ..
        have hneI : l ≠ (s.heap.push (freI w)).objs.size := by rw [hz]; exact Nat.ne_of_lt (Nat.lt_succ_of_lt hlS)
        have hSf : s.heap.objs.size ∉ [(s.heap.push (freI w)).objs.size, l] := by
          rw [hz]; simp only [List.mem_cons, List.not_mem_nil, or_false, not_or]; exact ⟨Nat.ne_of_lt (Nat.lt_succ_self _), Nat.ne_of_gt hlS⟩
        refine ix_loop ((Walks.list hh3 _ l hneI items).toS) s.heap.objs.size hSf xs hsz hb (fun i v hv => ix_at hit i v (by rw [Array.getElem?_toList]; exact hv)) (items.size - 0) 0 _ (by omega) (Nat.zero_le _)
          ⟨⟨_, Heap.get?_push_size _ rfl, rfl, rfl⟩, (hl1.push _)⟩ ?hS0 ?hR
        case hS0 =>
          exact ix_fresh (Heap.get?_push_of_some _ hS)
        case hR =>
          intro s' hm hS'
          obtain ⟨h', g2, d', tk', os'⟩ := s'
          have eg : g2 = s.gens := hm.gens
          have ed : d' = s.drawn := hm.drawn
          have eo : os' = s.os := hm.os
          subst eg ed eo
          show wpAny _ _ _ _ _ _
          refine wpAny_pure ?_
          show wpAny _ _ (ret Value.none) _ _ _
          refine wpAny_pure ⟨rfl, h', tk', rfl, hS', fun b o e => ?_⟩
          have hb0 : b < s.heap.objs.size := Heap.lt_size e
          refine hm.heap b o ?_ (Heap.get?_push_of_some _ (Heap.get?_push_of_some _ e))
          rw [hz]; simp only [List.mem_cons, List.not_mem_nil, or_false, not_or]; exact ⟨Nat.ne_of_lt hb0, Nat.ne_of_lt (Nat.lt_succ_of_lt hb0)⟩
      · cases r₂ with
        | error e => exact hr₂
        | ok fl₂ =>
          cases fl₂ with
          | ret r =>
            obtain ⟨rfl, h', tk, rfl, hS', hk'⟩ := hr₂
            repeat (any_goals (first | assumption | wp_step))
            exact h _ _ hS' hk'
          | _ => exact hr₂.elim
    | _ => exact hr.elim
end

/-! ### sorted of it -/
section
variable {P : Program} {w : World} {A : Around} {E : Value → Shared → Prop} {s : Shared} {a : Addr}
theorem ix_ints : ∀ (l : List (Int × Value)), (∀ e ∈ l, IxE P w e) → ∀ v ∈ l.map (·.2), ∃ x t, v = Value.int x t := fun l g v hv => by
  obtain ⟨e, he, rfl⟩ := List.mem_map.mp hv
  obtain ⟨k, tk, h1, _⟩ := g e he
  exact ⟨k, tk, h1⟩
theorem ix_sorted {ks : List Int} {Q : Value → Shared → Prop} (R : IxS P w s.heap a ks) (hh : A.handled = none)
    (hQ : ∀ s' p (out : Array Value) (c : Nat) (ys : List Int), (∀ b o, s.heap.get? b = some o → s'.heap.get? b = some o) → s'.gens = s.gens → s'.os = s.os → s.heap.objs.size ≤ p →
      s'.heap.get? p = some (seqObj "list" out c) → IntsAre out.toList ys → ys.Perm ks → ys.Pairwise (· ≤ ·) → Q (.ref p) s') :
    wpAny (model P w) A (call (.builtin "sorted") [.ref a]) Q E s := by
  have hks := R.size
  obtain ⟨o, es, ep, t, ho, hex, hd, g, pm0, nd, hb, hf, hr, hl⟩ := R
  refine Calls.call_function_entry kind_sorted plain_sorted entry_sorted (args_sorted1 _) ?_
  unfold Builtin.«sorted»
  refine wpAny_bind (m := checkCount "sorted" 1 1 _) (wpAny_pure (wpAny_bind (collect_set (A := A.in1) hh ⟨o, ho, hex.1, hd⟩ hf hb hr hl fun s1 vs k1 hz g1 o1 pm => ?_)))
  have hS : IntsAre vs (vs.map SrtO.iv) := SrtO.ints_iv fun v hv => ix_ints _ g v (pm.mem_iff.mp hv)
  have e1 : es.toList.map ixO = (es.toList.map (·.2)).map SrtO.iv := by
    rw [List.map_map]
    apply List.map_congr_left
    intro e he
    obtain ⟨k, tk, h1, _⟩ := g e he
    simp only [ixO, Function.comp, h1, SrtO.iv]
  have pk : (vs.map SrtO.iv).Perm ks := (pm.map SrtO.iv).trans (e1 ▸ pm0)
  have hvl : vs.length = ks.length := by rw [← pk.length_eq, List.length_map]
  have hsz : vs.length ≤ sizeLine := by rw [hvl, sizeLine_eq]; unfold scanBound at hks; omega
  refine wpAny_bind (wpAny_newList ?_ hsz)
  have hoL : (s1.heap.push (seqObj "list" vs.toArray 0)).get? s1.heap.objs.size = some (seqObj "list" vs.toArray 0) := Heap.get?_push_size _ rfl
  refine wpAny_bind (wpAny_holding (wpAny_call_entry slot_list_sort ⟨_, hoL, rfl⟩ entry_list_sort (SrtO.list_sort_ord SrtO.swo_int hoL hsz (fun h2 => SrtO.ints_sortable hS h2) fun out a1 a2 => ⟨_, rfl, ?_⟩) (args_list_sort _)))
  obtain ⟨k1', k2', k3'⟩ := SrtO.ints_out hS a1 a2
  obtain ⟨c, hc⟩ := sortedHeap_at (vs := vs) (out := out.toArray) hoL
  refine wpAny_pure ⟨_, rfl, hQ _ s1.heap.objs.size _ c (out.map SrtO.iv) (fun b u e => ?_) g1 o1 hz hc (by simpa using k1') (k2'.trans pk) k3'⟩
  have q := k1 b u e
  have hlt := Heap.lt_size q
  show (sortedHeap (s1.heap.push (seqObj "list" vs.toArray 0)) s1.heap.objs.size vs _).get? b = some u
  rw [sortedHeap_old (Nat.ne_of_lt hlt) (by rw [size_push']; exact Nat.lt_succ_of_lt hlt)]
  exact Heap.get?_push_of_some _ q
end
/-! ### over the layer -/
def IxO (P : Program) (w : World) (a : Addr) (ks : List Int) : HO := .ext fun h => IxS P w h a ks
section
variable {X : Cx} {EX : XK} {C : Nat → Addr}
theorem ixO_new {P : Program} {w : World} {H : Hp} {h : Heap} {a : Addr} {ks : List Int} (R : IxS P w h a ks) : ObjOk P w H h a (IxO P w a ks) := by
  have ⟨o, _, _, _, ho, _⟩ := R
  exact ⟨R, ⟨o, ho⟩, fun h1 h2 p k => IxS.move p k⟩
theorem ixO_get {pins : List (Addr × Obj)} {σ : L2.St} {H : Hp} {s : Shared} {a : Addr} {ks : List Int} (I : Inv X pins σ H s) (ha : H a = some (IxO X.prog X.w a ks)) : IxS X.prog X.w s.heap a ks := (I.hok a _ ha).1
def rSetI (K : PySem.W.Frag) (P : Program) (w : World) : List V → Hp → VK → Prop := fun vs H Q => ∃ (l : Addr) (xs : List Int), vs = [.ref l] ∧ SqL K H l (xs.map V.int) ∧ xs.length < 4000 ∧ ∀ p, H p = none → Q (.ref p) (upd H p (IxO P w p (putI [] xs)))
theorem cr_setI (hc : X.calm = true) : CallR X (.type "set") (rSetI X.K X.prog X.w) := by
  intro pins s σ H vs us Q I r h
  obtain ⟨l, xs, rfl, hs, hlen, q⟩ := h
  obtain ⟨its, rv, hl, _⟩ := I.list hs
  rw [Vals.ref1 r]
  refine ix_of_list (I.ok.hd hc) hl.isList rv.ints (by unfold scanBound; omega) fun h' tk new k => ?_
  exact ⟨.ref _, upd H s.heap.objs.size (IxO X.prog X.w s.heap.objs.size (putI [] xs)), I.laid (t' := tk) (fun b u e => k b u e) (Nat.le_refl _) (ixO_new new), rfl, q _ (I.hok.fresh (Nat.le_refl _))⟩
def rSortIs (P : Program) (w : World) : List V → Hp → VK → Prop := fun vs H Q => ∃ (a : Addr) (ks : List Int), vs = [V.ref a] ∧ H a = some (IxO P w a ks) ∧
  ∀ (ys : List Int) (p : Addr), ys.Perm ks → ys.Pairwise (· ≤ ·) → H p = none → Q (.ref p) (upd H p (.lst (ys.map V.int)))
theorem cr_sortIs (hc : X.calm = true) : CallR X (.builtin "sorted") (rSortIs X.prog X.w) := by
  intro pins s σ H vs us Q I r h
  obtain ⟨a, ks, rfl, ha, q⟩ := h
  have R := ixO_get I ha
  rw [Vals.ref1 r]
  refine ix_sorted R (I.ok.hd hc) fun s' p out c ys k g o hp hg hi pm hs => ?_
  have hks := R.size
  have hlen : (ys.map V.int).length ≤ sizeLine := by rw [List.length_map, pm.length_eq, sizeLine_eq]; unfold scanBound at hks; omega
  have hn : H p = none := I.hok.fresh hp
  have J : Inv X pins σ (upd H p (.lst (ys.map V.int))) { s with heap := s'.heap, gens := s'.gens, drawn := s'.drawn, toks := s'.toks } :=
    I.call (ch := []) (Un.laid k hp hn) (I.hok.laid k hp ⟨hlen, out.toList, c, vals_of_ints hi, hg⟩) (by rw [g]; exact I.bare) (fun _ z => nomatch z)
  have e : s' = { s with heap := s'.heap, gens := s'.gens, drawn := s'.drawn, toks := s'.toks } := by
    cases s'; cases s; cases o; rfl
  rw [e]
  exact ⟨.ref p, _, J, rfl, q ys p pm hs hn⟩
end
end Pf

set_option Elab.async false
set_option linter.all false
set_option maxRecDepth 100000
set_option maxHeartbeats 4000000
namespace Pf
open PySem L2 PyProof.Rows
section
variable {X : Cx} {EX : XK} {C : Nat → Addr} {a : Expr} {f g : Ev → R D} {pos : Pos}
/-! ### sorted(set(ints)) -/
def isetL (xs : List Int) : List Int := (putI [] xs).mergeSort (fun a b => decide (a ≤ b))
theorem asInts_T {ts : List T} {xs : List Int} (h : asInts ts = some xs) : ts = xs.map T.int := asInts_eq h
theorem iset_uniq {xs ys : List Int} (p : ys.Perm (putI [] xs)) (s : ys.Pairwise (· ≤ ·)) : ys = isetL xs := by
  have h1 : (isetL xs).Perm (putI [] xs) := List.mergeSort_perm _ _
  have h2 : (isetL xs).Pairwise (· ≤ ·) := by
    have := List.pairwise_mergeSort (le := fun a b : Int => decide (a ≤ b)) (fun a b c h1 h2 => by simp only [decide_eq_true_eq] at *; omega) (fun a b => by simp only [Bool.or_eq_true, decide_eq_true_eq]; omega) (putI [] xs)
    exact this.imp fun {a b} h => by simpa using h
  exact (p.trans h1.symm).eq_of_pairwise (fun a b _ _ h1 h2 => by omega) s h2
def issetD (d : D) : R D := match d with
  | .lst ts => match asInts ts with
    | some xs => if xs.length < 4000 then .ok (.lst ((isetL xs).map T.int)) else .stuck
    | none => .stuck
  | _ => .stuck
theorem sn_isset (hc : X.calm = true) (ha : SE X EX C a f) (hm : X.mg "sorted" = none) (hm2 : X.mg "set" = none) {p p2 q : Pos} (hg : Gl X "sorted" := by rfl) (hg2 : Gl X "set" := by rfl)
    (he : starEach (.Call (.Name "set" p2) [a] [] q :: []) X.env = (false, eval (.Call (.Name "set" p2) [a] [] q) X.env) :: starEach [] X.env := by rfl) (hpl : (backTo pos (starEach [] X.env)).any (·.1) = false := by rfl)
    (he2 : starEach (a :: []) X.env = (false, eval a X.env) :: starEach [] X.env := by rfl) (hpl2 : (backTo q (starEach [] X.env)).any (·.1) = false := by rfl) :
    SN X EX C (.Call (.Name "sorted" p) [.Call (.Name "set" p2) [a] [] q] [] pos) (u1 issetD f) := by
  obtain ⟨te, pa, qa⟩ := ha
  have h1 := pe_callTy (p := p2) (cr_setI hc) hg2 hm2 (by decide +kernel) (pa_cons pa pa_nil he2) (by decide) (by decide) he2 hpl2
  have h2 := pe_callB (p := p) (cr_sortIs hc) hg hm (by decide +kernel) (pa_cons h1 pa_nil he) (by decide) (by decide) he hpl
  refine ⟨_, h2, fun F σ H ρ Q er w => ?_⟩
  refine qa F σ H ρ _ er (w.bind.imp fun d _ k v H1 s1 r1 => ?_)
  unfold issetD at k
  split at k
  · split at k
    · rename_i ts xs hx
      split at k
      · rename_i hl
        obtain ⟨l, ws, rfl, hl2, rs⟩ := r1
        rw [asInts_T hx] at rs
        rw [rs.ints] at hl2
        refine ⟨l, xs, rfl, SqL.of hl2, hl, fun p hp => ?_⟩
        refine ⟨p, putI [] xs, rfl, by unfold upd; simp, fun ys p2 y1 y2 hp2 => ?_⟩
        rw [iset_uniq y1 y2]
        have s2 := s1.trans (same_new hp (IxO X.prog X.w p (putI [] xs)))
        exact k _ _ (s2.trans (same_new hp2 _)) ((new_lst hp2 (RTs.ofInts _)).less s2)
      · exact k.elim
    · exact k.elim
  · exact k.elim
/-! ### min, max with default -/
def minI (d : Int) : List Int → Int
  | [] => d
  | y :: ys => PySem.W.minOf y ys
def maxI (d : Int) : List Int → Int
  | [] => d
  | y :: ys => PySem.W.maxOf y ys
theorem ints_reads {h : Heap} : ∀ {us : List Value} {ns : List Int}, IntsAre us ns → ReadsAll h us (ns.map PySem.W.Datum.toD) []
  | _, _, .nil => .nil
  | _, _, .cons n t r => by
    have := ReadsAll.cons (Reads.int n t) (ints_reads (h := h) r)
    exact this
theorem int_held {h : Heap} {v : Value} {z : Int} (q : PySem.W.Holds h v z) : ∃ t, v = .int z t := by
  obtain ⟨as, r⟩ := q
  have r' : Reads h v (.int z) as := r
  cases r' with
  | int i t => exact ⟨t, rfl⟩
def rMinDef (K : PySem.W.Frag) (m : Int → List Int → Int) : List V → List V → Hp → VK → Prop := fun vs zs H Q => ∃ (a : Addr) (ns : List Int) (d : Int), vs = [V.ref a] ∧ zs = [.int d] ∧ SqL K H a (ns.map V.int) ∧ Q (.int (m d ns)) H
theorem cr_minDef (hc : X.calm = true) (hu : X.A.units + 64 < cLine) : CallRK X (.builtin "min") [Str.ofString "default"] (rMinDef X.K minI) := by
  intro pins s σ H vs zs us ws Q I r rz h
  obtain ⟨a, ns, d, rfl, rfl, hs, q⟩ := h
  obtain rfl := Vals.ref1 r
  obtain ⟨w1, rfl, t, rfl⟩ := vals1 rz
  obtain ⟨its, rv, hl, hz⟩ := I.list hs
  have hi := rv.ints
  refine PySem.W.min_list_datum_default (α := Int) (xs := ns) (I.ok.hd hc) hl.isList ⟨[], by simpa using ints_reads hi⟩ (by show X.A.units + 1 + 0 < cLine; omega) (fun e h' tk kp => ?_) (fun y ys i v h' tk e hv hh kp => ?_)
  · subst e
    exact ⟨.int d, H, I.kept kp, ⟨t, rfl⟩, q⟩
  · subst e
    obtain ⟨t', rfl⟩ := int_held hh
    exact ⟨.int (PySem.W.minOf y ys), H, I.kept kp, ⟨t', rfl⟩, q⟩
theorem cr_maxDef (hc : X.calm = true) (hu : X.A.units + 64 < cLine) : CallRK X (.builtin "max") [Str.ofString "default"] (rMinDef X.K maxI) := by
  intro pins s σ H vs zs us ws Q I r rz h
  obtain ⟨a, ns, d, rfl, rfl, hs, q⟩ := h
  obtain rfl := Vals.ref1 r
  obtain ⟨w1, rfl, t, rfl⟩ := vals1 rz
  obtain ⟨its, rv, hl, hz⟩ := I.list hs
  have hi := rv.ints
  refine PySem.W.max_list_datum_default (α := Int) (xs := ns) (I.ok.hd hc) hl.isList ⟨[], by simpa using ints_reads hi⟩ (by show X.A.units + 1 + 0 < cLine; omega) (fun e h' tk kp => ?_) (fun y ys i v h' tk e hv hh kp => ?_)
  · subst e
    exact ⟨.int d, H, I.kept kp, ⟨t, rfl⟩, q⟩
  · subst e
    obtain ⟨t', rfl⟩ := int_held hh
    exact ⟨.int (PySem.W.maxOf y ys), H, I.kept kp, ⟨t', rfl⟩, q⟩
def mDefD (m : Int → List Int → Int) (d : Int) (x : D) : R D := match x with
  | .lst ts => match asInts ts with
    | some xs => .ok (.t (.int (m d xs)))
    | none => .stuck
  | _ => .stuck
theorem sn_mdef {x : Str} {id : String} {m : Int → List Int → Int} {d : Int} {j : Nat} {p p2 kp : Pos} (hcr : CallRK X (.builtin id) [Str.ofString "default"] (rMinDef X.K m)) (ha : SE X EX C a f) (hm : X.mg x = none) (hv : bootBuiltins x = some (.builtin id)) (hg : Gl X x := by rfl) (hn : x ≠ "__name__" := by decide) (hdb : (x == ("__debug__" : Str)) = false := by decide)
    (he : starEach (a :: []) X.env = (false, eval a X.env) :: starEach [] X.env := by rfl)
    (he2 : backTo pos (starEach (a :: []) X.env) = (false, eval a X.env) :: backTo pos (starEach [] X.env) := by rfl) (hpl : (backTo pos (starEach (a :: []) X.env)).any (·.1) = false := by rfl)
    (hall : (backToKw pos (keywordEach [⟨some "default", .Constant (.int d) j p2, kp⟩] X.env)).all (·.1.isSome) = true := by rfl) (hnone : (backToKw pos (keywordEach [⟨some "default", .Constant (.int d) j p2, kp⟩] X.env)).any (·.1.isNone) = false := by rfl) (hks : (backToKw pos (keywordEach [⟨some "default", .Constant (.int d) j p2, kp⟩] X.env)).filterMap (·.1) = [Str.ofString "default"] := by rfl) :
    SN X EX C (.Call (.Name x p) [a] [⟨some "default", .Constant (.int d) j p2, kp⟩] pos) (u1 (mDefD m d) f) := by
  obtain ⟨te, pa, qa⟩ := ha
  have h1 := pe_callBK (p := p) hcr hg hm hv (pa_cons pa pa_nil he) (pk_cons (pe_int (X := X)) pk_nil) hn hdb he2 hpl hall hnone hks
  refine ⟨_, h1, fun F σ H ρ Q er w => ?_⟩
  refine qa F σ H ρ _ er (w.bind.imp fun d0 _ k v H1 s1 r1 => ?_)
  unfold mDefD at k
  split at k
  · split at k
    · rename_i ts xs hx
      obtain ⟨l, ws, rfl, hl2, rs⟩ := r1
      rw [asInts_T hx] at rs
      rw [rs.ints] at hl2
      exact ⟨l, xs, d, rfl, rfl, SqL.of hl2, k _ _ s1 rn_int⟩
    · exact k.elim
  · exact k.elim
/-! ### {name: number} -/
def kD1 (fk fv : Ev → R D) (ρ : Ev) : R D := fk ρ >>= fun k => fv ρ >>= fun v => match k, v with
  | .t (.str k), .t (.int v) => .ok (.dct [(k, v)])
  | _, _ => .stuck
theorem sn_d1 {k v : Expr} {fk fv : Ev → R D} (hk : SE X EX C k fk) (hv : SE X EX C v fv) : SN X EX C (.Dict [some k] [v] pos) (kD1 fk fv) := by
  obtain ⟨tk, pk, qk⟩ := hk
  obtain ⟨tv, pv, qv⟩ := hv
  refine ⟨_, pe_disp (pps_cons pk pv pps_nil) rfl rfl (by simp) (by simp), fun F σ H ρ Q er w p hp => ?_⟩
  have s0 := same_new hp (.dK [])
  refine qk F σ _ ρ _ (er.mono s0) ((Wp.bind w).mono s0 fun d1 _ k1 v1 H1 s1 r1 => ?_)
  refine qv F σ H1 ρ _ (er.mono (s0.trans s1)) ((Wp.bind k1).mono (s0.trans s1) fun d2 _ k2 v2 H2 s2 r2 => ?_)
  have hpd : H2 p = some (.dK []) := s2 _ _ (s1 _ _ upd_same)
  refine ⟨hpd, ?_⟩
  split at k2
  · rename_i ks vs _ _
    have e1 := rt_str (r1.same s2)
    have e2 := rt_int r2
    subst e1 e2
    refine ⟨[(Sum.inr ks, V.int vs)], rfl, by simp, ?_⟩
    have hs : Same H (upd H2 p (.dK (mergeK [] [(Sum.inr ks, V.int vs)]))) := fun b u q => by
      have hb : b ≠ p := fun e => by rw [e, hp] at q; cases q
      rw [upd_ne hb]
      exact s2 _ _ (s1 _ _ (s0 _ _ q))
    exact k2 _ _ hs ⟨p, rfl, hp, upd_same⟩
  · exact k2.elim
/-! ### for x in name or [..] -/
def forOO (j i : Nat) (g : Ev → R D) (body : Ev → R Out) (ρ : Ev) : R Out := match ρ[i]? with
  | some (.d (.lst xs) _) => if xs.isEmpty then forLO j g body ρ else forR j body xs (ρ.set i (.d (.lst xs) false))
  | _ => .stuck
theorem tru_lst {K : PySem.W.Frag} {H : Hp} {b : Addr} {vs : List V} (h : SqL K H b vs) : TruV K (.ref b) H (!vs.isEmpty) := .inl ⟨vs, h, rfl⟩
theorem ss_forO {j i : Nat} {tg e : Expr} {x : Str} {p p2 : Pos} {sts : List Stmt} {body : Ev → R Out} (hp : PassesOwn (model X.prog X.w) X.A X.env X.xe) (hc : X.calm = true) (hv : PE X (.Name x p) (tVar i)) (he : SN X EX C e g) (hg : PG X tg (gName j)) (hb : SB X EX C sts body)
    (hs : ∀ y, foldedSetIterable (.BoolOp .Or [.Name x p, e] p2) X.env y = pure y := by intro _; rfl) : SS X EX C (.For tg (.BoolOp .Or [.Name x p, e] p2) sts [] pos) (forOO j i g body) := by
  obtain ⟨te, pe, qe⟩ := he
  obtain ⟨tb, pb, qb⟩ := hb
  refine ⟨_, ps_for hp hc (pi_list (pe_orT hv (pe_one pe))) hg pb hs, fun F σ H ρ D er w => ?_⟩
  unfold forOO at w
  split at w
  · rename_i xs ow h
    obtain ⟨v, g1, g2, g3⟩ := er.slot _ _ _ h
    split at w
    · rename_i hemp
      have hxs : xs = [] := by simpa using hemp
      subst hxs
      have hlist : ∃ b, v = .ref b ∧ SqL X.K H b [] := by
        cases ow with
        | true => obtain ⟨b, vs, rfl, _, ha, ra⟩ := g2 rfl; rw [ra.unnil] at ha; exact ⟨b, rfl, SqL.of ha⟩
        | false => obtain ⟨b, vs, rfl, ha, ra⟩ := g3 rfl; rw [ra.unnil] at ha; exact ⟨b, rfl, SqL.of (er.same _ _ ha)⟩
      obtain ⟨b, rfl, hb0⟩ := hlist
      refine ⟨.ref b, g1, false, tru_lst hb0, ?_⟩
      rw [if_neg (by decide)]
      refine qe F σ H ρ _ er ((WS.bind w er.same).imp fun d _ k v H1 s1 r1 => ?_)
      cases d with
      | lst xs =>
        obtain ⟨a, vs, rfl, hn, ha, ra⟩ := r1
        refine ⟨a, rfl, ⟨vs, SqL.of ha⟩, ?_⟩
        have er1 := er.mono s1
        have hFn : F a = none := er.same.free hn
        have er2 : ER X.K (upd F a (.lst vs)) σ H1 ρ := er1.freeze ha fun i x h nx g => by
          obtain ⟨v, q1, q2, _⟩ := er.slot i x true h
          rw [g] at q1; cases q1
          have r := q2 rfl
          cases x with
          | t z => exact nx z rfl
          | lst ds => obtain ⟨b, _, e1, _, e2, _⟩ := r; cases e1; rw [hn] at e2; cases e2
          | dct ds => obtain ⟨b, e1, _, e2⟩ := r; cases e1; rw [hn] at e2; cases e2
          | scr ns => exact r
          | sn w ts => obtain ⟨b, _, e1, _, e2, _⟩ := r; cases e1; rw [hn] at e2; cases e2
        exact for_frozen qb er2 upd_same ra (WS.grow k (same_new hFn _) (Same.tups s1))
      | _ => exact k.elim
    · rename_i hemp
      have hne : xs.isEmpty = false := by simpa using hemp
      cases ow with
      | true =>
        obtain ⟨a, vs, rfl, hF, ha, ra⟩ := g2 rfl
        have hvs : vs.isEmpty = false := by
          have := ra.length
          cases vs with
          | nil => cases xs with
            | nil => cases hne
            | cons x r => simp at this
          | cons x r => rfl
        refine ⟨.ref a, g1, true, ?_, ?_⟩
        · have := tru_lst (K := X.K) (SqL.of ha); rwa [hvs] at this
        · rw [if_pos rfl]
          refine ⟨a, rfl, ⟨vs, SqL.of ha⟩, ?_⟩
          have er2 := er.frozen h (fun z e => by cases e) g1 ha (show RP X.K (upd F a (.lst vs)) H (.lst xs) (.ref a) from ⟨a, vs, rfl, upd_same, ra⟩)
          exact for_frozen qb er2 upd_same ra (WS.grow w (same_new hF _) (TupLe.refl H))
      | false =>
        obtain ⟨a, vs, rfl, hF, ra⟩ := g3 rfl
        have hvs : vs.isEmpty = false := by
          have := ra.length
          cases vs with
          | nil => cases xs with
            | nil => cases hne
            | cons x r => simp at this
          | cons x r => rfl
        refine ⟨.ref a, g1, true, ?_, ?_⟩
        · have := tru_lst (K := X.K) (SqL.of (er.same _ _ hF)); rwa [hvs] at this
        · rw [if_pos rfl]
          refine ⟨a, rfl, ⟨vs, SqL.of (er.same _ _ hF)⟩, ?_⟩
          have e : ρ.set i (.d (.lst xs) false) = ρ := by
            apply List.ext_getElem?
            intro k
            by_cases hk : i = k
            · subst hk; rw [List.getElem?_set_self (List.getElem?_eq_some_iff.mp h).1, h]
            · rw [List.getElem?_set_ne hk]
          rw [e] at w
          exact for_frozen qb er hF ra w
  · exact w.elim
/-! ### sorted of pairs of a text and an int -/
def prT0 (p : Str × Int) : T := .tup [.str p.1, .int p.2]
def asPrs : List T → Option (List (Str × Int))
  | [] => some []
  | .tup [.str s, .int i] :: r => (asPrs r).map ((s, i) :: ·)
  | _ :: _ => none
theorem asPrs_eq : ∀ {ts : List T} {ps : List (Str × Int)}, asPrs ts = some ps → ts = ps.map prT0
  | [], ps, h => by simp [asPrs] at h; subst h; rfl
  | t :: r, ps, h => by
    unfold asPrs at h
    split at h
    · rename_i e; cases e
    · rename_i s i r' e
      cases e
      obtain ⟨qs, h1, rfl⟩ := Option.map_eq_some_iff.mp h
      rw [asPrs_eq h1]; rfl
    · cases h
def pairPy (p : Str × Int) : PyData := .tuple [.str p.1, .int p.2]
noncomputable def srtP (ps : List (Str × Int)) : List (Str × Int) := ps.mergeSort (PySem.W.dataLe false pairPy)
noncomputable def sortPD : List D → R D
  | [.lst ts] => match asPrs ts with
    | some ps => if ps.length < 1000 then .ok (.lst ((srtP ps).map prT0)) else .stuck
    | none => .stuck
  | _ => .stuck
def rSortPD (K : PySem.W.Frag) : List V → Hp → VK → Prop := fun vs H Q => ∃ (a : Addr) (ps : List (Str × Int)) (xs : List V), vs = [.ref a] ∧ SqL K H a xs ∧ RTs K H (ps.map prT0) xs ∧ ps.length < 1000 ∧ ∀ (p : Addr) (ys : List V), H p = none → RTs K H ((srtP ps).map prT0) ys → Q (.ref p) (upd H p (.lst ys))
theorem each_of {K : PySem.W.Frag} {H : Hp} : ∀ {ps : List (Str × Int)} {xs : List V} {us : List Value}, RTs K H (ps.map prT0) xs → Vals xs us → PySem.W.EachIs (fun (v : Value) (b : Str × Int) => ∃ u : V, RelV u v ∧ RT K H (prT0 b) u) us ps
  | [], xs, us, r, rv => by rw [r.unnil] at rv; cases rv; exact .nil
  | p :: ps, xs, us, r, rv => by
    obtain ⟨v, ws, rfl, r1, rs⟩ := RTs.uncons (d := prT0 p) (ds := ps.map prT0) r
    cases rv with
    | cons ra rb => exact .cons ⟨v, ra, r1⟩ (each_of rs rb)
theorem each_back {K : PySem.W.Frag} {H : Hp} : ∀ {ps : List (Str × Int)} {us : List Value}, PySem.W.EachIs (fun (v : Value) (b : Str × Int) => ∃ u : V, RelV u v ∧ RT K H (prT0 b) u) us ps → ∃ ys : List V, Vals ys us ∧ RTs K H (ps.map prT0) ys
  | _, _, .nil => ⟨[], .nil, RTs.nil⟩
  | _, _, .cons ⟨u, h1, h2⟩ r => by
    obtain ⟨ys, y1, y2⟩ := each_back r
    exact ⟨u :: ys, .cons h1 y1, RTs.cons h2 y2⟩
theorem alike_pair (p q : Str × Int) : PySem.W.alike (pairPy p) (pairPy q) = true := PySem.W.DatumOrd.alike (α := Str × Int) p q
theorem cr_sortPD (hu : X.A.units + 64 < cLine) : CallR X (.builtin "sorted") (rSortPD X.K) := by
  intro pins s σ H vs us Q I r h
  obtain ⟨a, ps, xs, rfl, hs, rs, hlen, q⟩ := h
  obtain rfl := Vals.ref1 r
  obtain ⟨its, rv, hl, hz⟩ := I.list hs
  have e := each_of rs rv
  have er : PySem.W.EachIs (fun v b => ∃ as, Reads s.heap v (pairPy b) as) its ps := e.mono fun v b ⟨u, h1, h2⟩ => by
    have := RT.dp _ _ h2
    exact Dp.reads I _ _ _ this h1
  refine PySem.W.sorted_data (enc := pairPy) hl.isList e er (fun d hd d' hd' => ?_) (.inl fun d hd => ?_) (by rw [sizeLine_eq]; omega) (fun b _ => ?_) fun out ho eo => ?_
  · obtain ⟨p, _, rfl⟩ := List.mem_map.mp hd
    obtain ⟨q, _, rfl⟩ := List.mem_map.mp hd'
    exact alike_pair p q
  · obtain ⟨p, _, rfl⟩ := List.mem_map.mp hd
    exact ⟨_, _, rfl⟩
  · have : (pairPy b).depth = 1 := by simp [pairPy, PyData.depth, PyData.depthAll]
    omega
  · obtain ⟨ys, y1, y2⟩ := each_back eo
    obtain ⟨ep, he'⟩ := PyProof.Rows.sortedAll_at s.heap its out.toArray
    have hyl : ys.length ≤ sizeLine := by rw [y1.length, ho, sizeLine_eq]; omega
    exact ⟨.ref _, upd H (s.heap.objs.size + 1) (.lst ys), I.laid (t' := s.toks) (fun _ _ => PyProof.Rows.sortedAll_old) (Nat.le_succ _) ⟨hyl, out, ep, y1, he'⟩, rfl, q _ _ (I.hok.fresh (Nat.le_succ _)) y2⟩
theorem im_sortPD : Impl1 X EX C sortPD (rSortPD X.K) := by
  intro ds vs H Q r w
  unfold sortPD at w
  split at w
  · split at w
    · rename_i ts ps hps
      split at w
      · rename_i hl
        obtain ⟨v, rfl, a, xs, rfl, ha, ra⟩ := rd1 r
        rw [asPrs_eq hps] at ra
        exact ⟨a, ps, xs, rfl, SqL.of ha, ra, hl, fun p ys hp hy => w _ _ (same_new hp _) (new_lst hp hy)⟩
      · exact w.elim
    · exact w.elim
  · exact w.elim
/-! ### the words -/
variable {h : Ev → R (List D)}
theorem sn_listSn (hc : X.calm = true) (ha : SA X EX C [a] h) (hm : X.mg "list" = none) {p : Pos} (hg : Gl X "list" := by rfl) (he : starEach (a :: []) X.env = (false, eval a X.env) :: starEach [] X.env := by rfl) (hpl : (backTo pos (starEach [] X.env)).any (·.1) = false := by rfl) : SN X EX C (.Call (.Name "list" p) [a] [] pos) (ap listSn h) :=
  sn_callTy (cr_listSn hc) im_listSn ha hm (by decide +kernel) hg (by decide) (by decide) he hpl
theorem sn_lenSn (hc : X.calm = true) (ha : SA X EX C [a] h) (hm : X.mg "len" = none) {p : Pos} (hg : Gl X "len" := by rfl) (he : starEach (a :: []) X.env = (false, eval a X.env) :: starEach [] X.env := by rfl) (hpl : (backTo pos (starEach [] X.env)).any (·.1) = false := by rfl) : SN X EX C (.Call (.Name "len" p) [a] [] pos) (ap lenSn h) :=
  sn_callB cr_lenSn im_lenSn ha hm PySem.boot_len hg (by decide) (by decide) he hpl
theorem sn_tupleSn (hc : X.calm = true) (ha : SA X EX C [a] h) (hm : X.mg "tuple" = none) {p : Pos} (hg : Gl X "tuple" := by rfl) (he : starEach (a :: []) X.env = (false, eval a X.env) :: starEach [] X.env := by rfl) (hpl : (backTo pos (starEach [] X.env)).any (·.1) = false := by rfl) : SN X EX C (.Call (.Name "tuple" p) [a] [] pos) (ap tupleSn h) :=
  sn_callTy (cr_tupleSn hc) im_tupleSn ha hm (by decide +kernel) hg (by decide) (by decide) he hpl
theorem sn_sortPD (hu : X.A.units + 64 < cLine) (ha : SA X EX C [a] h) (hm : X.mg "sorted" = none) {p : Pos} (hg : Gl X "sorted" := by rfl) (he : starEach (a :: []) X.env = (false, eval a X.env) :: starEach [] X.env := by rfl) (hpl : (backTo pos (starEach [] X.env)).any (·.1) = false := by rfl) : SN X EX C (.Call (.Name "sorted" p) [a] [] pos) (ap sortPD h) :=
  sn_callB (cr_sortPD hu) im_sortPD ha hm (by decide +kernel) hg (by decide) (by decide) he hpl
/-! ### names of the module -/
def t_LETTERS : T := .str "abcdefghijklmnopqrstuvwxyz"
def t_MOST_WITHIN : T := .int 40
def t_MOST_FIGURES : T := .int 60
def GlobT (K : PySem.W.Frag) (mg : Str → Option Value) (x : Str) (t : T) : Prop := ∃ u v, mg x = some u ∧ RelV v u ∧ ∀ H, RT K H t v
theorem sn_globT {x : Str} {t : T} (h : GlobT X.K X.mg x t) (hg : Gl X x := by rfl) (hd : (x == ("__debug__" : Str)) = false := by decide) : SN X EX C (.Name x pos) (fun _ => .ok (.t t)) := by
  obtain ⟨u, v, h1, h2, h3⟩ := h
  exact sn_glob h1 h2 h3 hg hd
theorem glob_tup2 {K : PySem.W.Frag} {mg : Str → Option Value} {h : Heap} {x s : Str} {a b : Addr} {od1 od2 : Option Addr} {sl1 sl2 : Array (Option Value)} {n1 n2 : Nat} {t : Tok} (KX : K.In h) (G : h.Ns mainGlobals mg) (n : PySem.W.nsIn K mainGlobals x = some (some (.ref a)))
    (l1 : K.lookup a = some ⟨.type "tuple", od1, .seq #[.str s t, .ref b] n1, sl1⟩) (l2 : K.lookup b = some ⟨.type "tuple", od2, .seq #[] n2, sl2⟩) : GlobT K mg x (.tup [.str s, .tup []]) := by
  refine ⟨.ref a, .ref a, PySem.W.mg_of KX G n, rfl, fun H => ?_⟩
  unfold RT
  refine ⟨a, [.str s, .ref b], rfl, .inr ⟨_, #[.str s t, .ref b], n1, l1, rfl, rfl, by rw [sizeLine_eq]; simp, .cons ⟨t, rfl⟩ (.cons rfl .nil)⟩, ?_⟩
  refine RTs.cons (by unfold RT; rfl) (RTs.cons ?_ RTs.nil)
  unfold RT
  exact ⟨b, [], rfl, .inr ⟨_, #[], n2, l2, rfl, rfl, by simp, .nil⟩, RTs.nil⟩
theorem glob_int {K : PySem.W.Frag} {mg : Str → Option Value} {h : Heap} {x : Str} {i : Int} {t : Tok} (KX : K.In h) (G : h.Ns mainGlobals mg) (n : PySem.W.nsIn K mainGlobals x = some (some (.int i t))) : GlobT K mg x (.int i) :=
  ⟨.int i t, .int i, PySem.W.mg_of KX G n, ⟨t, rfl⟩, fun H => by unfold RT; rfl⟩
theorem glob_str {K : PySem.W.Frag} {mg : Str → Option Value} {h : Heap} {x s : Str} {t : Tok} (KX : K.In h) (G : h.Ns mainGlobals mg) (n : PySem.W.nsIn K mainGlobals x = some (some (.str s t))) : GlobT K mg x (.str s) :=
  ⟨.str s t, .str s, PySem.W.mg_of KX G n, ⟨t, rfl⟩, fun H => by unfold RT; rfl⟩
end
/-! ### a, b, c = a list -/
section
variable {X : Cx} {EX : XK} {C : Nat → Addr} {e : Expr} {f : Ev → R D} {pos : Pos}
def unpLO (is : List Nat) (f : Ev → R D) (ρ : Ev) : R Out := f ρ >>= fun d => match d with
  | .lst xs => gNames is xs ρ >>= fun ρ' => .ok (.nx ρ')
  | _ => .stuck
def gLst (K : PySem.W.Frag) (n : Nat) (t : TGs) : TG := fun v σ H Q => ∃ a xs, v = .ref a ∧ SqL K H a xs ∧ xs.length = n ∧ t xs σ H Q
theorem pg_lst {es : List Expr} {k : Nat} {t : TGs} {n : Nat} (hc : X.calm = true) (h : PGs X es t)
    (hn : (assignEach es X.env).length = n := by rfl) (hst : (assignEach es X.env).findIdx? (·.1) = none := by rfl) : PG X (.Tuple es k pos) (gLst X.K n t) := by
  refine ⟨fun pins s σ H v u Q I r hw => ?_⟩
  obtain ⟨a, xs, e1, hq, hl, hw⟩ := hw
  subst e1
  cases r
  obtain ⟨its, rv, ht, hz⟩ := I.list hq
  have hli : s.heap.IsList a its.toArray := by
    obtain ⟨o, n, e1, e2, e3, e4⟩ := ht
    exact ⟨o, e1, e2, n, e4⟩
  rw [PyProof.Rows.assign_Tuple]
  refine wpAny_bind (wpAny_standAt ?_)
  unfold unpack
  have hn2 : (assignEach es X.env).length = its.toArray.size := by simp [hn, ← hl, rv.length]
  rw [hn2, hst]
  refine wpAny_bind (wpAny_holding (PySem.W.kun_itemsOf (I.ok.hd hc) hli fun h' hx => ?_))
  have I1 : Inv X pins σ H { s with heap := h' } := I.kept (t' := s.toks) fun b o e => hx b o (Nat.ne_of_lt (Heap.lt_size e)) e
  exact h.run pins _ σ H xs _ Q I1 (by simpa using rv) hw
theorem ss_unpL {is : List Nat} {es : List Expr} {k : Nat} {p1 : Pos} (hc : X.calm = true) (he : SE X EX C e f) (hg : PG X (.Tuple es k p1) (gLst X.K is.length (gList is)))
    (hs : swapsWithSole [.Tuple es k p1] e pos.line X.env = pure false := by rfl) (hw : swappedStores [.Tuple es k p1] e X.env = pure none := by rfl) :
    SS X EX C (.Assign [.Tuple es k p1] e pos) (unpLO is f) := by
  obtain ⟨te, pe, qe⟩ := he
  refine ⟨_, ps_asg pe hg hs hw, fun F σ H ρ D er w => ?_⟩
  refine qe F σ H ρ _ er ((WS.bind w er.same).imp fun d _ k v H1 s1 r1 => ?_)
  cases d with
  | lst xs =>
    obtain ⟨a, vs, rfl, ha, ra⟩ := r1
    have k : WS X.K EX C F H D (gNames is xs ρ >>= fun ρ' => .ok (.nx ρ')) := k
    cases e2 : gNames is xs ρ with
    | ok ρ' =>
      rw [e2] at k
      refine ⟨a, vs, rfl, .inl (.inl ha), by rw [ra.length, gNames_len e2], ?_⟩
      exact gl_ok (F := F) e2 ra (er.mono s1) fun σ' er' => k F σ' H1 (Same.refl F) (Same.tups s1) er'
    | raise c => exact (gNames_nr e2).elim
    | stuck => rw [e2] at k; exact k.elim
  | _ => exact k.elim
end
end Pf

set_option Elab.async false
set_option linter.all false
set_option maxRecDepth 100000
set_option maxHeartbeats 4000000
namespace Pf
open PySem L2
noncomputable section
def g_made : Ev → R Out :=
  (seqO (setO 2 kD)
  (seqO (forNO 3 1 (dputO 2 (b2 ixD (rdE 3) (kI 0)) (b2 addD (dg2 (rdE 2) (b2 ixD (rdE 3) (kI 0)) (kI 0)) (b2 ixD (rdE 3) (kI 1)))))
  (retO (ap mkTup (cA (rdE 0) (cA (ap tupleD (cA (lcN 4 (ap sortedD (cA (rdE 2) nA)) selL (tV (b2 neD (b2 dgetD (rdE 2) (rdE 4)) (kI 0))) (ap mkTup (cA (rdE 4) (cA (b2 dgetD (rdE 2) (rdE 4)) nA)))) nA)) nA))))))
def m_made : List D → R D := runDef 3 g_made
def g_share : Ev → R Out :=
  (seqO (forTO 2 (b2 ixD (rdE 0) (kI 1)) (ifO (tV (b2 eqD (b2 ixD (rdE 2) (kI 0)) (rdE 1))) (retO (b2 ixD (rdE 2) (kI 1))) nxO))
  (retO (kI 0)))
def m_share : List D → R D := runDef 1 g_share
def g_law_cell_at : Ev → R Out :=
  (seqO (ifO (tV (b2 ltD (rdE 1) (ap lenD (cA (rdE 0) nA)))) (retO (b2 ixD (rdE 0) (rdE 1))) nxO)
  (retO (kI 0)))
def m_law_cell_at : List D → R D := runDef 0 g_law_cell_at
def g_law_whole : Ev → R Out :=
  (retO (vAnd (u1 (isiD "int") (rdE 0)) (vNot (u1 (isiD "bool") (rdE 0)))))
def m_law_whole : List D → R D := runDef 0 g_law_whole
def g_law_names_by : Ev → R Out :=
  (seqO (setO 1 (kS "abcdefghijklmnopqrstuvwxyz"))
  (seqO (setO 2 (b2 addD (kI 1) (b2 modD (rdE 0) (kI 8))))
  (seqO (setO 3 (kS ""))
  (seqO (setO 4 (rdT 0))
  (seqO (forRO 5 (cA (rdE 2) nA) rng1 (seqO (setO 4 (b2 modD (b2 addD (b2 mulD (rdE 4) (kI 48271)) (kI 11)) (kI 2147483647)))
    (setO 3 (b2 addD (rdE 3) (b2 ixD (rdE 1) (b2 modD (b2 divD (rdE 4) (kI 7)) (kI 26)))))))
  (seqO (ifO (tV (b2 eqD (b2 modD (b2 divD (rdE 0) (kI 8)) (kI 3)) (kI 2))) (retO (lcRg 5 (cA (kI 4) nA) rng1 yes (b2 mulD (sl3 (rdE 3) sN (sS (kI 1))) (b2 addD (kI 1) (b2 modD (b2 addD (rdE 5) (b2 divD (rdE 0) (kI 24))) (kI 8)))))) nxO)
  (seqO (ifO (tV (b2 inD (b2 modD (b2 divD (rdE 0) (kI 8)) (kI 9)) (ap mkLst (cA (kI 1) (cA (kI 4) (cA (kI 7) nA)))))) (seqO (setO 7 (ap mkLst (cA (kS "new") (cA (kS "k") (cA (kS "t") (cA (kS "x") (cA (kS "y") (cA (kS "z") (cA (kS "step") (cA (kS "size") (cA (kS "bound") (cA (kS "some") (cA (kS "and") (cA (kS "above") (cA (kS "nought") (cA (kS "goes") nA))))))))))))))))
    (seqO (setO 7 (b2 addD (rdE 7) (ap mkLst (cA (kS "not") (cA (kS "or") (cA (kS "all") (cA (kS "far") (cA (kS "low") (cA (kS "high") (cA (kS "name") (cA (kS "newone") (cA (kS "number") (cA (kS "it") (cA (kS "lined") nA))))))))))))))
    (retO (lcRg 5 (cA (kI 4) nA) rng1 yes (b2 ixD (rdE 7) (b2 modD (b2 addD (b2 divD (rdE 0) (kI 72)) (b2 ixD (ap mkLst (cA (kI 0) (cA (kI 7) (cA (kI 12) (cA (kI 18) nA))))) (rdE 5))) (kI 25))))))) nxO)
  (seqO (setO 6 (b2 modD (b2 divD (rdE 0) (kI 24)) (rdE 2)))
  (retO (lcRg 5 (cA (kI 4) nA) rng1 yes (b2 addD (b2 addD (sl3 (rdE 3) sN (sS (rdE 6))) (b2 ixD (rdE 1) (b2 modD (b2 addD (b2 divD (rdE 0) (kI 192)) (b2 mulD (kI 7) (rdE 5))) (kI 26)))) (sl3 (rdE 3) (sS (b2 addD (rdE 6) (kI 1))) sN))))))))))))
def m_law_names_by : List D → R D := runDef 7 g_law_names_by
def g_law_big_by : Ev → R Out :=
  (seqO (ifO (tV (b2 gtD (b2 modD (rdE 0) (kI 4)) (kI 0))) (retO (b2 subD (b2 modD (b2 divD (rdE 0) (kI 4)) (kI 19)) (kI 9))) nxO)
  (seqO (setO 1 (kI 0))
  (seqO (setO 2 (rdT 0))
  (seqO (forRO 3 (cA (b2 addD (kI 1) (b2 modD (b2 divD (rdE 0) (kI 8)) (kI 60))) nA) rng1 (seqO (setO 2 (b2 modD (b2 addD (b2 mulD (rdE 2) (kI 48271)) (kI 11)) (kI 2147483647)))
    (setO 1 (b2 addD (b2 mulD (rdE 1) (kI 10)) (b2 modD (b2 divD (rdE 2) (kI 7)) (kI 10))))))
  (retO (b2 mulD (b2 ixD (ap mkLst (cA (kI 1) (cA (u1 negD (kI 1)) nA))) (b2 modD (b2 divD (rdE 0) (kI 4)) (kI 2))) (rdE 1)))))))
def m_law_big_by : List D → R D := runDef 3 g_law_big_by
def g_law_alike (rec : List D → R D) : Ev → R Out :=
  (seqO (ifO (tV (b2 isD (rdE 1) kN)) (retO (b2 isD (rdE 0) kN)) nxO)
  (seqO (ifO (tV (b2 isD (rdE 1) (kB true))) (retO (b2 isD (rdE 0) (kB true))) nxO)
  (seqO (ifO (tV (u1 (isiD "str") (rdE 1))) (retO (vAnd (u1 (isiD "str") (rdE 0)) (b2 eqD (rdE 0) (rdE 1)))) nxO)
  (seqO (ifO (tV (u1 (isiD "int") (rdE 1))) (retO (vAnd (ap m_law_whole (cA (rdE 0) nA)) (b2 eqD (rdE 0) (rdE 1)))) nxO)
  (seqO (ifO (tAnd2 (tV (u1 (isiD "tuple") (rdE 1))) (tNot1 (tV (u1 (isiD "tuple") (rdE 0))))) (retO (kB false)) nxO)
  (seqO (ifO (tAnd2 (tV (u1 (isiD "list") (rdE 1))) (tNot1 (tV (u1 (isiD "list") (rdE 0))))) (retO (kB false)) nxO)
  (seqO (ifO (tV (b2 neD (ap lenD (cA (rdE 0) nA)) (ap lenD (cA (rdE 1) nA)))) (retO (kB false)) nxO)
  (seqO (forRO 2 (cA (ap lenD (cA (rdE 1) nA)) nA) rng1 (ifO (tNot1 (tV (ap rec (cA (b2 ixD (rdE 0) (rdE 2)) (cA (b2 ixD (rdE 1) (rdE 2)) nA))))) (retO (kB false)) nxO))
  (retO (kB true))))))))))
def m_law_alike : Nat → List D → R D
  | 0 => fun _ => .stuck
  | n + 1 => runDef 1 (g_law_alike (m_law_alike n))
def g_added : Ev → R Out :=
  (retO (ap m_made (cA (b2 addD (b2 ixD (rdE 0) (kI 0)) (b2 ixD (rdE 1) (kI 0))) (cA (b2 addD (ap listD (cA (b2 ixD (rdE 0) (kI 1)) nA)) (ap listD (cA (b2 ixD (rdE 1) (kI 1)) nA))) nA))))
def m_added : List D → R D := runDef 0 g_added
def g_times : Ev → R Out :=
  (retO (ap m_made (cA (b2 mulD (rdE 0) (b2 ixD (rdE 1) (kI 0))) (cA (lcN 2 (b2 ixD (rdE 1) (kI 1)) selT yes (ap mkTup (cA (b2 ixD (rdE 2) (kI 0)) (cA (b2 mulD (rdE 0) (b2 ixD (rdE 2) (kI 1))) nA)))) nA))))
def m_times : List D → R D := runDef 1 g_times
def g_without : Ev → R Out :=
  (retO (ap mkTup (cA (b2 ixD (rdE 0) (kI 0)) (cA (ap tupleD (cA (lcN 2 (b2 ixD (rdE 0) (kI 1)) selT (tV (b2 neD (b2 ixD (rdE 2) (kI 0)) (rdE 1))) (rdT 2)) nA)) nA))))
def m_without : List D → R D := runDef 1 g_without
def g_put_in : Ev → R Out :=
  (retO (ap m_added (cA (ap m_without (cA (rdE 0) (cA (rdE 1) nA))) (cA (ap m_times (cA (ap m_share (cA (rdE 0) (cA (rdE 1) nA))) (cA (rdE 2) nA))) nA))))
def m_put_in : List D → R D := runDef 0 g_put_in
def g_value : Ev → R Out :=
  (seqO (setO 2 (b2 ixD (rdE 0) (kI 0)))
  (seqO (forTO 3 (b2 ixD (rdE 0) (kI 1)) (seqO (ifO (tV (b2 ninD (b2 ixD (rdE 3) (kI 0)) (rdE 1))) (raiseO 0) nxO)
    (setO 2 (b2 addD (rdE 2) (b2 mulD (b2 ixD (rdE 3) (kI 1)) (b2 dgetD (rdE 1) (b2 ixD (rdE 3) (kI 0))))))))
  (retN 2)))
def m_value : List D → R D := runDef 2 g_value
def g_law_sum_by : Ev → R Out :=
  (seqO (setO 3 (rdT 0))
  (seqO (setO 4 (ap mkLst nA))
  (seqO (forLO 5 (ap sortedD (cA (rdE 1) nA)) (seqO (setO 3 (b2 modD (b2 addD (b2 mulD (rdE 3) (kI 48271)) (kI 11)) (kI 2147483647)))
    (seqO (setO 6 (b2 subD (b2 modD (b2 divD (rdE 3) (kI 7)) (b2 addD (b2 mulD (kI 2) (rdE 2)) (kI 1))) (rdE 2)))
    (ifO (tV (b2 neD (rdE 6) (kI 0))) (appO 4 (ap mkTup (cA (rdE 5) (cA (rdE 6) nA)))) nxO))))
  (seqO (setO 3 (b2 modD (b2 addD (b2 mulD (rdE 3) (kI 48271)) (kI 11)) (kI 2147483647)))
  (retO (ap mkTup (cA (b2 subD (b2 modD (b2 divD (rdE 3) (kI 7)) (kI 19)) (kI 9)) (cA (ap tupleD (cA (rdE 4) nA)) nA))))))))
def m_law_sum_by : List D → R D := runDef 4 g_law_sum_by
def g_law_value : Ev → R Out :=
  (seqO (setO 2 (b2 ixD (rdE 0) (kI 0)))
  (seqO (forTO 3 (b2 ixD (rdE 0) (kI 1)) (setO 2 (b2 addD (rdE 2) (b2 mulD (b2 ixD (rdE 3) (kI 1)) (b2 dgetD (rdE 1) (b2 ixD (rdE 3) (kI 0)))))))
  (retN 2)))
def m_law_value : List D → R D := runDef 2 g_law_value
def g_law_sum_is : Ev → R Out :=
  (seqO (ifO (tOr2 (tNot1 (tV (u1 (isiD "tuple") (rdE 0)))) (tOr2 (tV (b2 neD (ap lenD (cA (rdE 0) nA)) (kI 2))) (tOr2 (tNot1 (tV (ap m_law_whole (cA (b2 ixD (rdE 0) (kI 0)) nA)))) (tNot1 (tV (u1 (isiD "tuple") (b2 ixD (rdE 0) (kI 1)))))))) (retO (kB false)) nxO)
  (seqO (setO 2 (kS ""))
  (seqO (forTO 3 (b2 ixD (rdE 0) (kI 1)) (seqO (ifO (tOr2 (tNot1 (tV (u1 (isiD "tuple") (rdE 3)))) (tOr2 (tV (b2 neD (ap lenD (cA (rdE 3) nA)) (kI 2))) (tNot1 (tV (u1 (isiD "str") (b2 ixD (rdE 3) (kI 0))))))) (retO (kB false)) nxO)
    (seqO (ifO (tOr2 (tNot1 (tV (ap m_law_whole (cA (b2 ixD (rdE 3) (kI 1)) nA)))) (tOr2 (tV (b2 eqD (b2 ixD (rdE 3) (kI 1)) (kI 0))) (tOr2 (tV (b2 leD (b2 ixD (rdE 3) (kI 0)) (rdE 2))) (tV (b2 ninD (b2 ixD (rdE 3) (kI 0)) (rdE 1)))))) (retO (kB false)) nxO)
    (setO 2 (b2 ixD (rdE 3) (kI 0))))))
  (retO (kB true)))))
def m_law_sum_is : List D → R D := runDef 2 g_law_sum_is
def g_is_plain (rec : List D → R D) : Ev → R Out :=
  (seqO (setO 1 (b2 ixD (rdE 0) (kI 0)))
  (seqO (ifO (tV (b2 eqD (rdE 1) (kS "not"))) (retO (ap rec (cA (b2 ixD (rdE 0) (kI 1)) nA))) nxO)
  (seqO (ifO (tOr2 (tV (b2 eqD (rdE 1) (kS "and"))) (tV (b2 eqD (rdE 1) (kS "or")))) (forTO 2 (b2 ixD (rdE 0) (kI 1)) (ifO (tNot1 (tV (ap rec (cA (rdE 2) nA)))) (retO (kB false)) nxO)) nxO)
  (retO (vAnd (b2 neD (rdE 1) (kS "some")) (b2 neD (rdE 1) (kS "all")))))))
def m_is_plain : Nat → List D → R D
  | 0 => fun _ => .stuck
  | n + 1 => runDef 2 (g_is_plain (m_is_plain n))
def g_need_plain : Ev → R Out :=
  (ifO (tNot1 (tV (ap (m_is_plain 60) (cA (rdE 0) nA)))) (raiseO 1) nxO)
def m_need_plain : List D → R D := runDef 0 g_need_plain
def g_free_in (rec : List D → R D) : Ev → R Out :=
  (seqO (setO 2 (b2 ixD (rdE 0) (kI 0)))
  (seqO (ifO (tV (b2 eqD (rdE 2) (kS "not"))) (retO (ap rec (cA (b2 ixD (rdE 0) (kI 1)) (cA (rdE 1) nA)))) nxO)
  (seqO (ifO (tOr2 (tV (b2 eqD (rdE 2) (kS "some"))) (tV (b2 eqD (rdE 2) (kS "all")))) (retO (ap rec (cA (b2 ixD (rdE 0) (kI 2)) (cA (b2 addD (rdE 1) (ap mkLst (cA (b2 ixD (rdE 0) (kI 1)) nA))) nA)))) nxO)
  (seqO (ifO (tOr2 (tV (b2 eqD (rdE 2) (kS "and"))) (tV (b2 eqD (rdE 2) (kS "or")))) (seqO (setO 3 (ap mkLst nA))
    (seqO (forTO 4 (b2 ixD (rdE 0) (kI 1)) (extO 3 (ap rec (cA (rdE 4) (cA (rdE 1) nA)))))
    (retN 3))) nxO)
  (retO (lcN 5 (b2 ixD (b2 ixD (rdE 0) (u1 negD (kI 1))) (kI 1)) selT (tV (b2 ninD (b2 ixD (rdE 5) (kI 0)) (rdE 1))) (b2 ixD (rdE 5) (kI 0))))))))
def m_free_in : Nat → List D → R D
  | 0 => fun _ => .stuck
  | n + 1 => runDef 4 (g_free_in (m_free_in n))
def g_unknowns : Ev → R Out :=
  (retO (u1 ssetD (ap (m_free_in 60) (cA (rdE 0) (cA (ap mkLst nA) nA)))))
def m_unknowns : List D → R D := runDef 0 g_unknowns
def g_need_values : Ev → R Out :=
  (forNO 2 0 (ifO (tV (b2 ninD (rdE 2) (rdE 1))) (raiseO 0) nxO))
def m_need_values : List D → R D := runDef 1 g_need_values
def g_truth (rec : List D → R D) : Ev → R Out :=
  (seqO (setO 2 (b2 ixD (rdE 0) (kI 0)))
  (seqO (ifO (tV (b2 eqD (rdE 2) (kS "not"))) (retO (vNot (ap rec (cA (b2 ixD (rdE 0) (kI 1)) (cA (rdE 1) nA))))) nxO)
  (seqO (ifO (tV (b2 eqD (rdE 2) (kS "and"))) (seqO (forTO 4 (b2 ixD (rdE 0) (kI 1)) (ifO (tNot1 (tV (ap rec (cA (rdE 4) (cA (rdE 1) nA))))) (retO (kB false)) nxO))
    (retO (kB true))) nxO)
  (seqO (ifO (tV (b2 eqD (rdE 2) (kS "or"))) (seqO (forTO 4 (b2 ixD (rdE 0) (kI 1)) (ifO (tV (ap rec (cA (rdE 4) (cA (rdE 1) nA)))) (retO (kB true)) nxO))
    (retO (kB false))) nxO)
  (seqO (setO 3 (ap m_value (cA (b2 ixD (rdE 0) (u1 negD (kI 1))) (cA (rdE 1) nA))))
  (seqO (ifO (tV (b2 eqD (rdE 2) (kS "goes"))) (retO (b2 eqD (b2 modD (rdE 3) (b2 ixD (rdE 0) (kI 1))) (kI 0))) nxO)
  (seqO (ifO (tV (b2 eqD (rdE 2) (kS "above"))) (retO (b2 gtD (rdE 3) (kI 0))) nxO)
  (retO (b2 eqD (rdE 3) (kI 0))))))))))
def m_truth : Nat → List D → R D
  | 0 => fun _ => .stuck
  | n + 1 => runDef 3 (g_truth (m_truth n))
def g_is_true : Ev → R Out :=
  (seqO (exprO (ap m_need_plain (cA (rdE 0) nA)))
  (seqO (exprO (ap m_need_values (cA (ap m_unknowns (cA (rdE 0) nA)) (cA (rdE 1) nA))))
  (retO (ap (m_truth 60) (cA (rdE 0) (cA (rdE 1) nA))))))
def m_is_true : List D → R D := runDef 0 g_is_true
def g_law_end_by : Ev → R Out :=
  (seqO (setO 4 (ap m_law_sum_by (cA (b2 divD (rdE 0) (kI 12)) (cA (rdE 1) (cA (rdE 2) nA)))))
  (seqO (ifO (tV (b2 eqD (b2 modD (rdE 0) (kI 4)) (kI 3))) (retO (ap mkTup (cA (kS "nought") (cA (rdE 4) nA)))) nxO)
  (seqO (ifO (tV (b2 eqD (b2 modD (rdE 0) (kI 4)) (kI 2))) (retO (ap mkTup (cA (kS "goes") (cA (b2 addD (kI 1) (b2 modD (b2 divD (rdE 0) (kI 4)) (rdE 3))) (cA (rdE 4) nA))))) nxO)
  (retO (ap mkTup (cA (kS "above") (cA (rdE 4) nA)))))))
def m_law_end_by : List D → R D := runDef 1 g_law_end_by
def g_law_plain_by : Ev → R Out :=
  (seqO (setO 6 (ap m_law_cell_at (cA (rdE 0) (cA (rdE 1) nA))))
  (seqO (ifO (tV (b2 eqD (b2 modD (rdE 6) (kI 26)) (kI 25))) (retO (ap mkTup (cA (kS "and") (cA (ap mkTup nA) nA)))) nxO)
  (seqO (ifO (tV (b2 eqD (b2 modD (rdE 6) (kI 13)) (kI 12))) (setO 3 (ap mkLst nA)) nxO)
  (seqO (setO 7 (ap m_law_end_by (cA (rdE 6) (cA (rdE 3) (cA (rdE 4) (cA (rdE 5) nA))))))
  (seqO (forRO 8 (cA (kI 1) (cA (rdE 2) nA)) rng2 (seqO (setO 9 (b2 addD (ap m_law_cell_at (cA (rdE 0) (cA (b2 addD (rdE 1) (rdE 8)) nA))) (b2 mulD (kI 104729) (rdE 8))))
    (seqO (setO 10 (ap m_law_end_by (cA (b2 divD (rdE 9) (kI 9)) (cA (rdE 3) (cA (rdE 4) (cA (rdE 5) nA))))))
    (seqO (setO 11 (b2 modD (rdE 9) (kI 9)))
    (seqO (ifO (tV (b2 ltD (rdE 11) (kI 2))) (setO 7 (ap mkTup (cA (b2 ixD (ap mkLst (cA (kS "and") (cA (kS "or") nA))) (rdE 11)) (cA (ap mkTup (cA (rdE 7) (cA (rdE 10) nA))) nA)))) nxO)
    (seqO (ifO (tV (b2 eqD (rdE 11) (kI 2))) (setO 7 (ap mkTup (cA (kS "or") (cA (ap mkTup (cA (ap mkTup (cA (kS "not") (cA (rdE 7) nA))) (cA (rdE 10) nA))) nA)))) nxO)
    (seqO (ifO (tV (b2 eqD (rdE 11) (kI 3))) (setO 7 (ap mkTup (cA (kS "not") (cA (ap mkTup (cA (kS "and") (cA (ap mkTup (cA (rdE 10) (cA (rdE 7) (cA (ap mkTup (cA (kS "and") (cA (ap mkTup nA) nA))) nA)))) nA))) nA)))) nxO)
    (seqO (ifO (tV (b2 eqD (rdE 11) (kI 4))) (setO 7 (ap mkTup (cA (kS "and") (cA (ap mkTup (cA (ap mkTup (cA (kS "or") (cA (ap mkTup (cA (rdE 10) (cA (rdE 7) nA))) nA))) (cA (ap mkTup (cA (kS "not") (cA (rdE 10) nA))) nA))) nA)))) nxO)
    (seqO (ifO (tV (b2 eqD (rdE 11) (kI 5))) (setO 7 (ap mkTup (cA (kS "or") (cA (ap mkTup (cA (rdE 10) (cA (ap mkTup (cA (kS "or") (cA (ap mkTup nA) nA))) (cA (rdE 7) nA)))) nA)))) nxO)
    (seqO (ifO (tV (b2 eqD (rdE 11) (kI 6))) (setO 7 (ap mkTup (cA (kS "and") (cA (ap mkTup (cA (ap mkTup (cA (kS "not") (cA (ap mkTup (cA (kS "not") (cA (rdE 7) nA))) nA))) (cA (ap mkTup (cA (kS "not") (cA (rdE 10) nA))) nA))) nA)))) nxO)
    (seqO (ifO (tV (b2 eqD (rdE 11) (kI 7))) (setO 7 (ap mkTup (cA (kS "and") (cA (ap mkTup (cA (ap mkTup (cA (kS "or") (cA (ap mkTup (cA (rdE 7) nA)) nA))) (cA (ap mkTup (cA (kS "or") (cA (ap mkTup (cA (ap mkTup (cA (kS "and") (cA (ap mkTup (cA (rdE 10) nA)) nA))) nA)) nA))) nA))) nA)))) nxO)
    (ifO (tV (b2 eqD (rdE 11) (kI 8))) (setO 7 (ap mkTup (cA (b2 ixD (ap mkLst (cA (kS "and") (cA (kS "or") nA))) (b2 modD (b2 divD (rdE 9) (kI 9)) (kI 2))) (cA (b2 addD (ap mkTup (cA (rdE 10) (cA (rdE 10) (cA (rdE 7) nA)))) (b2 mulD (ap mkTup (cA (rdE 10) nA)) (b2 addD (kI 1) (b2 modD (b2 divD (rdE 9) (kI 18)) (kI 18))))) nA)))) nxO))))))))))))
  (retN 7))))))
def m_law_plain_by : List D → R D := runDef 6 g_law_plain_by
def g_law_true (rec : List D → R D) : Ev → R Out :=
  (seqO (setO 2 (b2 ixD (rdE 0) (kI 0)))
  (seqO (ifO (tV (b2 eqD (rdE 2) (kS "not"))) (retO (vNot (ap rec (cA (b2 ixD (rdE 0) (kI 1)) (cA (rdE 1) nA))))) nxO)
  (seqO (ifO (tOr2 (tV (b2 eqD (rdE 2) (kS "and"))) (tV (b2 eqD (rdE 2) (kS "or")))) (seqO (forTO 4 (b2 ixD (rdE 0) (kI 1)) (ifO (tV (b2 eqD (ap rec (cA (rdE 4) (cA (rdE 1) nA))) (b2 eqD (rdE 2) (kS "or")))) (retO (b2 eqD (rdE 2) (kS "or"))) nxO))
    (retO (b2 eqD (rdE 2) (kS "and")))) nxO)
  (seqO (setO 3 (ap m_law_value (cA (b2 ixD (rdE 0) (u1 negD (kI 1))) (cA (rdE 1) nA))))
  (seqO (ifO (tV (b2 eqD (rdE 2) (kS "goes"))) (retO (b2 eqD (b2 modD (rdE 3) (b2 ixD (rdE 0) (kI 1))) (kI 0))) nxO)
  (seqO (ifO (tV (b2 eqD (rdE 2) (kS "above"))) (retO (b2 gtD (rdE 3) (kI 0))) nxO)
  (retO (b2 eqD (rdE 3) (kI 0)))))))))
def m_law_true : Nat → List D → R D
  | 0 => fun _ => .stuck
  | n + 1 => runDef 3 (g_law_true (m_law_true n))
def g_law_free (rec : List D → R D) : Ev → R Out :=
  (seqO (setO 2 (b2 ixD (rdE 0) (kI 0)))
  (seqO (ifO (tV (b2 eqD (rdE 2) (kS "not"))) (retO (ap rec (cA (b2 ixD (rdE 0) (kI 1)) (cA (rdE 1) nA)))) nxO)
  (seqO (ifO (tOr2 (tV (b2 eqD (rdE 2) (kS "some"))) (tV (b2 eqD (rdE 2) (kS "all")))) (retO (ap rec (cA (b2 ixD (rdE 0) (kI 2)) (cA (b2 addD (rdE 1) (ap mkLst (cA (b2 ixD (rdE 0) (kI 1)) nA))) nA)))) nxO)
  (seqO (ifO (tOr2 (tV (b2 eqD (rdE 2) (kS "and"))) (tV (b2 eqD (rdE 2) (kS "or")))) (seqO (setO 3 (ap mkLst nA))
    (seqO (forTO 4 (b2 ixD (rdE 0) (kI 1)) (setO 3 (b2 addD (rdE 3) (lcN 6 (ap rec (cA (rdE 4) (cA (rdE 1) nA))) selL (tV (b2 ninD (rdE 6) (rdE 3))) (rdT 6)))))
    (retN 3))) nxO)
  (retO (lcN 5 (b2 ixD (b2 ixD (rdE 0) (u1 negD (kI 1))) (kI 1)) selT (tV (b2 ninD (b2 ixD (rdE 5) (kI 0)) (rdE 1))) (b2 ixD (rdE 5) (kI 0))))))))
def m_law_free : Nat → List D → R D
  | 0 => fun _ => .stuck
  | n + 1 => runDef 5 (g_law_free (m_law_free n))
def g_law_bound_by : Ev → R Out :=
  (seqO (setO 3 (ap mkTup (cA (b2 ixD (ap mkLst (cA (kS "some") (cA (kS "all") nA))) (b2 modD (rdE 0) (kI 2))) (cA (b2 ixD (rdE 2) (b2 modD (b2 divD (rdE 0) (kI 2)) (kI 4))) (cA (rdE 1) nA)))))
  (seqO (setO 4 (b2 modD (b2 divD (rdE 0) (kI 8)) (kI 4)))
  (seqO (ifO (tV (b2 eqD (rdE 4) (kI 0))) (retN 3) nxO)
  (seqO (ifO (tV (b2 eqD (rdE 4) (kI 1))) (retO (ap mkTup (cA (kS "not") (cA (rdE 3) nA)))) nxO)
  (seqO (ifO (tV (b2 eqD (rdE 4) (kI 2))) (retO (ap mkTup (cA (kS "and") (cA (ap mkTup (cA (rdE 1) (cA (rdE 3) nA))) nA)))) nxO)
  (retO (ap mkTup (cA (kS "or") (cA (ap mkTup (cA (ap mkTup (cA (kS "and") (cA (ap mkTup nA) nA))) (cA (ap mkTup (cA (kS "not") (cA (ap mkTup (cA (kS "or") (cA (ap mkTup (cA (rdE 3) (cA (rdE 1) nA))) nA))) nA))) nA))) nA)))))))))
def m_law_bound_by : List D → R D := runDef 2 g_law_bound_by
def g_law_edge_by : Ev → R Out :=
  (seqO (setO 3 (ap m_law_sum_by (cA (b2 divD (rdE 0) (kI 12)) (cA (rdE 1) (cA (kI 3) nA)))))
  (seqO (setO 3 (ap mkTup (cA (b2 subD (b2 addD (b2 subD (b2 ixD (rdE 3) (kI 0)) (ap m_law_value (cA (rdE 3) (cA (rdE 2) nA)))) (b2 modD (rdE 0) (kI 3))) (kI 1)) (cA (b2 ixD (rdE 3) (kI 1)) nA))))
  (seqO (setO 4 (b2 ixD (ap mkLst (cA (ap mkTup (cA (kS "above") (cA (rdE 3) nA))) (cA (ap mkTup (cA (kS "nought") (cA (rdE 3) nA))) (cA (ap mkTup (cA (kS "goes") (cA (b2 addD (kI 1) (b2 modD (b2 divD (rdE 0) (kI 9)) (kI 40))) (cA (rdE 3) nA)))) nA)))) (b2 modD (b2 divD (rdE 0) (kI 3)) (kI 3))))
  (seqO (ifO (tV (b2 eqD (b2 modD (b2 divD (rdE 0) (kI 7)) (kI 2)) (kI 1))) (retO (ap mkTup (cA (kS "not") (cA (rdE 4) nA)))) nxO)
  (retN 4)))))
def m_law_edge_by : List D → R D := runDef 2 g_law_edge_by
def g_replaced (rec : List D → R D) : Ev → R Out :=
  (seqO (setO 3 (b2 ixD (rdE 0) (kI 0)))
  (seqO (ifO (tV (b2 eqD (rdE 3) (kS "not"))) (retO (ap mkTup (cA (kS "not") (cA (ap rec (cA (b2 ixD (rdE 0) (kI 1)) (cA (rdE 1) (cA (rdE 2) nA)))) nA)))) nxO)
  (seqO (ifO (tOr2 (tV (b2 eqD (rdE 3) (kS "and"))) (tV (b2 eqD (rdE 3) (kS "or")))) (retO (ap mkTup (cA (rdE 3) (cA (ap tupleD (cA (lcN 4 (b2 ixD (rdE 0) (kI 1)) selT yes (ap rec (cA (rdE 4) (cA (rdE 1) (cA (rdE 2) nA))))) nA)) nA)))) nxO)
  (seqO (ifO (tV (b2 eqD (rdE 3) (kS "goes"))) (retO (ap mkTup (cA (kS "goes") (cA (b2 ixD (rdE 0) (kI 1)) (cA (ap m_put_in (cA (b2 ixD (rdE 0) (kI 2)) (cA (rdE 1) (cA (rdE 2) nA)))) nA))))) nxO)
  (retO (ap mkTup (cA (rdE 3) (cA (ap m_put_in (cA (b2 ixD (rdE 0) (kI 1)) (cA (rdE 1) (cA (rdE 2) nA)))) nA))))))))
def m_replaced : Nat → List D → R D
  | 0 => fun _ => .stuck
  | n + 1 => runDef 2 (g_replaced (m_replaced n))
def g_put : Ev → R Out :=
  (seqO (exprO (ap m_need_plain (cA (rdE 0) nA)))
  (retO (ap (m_replaced 60) (cA (rdE 0) (cA (rdE 1) (cA (rdE 2) nA))))))
def m_put : List D → R D := runDef 0 g_put
def g_law_sum_put : Ev → R Out :=
  (seqO (setO 3 (ap sumD (cA (lcN 8 (b2 ixD (rdE 0) (kI 1)) selT (tV (b2 eqD (b2 ixD (rdE 8) (kI 0)) (rdE 1))) (b2 ixD (rdE 8) (kI 1))) nA)))
  (seqO (setO 4 (u1 ssetD (b2 addD (lcN 8 (b2 ixD (rdE 0) (kI 1)) selT yes (b2 ixD (rdE 8) (kI 0))) (lcN 8 (b2 ixD (rdE 2) (kI 1)) selT yes (b2 ixD (rdE 8) (kI 0))))))
  (seqO (setO 5 (ap mkLst nA))
  (seqO (forNO 6 4 (seqO (setO 7 (ap sumD (cA (lcN 8 (b2 ixD (rdE 0) (kI 1)) selT (tAnd2 (tV (b2 eqD (b2 ixD (rdE 8) (kI 0)) (rdE 6))) (tV (b2 neD (rdE 6) (rdE 1)))) (b2 ixD (rdE 8) (kI 1))) nA)))
    (seqO (setO 7 (b2 addD (rdE 7) (b2 mulD (rdE 3) (ap sumD (cA (lcN 8 (b2 ixD (rdE 2) (kI 1)) selT (tV (b2 eqD (b2 ixD (rdE 8) (kI 0)) (rdE 6))) (b2 ixD (rdE 8) (kI 1))) nA)))))
    (ifO (tV (b2 neD (rdE 7) (kI 0))) (appO 5 (ap mkTup (cA (rdE 6) (cA (rdE 7) nA)))) nxO))))
  (retO (ap mkTup (cA (b2 addD (b2 ixD (rdE 0) (kI 0)) (b2 mulD (rdE 3) (b2 ixD (rdE 2) (kI 0)))) (cA (ap tupleD (cA (rdE 5) nA)) nA))))))))
def m_law_sum_put : List D → R D := runDef 6 g_law_sum_put
def g_law_put (rec : List D → R D) : Ev → R Out :=
  (seqO (setO 3 (b2 ixD (rdE 0) (kI 0)))
  (seqO (ifO (tV (b2 eqD (rdE 3) (kS "not"))) (retO (ap mkTup (cA (kS "not") (cA (ap rec (cA (b2 ixD (rdE 0) (kI 1)) (cA (rdE 1) (cA (rdE 2) nA)))) nA)))) nxO)
  (seqO (ifO (tOr2 (tV (b2 eqD (rdE 3) (kS "and"))) (tV (b2 eqD (rdE 3) (kS "or")))) (retO (ap mkTup (cA (rdE 3) (cA (ap tupleD (cA (lcN 4 (b2 ixD (rdE 0) (kI 1)) selT yes (ap rec (cA (rdE 4) (cA (rdE 1) (cA (rdE 2) nA))))) nA)) nA)))) nxO)
  (retO (b2 addD (sl3 (rdE 0) sN (sS (u1 negD (kI 1)))) (ap mkTup (cA (ap m_law_sum_put (cA (b2 ixD (rdE 0) (u1 negD (kI 1))) (cA (rdE 1) (cA (rdE 2) nA)))) nA)))))))
def m_law_put : Nat → List D → R D
  | 0 => fun _ => .stuck
  | n + 1 => runDef 2 (g_law_put (m_law_put n))
def g_turned (rec : List D → R D) : Ev → R Out :=
  (seqO (setO 2 (b2 ixD (rdE 0) (kI 0)))
  (seqO (ifO (tV (b2 eqD (rdE 2) (kS "not"))) (retO (ap rec (cA (b2 ixD (rdE 0) (kI 1)) (cA (vNot (rdE 1)) nA)))) nxO)
  (seqO (ifO (tOr2 (tV (b2 eqD (rdE 2) (kS "and"))) (tV (b2 eqD (rdE 2) (kS "or")))) (seqO (setO 5 (ap tupleD (cA (lcN 6 (b2 ixD (rdE 0) (kI 1)) selT yes (ap rec (cA (rdE 6) (cA (rdE 1) nA)))) nA)))
    (seqO (ifO (tV (b2 eqD (b2 eqD (rdE 2) (kS "and")) (rdE 1))) (retO (ap mkTup (cA (kS "and") (cA (rdE 5) nA)))) nxO)
    (retO (ap mkTup (cA (kS "or") (cA (rdE 5) nA)))))) nxO)
  (seqO (ifO (tV (b2 eqD (rdE 2) (kS "goes"))) (seqO (ifO (tV (rdE 1)) (retN 0) nxO)
    (retO (ap mkTup (cA (kS "not") (cA (rdE 0) nA))))) nxO)
  (seqO (setO 3 (b2 ixD (rdE 0) (kI 1)))
  (seqO (setO 4 (ap m_times (cA (u1 negD (kI 1)) (cA (rdE 3) nA))))
  (seqO (ifO (tV (b2 eqD (rdE 2) (kS "above"))) (seqO (ifO (tV (rdE 1)) (retN 0) nxO)
    (retO (ap mkTup (cA (kS "above") (cA (ap m_added (cA (ap mkTup (cA (kI 1) (cA (ap mkTup nA) nA))) (cA (rdE 4) nA))) nA))))) nxO)
  (seqO (ifO (tV (rdE 1)) (retO (ap mkTup (cA (kS "and") (cA (ap mkTup (cA (ap mkTup (cA (kS "above") (cA (ap m_added (cA (ap mkTup (cA (kI 1) (cA (ap mkTup nA) nA))) (cA (rdE 3) nA))) nA))) (cA (ap mkTup (cA (kS "above") (cA (ap m_added (cA (ap mkTup (cA (kI 1) (cA (ap mkTup nA) nA))) (cA (rdE 4) nA))) nA))) nA))) nA)))) nxO)
  (retO (ap mkTup (cA (kS "or") (cA (ap mkTup (cA (ap mkTup (cA (kS "above") (cA (rdE 3) nA))) (cA (ap mkTup (cA (kS "above") (cA (rdE 4) nA))) nA))) nA))))))))))))
def m_turned : Nat → List D → R D
  | 0 => fun _ => .stuck
  | n + 1 => runDef 5 (g_turned (m_turned n))
def g_straight : Ev → R Out :=
  (seqO (exprO (ap m_need_plain (cA (rdE 0) nA)))
  (retO (ap (m_turned 60) (cA (rdE 0) (cA (kB true) nA)))))
def m_straight : List D → R D := runDef 0 g_straight
def g_law_plain_is (rec : List D → R D) : Ev → R Out :=
  (seqO (ifO (tOr2 (tNot1 (tV (u1 (isiD "tuple") (rdE 0)))) (tOr2 (tV (b2 ltD (ap lenD (cA (rdE 0) nA)) (kI 2))) (tNot1 (tV (u1 (isiD "str") (b2 ixD (rdE 0) (kI 0))))))) (retO (kB false)) nxO)
  (seqO (setO 2 (b2 ixD (rdE 0) (kI 0)))
  (seqO (ifO (tAnd2 (tV (b2 eqD (rdE 2) (kS "goes"))) (tV (b2 eqD (ap lenD (cA (rdE 0) nA)) (kI 3)))) (retO (vAnd (ap m_law_whole (cA (b2 ixD (rdE 0) (kI 1)) nA)) (vAnd (b2 gtD (b2 ixD (rdE 0) (kI 1)) (kI 0)) (ap m_law_sum_is (cA (b2 ixD (rdE 0) (kI 2)) (cA (rdE 1) nA)))))) nxO)
  (seqO (ifO (tV (b2 neD (ap lenD (cA (rdE 0) nA)) (kI 2))) (retO (kB false)) nxO)
  (seqO (ifO (tV (b2 eqD (rdE 2) (kS "not"))) (retO (ap rec (cA (b2 ixD (rdE 0) (kI 1)) (cA (rdE 1) nA)))) nxO)
  (seqO (ifO (tOr2 (tV (b2 eqD (rdE 2) (kS "and"))) (tV (b2 eqD (rdE 2) (kS "or")))) (seqO (ifO (tNot1 (tV (u1 (isiD "tuple") (b2 ixD (rdE 0) (kI 1))))) (retO (kB false)) nxO)
    (seqO (forTO 3 (b2 ixD (rdE 0) (kI 1)) (ifO (tNot1 (tV (ap rec (cA (rdE 3) (cA (rdE 1) nA))))) (retO (kB false)) nxO))
    (retO (kB true)))) nxO)
  (retO (vAnd (vOr (b2 eqD (rdE 2) (kS "above")) (b2 eqD (rdE 2) (kS "nought"))) (ap m_law_sum_is (cA (b2 ixD (rdE 0) (kI 1)) (cA (rdE 1) nA)))))))))))
def m_law_plain_is : Nat → List D → R D
  | 0 => fun _ => .stuck
  | n + 1 => runDef 2 (g_law_plain_is (m_law_plain_is n))
def g_law_straight_is (rec : List D → R D) : Ev → R Out :=
  (seqO (setO 1 (b2 ixD (rdE 0) (kI 0)))
  (seqO (ifO (tOr2 (tV (b2 eqD (rdE 1) (kS "and"))) (tV (b2 eqD (rdE 1) (kS "or")))) (seqO (forTO 2 (b2 ixD (rdE 0) (kI 1)) (ifO (tNot1 (tV (ap rec (cA (rdE 2) nA)))) (retO (kB false)) nxO))
    (retO (kB true))) nxO)
  (seqO (ifO (tV (b2 eqD (rdE 1) (kS "not"))) (retO (b2 eqD (b2 ixD (b2 ixD (rdE 0) (kI 1)) (kI 0)) (kS "goes"))) nxO)
  (retO (vOr (b2 eqD (rdE 1) (kS "above")) (b2 eqD (rdE 1) (kS "goes")))))))
def m_law_straight_is : Nat → List D → R D
  | 0 => fun _ => .stuck
  | n + 1 => runDef 2 (g_law_straight_is (m_law_straight_is n))
def g_parts_of : Ev → R Out :=
  (seqO (ifO (tV (b2 eqD (b2 ixD (rdE 0) (kI 0)) (rdE 1))) (retO (b2 ixD (rdE 0) (kI 1))) nxO)
  (retO (ap mkTup (cA (rdE 0) nA))))
def m_parts_of : List D → R D := runDef 0 g_parts_of
def g_all_of (w : World) : Ev → R Out :=
  (seqO (setO 1 (kDs w))
  (seqO (forNO 2 0 (seqO (ifO (tV (b2 eqD (rdE 2) gl_NO)) (retO gl_NO) nxO)
    (forTO 3 (ap m_parts_of (cA (rdE 2) (cA (kS "and") nA))) (sputO w 1 (rdE 3) (kB true)))))
  (seqO (ifO (tV (b2 eqD (ap lenSn (cA (rdE 1) nA)) (kI 1))) (retO (b2 ixD (ap listSn (cA (rdE 1) nA)) (kI 0))) nxO)
  (retO (ap mkTup (cA (kS "and") (cA (ap tupleSn (cA (rdE 1) nA)) nA)))))))
def m_all_of (w : World) : List D → R D := runDef 3 (g_all_of w)
def g_one_of (w : World) : Ev → R Out :=
  (seqO (setO 1 (kDs w))
  (seqO (forNO 2 0 (seqO (ifO (tV (b2 eqD (rdE 2) gl_YES)) (retO gl_YES) nxO)
    (forTO 3 (ap m_parts_of (cA (rdE 2) (cA (kS "or") nA))) (sputO w 1 (rdE 3) (kB true)))))
  (seqO (ifO (tV (b2 eqD (ap lenSn (cA (rdE 1) nA)) (kI 1))) (retO (b2 ixD (ap listSn (cA (rdE 1) nA)) (kI 0))) nxO)
  (retO (ap mkTup (cA (kS "or") (cA (ap tupleSn (cA (rdE 1) nA)) nA)))))))
def m_one_of (w : World) : List D → R D := runDef 3 (g_one_of w)
def g_decided : Ev → R Out :=
  (seqO (ifO (tV (b2 neD (b2 ixD (b2 ixD (rdE 0) (u1 negD (kI 1))) (kI 1)) (ap mkTup nA))) (retN 0) nxO)
  (seqO (ifO (tV (ap (m_truth 60) (cA (rdE 0) (cA kD nA)))) (retO gl_YES) nxO)
  (retO gl_NO)))
def m_decided : List D → R D := runDef 0 g_decided
def g_filled (w : World) (rec : List D → R D) : Ev → R Out :=
  (seqO (setO 3 (b2 ixD (rdE 0) (kI 0)))
  (seqO (ifO (tV (b2 eqD (rdE 3) (kS "and"))) (retO (ap (m_all_of w) (cA (lcN 5 (b2 ixD (rdE 0) (kI 1)) selT yes (ap rec (cA (rdE 5) (cA (rdE 1) (cA (rdE 2) nA))))) nA))) nxO)
  (seqO (ifO (tV (b2 eqD (rdE 3) (kS "or"))) (retO (ap (m_one_of w) (cA (lcN 5 (b2 ixD (rdE 0) (kI 1)) selT yes (ap rec (cA (rdE 5) (cA (rdE 1) (cA (rdE 2) nA))))) nA))) nxO)
  (seqO (ifO (tV (b2 eqD (rdE 3) (kS "not"))) (seqO (setO 4 (ap rec (cA (b2 ixD (rdE 0) (kI 1)) (cA (rdE 1) (cA (rdE 2) nA)))))
    (seqO (ifO (tV (b2 eqD (rdE 4) gl_YES)) (retO gl_NO) nxO)
    (seqO (ifO (tV (b2 eqD (rdE 4) gl_NO)) (retO gl_YES) nxO)
    (retO (ap mkTup (cA (kS "not") (cA (rdE 4) nA))))))) nxO)
  (seqO (ifO (tV (b2 eqD (rdE 3) (kS "goes"))) (retO (ap m_decided (cA (ap mkTup (cA (kS "goes") (cA (b2 ixD (rdE 0) (kI 1)) (cA (ap m_put_in (cA (b2 ixD (rdE 0) (kI 2)) (cA (rdE 1) (cA (rdE 2) nA)))) nA)))) nA))) nxO)
  (retO (ap m_decided (cA (ap mkTup (cA (kS "above") (cA (ap m_put_in (cA (b2 ixD (rdE 0) (kI 1)) (cA (rdE 1) (cA (rdE 2) nA)))) nA))) nA))))))))
def m_filled (w : World) : Nat → List D → R D
  | 0 => fun _ => .stuck
  | n + 1 => runDef 3 (g_filled w (m_filled w n))
def g_ends_of (rec : List D → R D) : Ev → R Out :=
  (seqO (setO 1 (b2 ixD (rdE 0) (kI 0)))
  (seqO (ifO (tOr2 (tV (b2 eqD (rdE 1) (kS "and"))) (tV (b2 eqD (rdE 1) (kS "or")))) (seqO (setO 2 (ap mkLst nA))
    (seqO (forTO 3 (b2 ixD (rdE 0) (kI 1)) (extO 2 (ap rec (cA (rdE 3) nA))))
    (retN 2))) nxO)
  (seqO (ifO (tV (b2 eqD (rdE 1) (kS "not"))) (retO (ap mkLst (cA (b2 ixD (rdE 0) (kI 1)) nA))) nxO)
  (retO (ap mkLst (cA (rdE 0) nA))))))
def m_ends_of : Nat → List D → R D
  | 0 => fun _ => .stuck
  | n + 1 => runDef 3 (g_ends_of (m_ends_of n))
def g_least_times : Ev → R Out :=
  (seqO (parO2 2 3 (cA (rdE 0) (cA (rdE 1) nA)))
  (seqO (whR (tV (b2 gtD (rdE 3) (kI 0))) (parO2 2 3 (cA (rdE 3) (cA (b2 modD (rdE 2) (rdE 3)) nA))) 1000)
  (retO (b2 mulD (b2 divD (rdE 0) (rdE 2)) (rdE 1)))))
def m_least_times : List D → R D := runDef 2 g_least_times
def g_end_stretched : Ev → R Out :=
  (seqO (setO 3 (ap m_share (cA (b2 ixD (rdE 0) (u1 negD (kI 1))) (cA (rdE 1) nA))))
  (seqO (ifO (tV (b2 eqD (rdE 3) (kI 0))) (retN 0) nxO)
  (seqO (setO 4 (b2 divD (rdE 2) (ap absD (cA (rdE 3) nA))))
  (seqO (setO 5 (ap m_added (cA (ap m_times (cA (rdE 4) (cA (ap m_without (cA (b2 ixD (rdE 0) (u1 negD (kI 1))) (cA (rdE 1) nA))) nA))) (cA (ap mkTup (cA (kI 0) (cA (ap mkTup (cA (ap mkTup (cA (rdE 1) (cA (b2 divD (rdE 3) (ap absD (cA (rdE 3) nA))) nA))) nA)) nA))) nA))))
  (seqO (ifO (tV (b2 eqD (b2 ixD (rdE 0) (kI 0)) (kS "goes"))) (retO (ap mkTup (cA (kS "goes") (cA (b2 mulD (rdE 4) (b2 ixD (rdE 0) (kI 1))) (cA (rdE 5) nA))))) nxO)
  (retO (ap mkTup (cA (kS "above") (cA (rdE 5) nA)))))))))
def m_end_stretched : List D → R D := runDef 3 g_end_stretched
def g_stretched (rec : List D → R D) : Ev → R Out :=
  (seqO (setO 3 (b2 ixD (rdE 0) (kI 0)))
  (seqO (ifO (tOr2 (tV (b2 eqD (rdE 3) (kS "and"))) (tV (b2 eqD (rdE 3) (kS "or")))) (retO (ap mkTup (cA (rdE 3) (cA (ap tupleD (cA (lcN 4 (b2 ixD (rdE 0) (kI 1)) selT yes (ap rec (cA (rdE 4) (cA (rdE 1) (cA (rdE 2) nA))))) nA)) nA)))) nxO)
  (seqO (ifO (tV (b2 eqD (rdE 3) (kS "not"))) (retO (ap mkTup (cA (kS "not") (cA (ap m_end_stretched (cA (b2 ixD (rdE 0) (kI 1)) (cA (rdE 1) (cA (rdE 2) nA)))) nA)))) nxO)
  (retO (ap m_end_stretched (cA (rdE 0) (cA (rdE 1) (cA (rdE 2) nA))))))))
def m_stretched : Nat → List D → R D
  | 0 => fun _ => .stuck
  | n + 1 => runDef 2 (g_stretched (m_stretched n))
def g_prepared : Ev → R Out :=
  (seqO (setO 2 (ap (m_turned 60) (cA (rdE 0) (cA (kB true) nA))))
  (seqO (setO 3 (kI 1))
  (seqO (forLO 4 (ap (m_ends_of 60) (cA (rdE 2) nA)) (seqO (setO 6 (ap m_share (cA (b2 ixD (rdE 4) (u1 negD (kI 1))) (cA (rdE 1) nA))))
    (ifO (tV (b2 neD (rdE 6) (kI 0))) (setO 3 (ap m_least_times (cA (rdE 3) (cA (ap absD (cA (rdE 6) nA)) nA)))) nxO)))
  (seqO (setO 2 (ap (m_stretched 60) (cA (rdE 2) (cA (rdE 1) (cA (rdE 3) nA)))))
  (seqO (ifO (tV (b2 gtD (rdE 3) (kI 1))) (setO 2 (ap mkTup (cA (kS "and") (cA (ap mkTup (cA (rdE 2) (cA (ap mkTup (cA (kS "goes") (cA (rdE 3) (cA (ap mkTup (cA (kI 0) (cA (ap mkTup (cA (ap mkTup (cA (rdE 1) (cA (kI 1) nA))) nA)) nA))) nA)))) nA))) nA)))) nxO)
  (seqO (setO 5 (kI 1))
  (seqO (forLO 4 (ap (m_ends_of 60) (cA (rdE 2) nA)) (ifO (tAnd2 (tV (b2 eqD (b2 ixD (rdE 4) (kI 0)) (kS "goes"))) (tV (b2 neD (ap m_share (cA (b2 ixD (rdE 4) (kI 2)) (cA (rdE 1) nA))) (kI 0)))) (setO 5 (ap m_least_times (cA (rdE 5) (cA (b2 ixD (rdE 4) (kI 1)) nA)))) nxO))
  (retO (ap mkTup (cA (rdE 2) (cA (rdE 3) (cA (rdE 5) nA))))))))))))
def m_prepared : List D → R D := runDef 5 g_prepared
def g_bounds_of (w : World) : Ev → R Out :=
  (seqO (setO 3 (kDs w))
  (seqO (forLO 4 (ap (m_ends_of 60) (cA (rdE 0) nA)) (ifO (tAnd2 (tV (b2 eqD (b2 ixD (rdE 4) (kI 0)) (kS "above"))) (tV (b2 eqD (ap m_share (cA (b2 ixD (rdE 4) (kI 1)) (cA (rdE 1) nA))) (rdE 2)))) (sputO w 3 (ap m_times (cA (u1 negD (rdE 2)) (cA (ap m_without (cA (b2 ixD (rdE 4) (kI 1)) (cA (rdE 1) nA))) nA))) (kB true)) nxO))
  (retO (ap listSn (cA (rdE 3) nA)))))
def m_bounds_of (w : World) : List D → R D := runDef 2 (g_bounds_of w)
def g_far_below (w : World) (rec : List D → R D) : Ev → R Out :=
  (seqO (setO 2 (b2 ixD (rdE 0) (kI 0)))
  (seqO (ifO (tV (b2 eqD (rdE 2) (kS "and"))) (retO (ap (m_all_of w) (cA (lcN 3 (b2 ixD (rdE 0) (kI 1)) selT yes (ap rec (cA (rdE 3) (cA (rdE 1) nA)))) nA))) nxO)
  (seqO (ifO (tV (b2 eqD (rdE 2) (kS "or"))) (retO (ap (m_one_of w) (cA (lcN 3 (b2 ixD (rdE 0) (kI 1)) selT yes (ap rec (cA (rdE 3) (cA (rdE 1) nA)))) nA))) nxO)
  (seqO (ifO (tV (b2 neD (rdE 2) (kS "above"))) (retN 0) nxO)
  (retO (b2 ixD (ap mkLst (cA gl_NO (cA (rdE 0) (cA gl_YES nA)))) (b2 subD (kI 1) (ap m_share (cA (b2 ixD (rdE 0) (kI 1)) (cA (rdE 1) nA))))))))))
def m_far_below (w : World) : Nat → List D → R D
  | 0 => fun _ => .stuck
  | n + 1 => runDef 2 (g_far_below w (m_far_below w n))
def g_taken (w : World) : Ev → R Out :=
  (seqO (exprO (ap m_need_plain (cA (rdE 1) nA)))
  (seqO (ifO (tV (b2 ninD (rdE 0) (ap m_unknowns (cA (rdE 1) nA)))) (retN 1) nxO)
  (seqO (unpO [5, 6, 7] (ap m_prepared (cA (rdE 1) (cA (rdE 0) nA))))
  (seqO (setO 2 (ap (m_far_below w 60) (cA (rdE 5) (cA (rdE 0) nA))))
  (seqO (setO 3 (lcRg 8 (cA (kI 1) (cA (b2 addD (rdE 7) (kI 1)) nA)) rng2 yes (ap (m_filled w 60) (cA (rdE 2) (cA (rdE 0) (cA (ap mkTup (cA (rdE 8) (cA (ap mkTup nA) nA))) nA))))))
  (seqO (forLO 4 (ap (m_bounds_of w) (cA (rdE 5) (cA (rdE 0) (cA (kI 1) nA)))) (forRO 8 (cA (kI 1) (cA (b2 addD (rdE 7) (kI 1)) nA)) rng2 (appO 3 (ap (m_filled w 60) (cA (rdE 5) (cA (rdE 0) (cA (ap m_added (cA (rdE 4) (cA (ap mkTup (cA (rdE 8) (cA (ap mkTup nA) nA))) nA))) nA)))))))
  (retO (ap (m_one_of w) (cA (rdE 3) nA)))))))))
def m_taken (w : World) : List D → R D := runDef 7 (g_taken w)
def g_law_ends (rec : List D → R D) : Ev → R Out :=
  (seqO (setO 1 (b2 ixD (rdE 0) (kI 0)))
  (seqO (ifO (tV (b2 eqD (rdE 1) (kS "not"))) (retO (ap rec (cA (b2 ixD (rdE 0) (kI 1)) nA))) nxO)
  (seqO (ifO (tOr2 (tV (b2 eqD (rdE 1) (kS "and"))) (tV (b2 eqD (rdE 1) (kS "or")))) (seqO (setO 2 (ap mkLst nA))
    (seqO (forTO 3 (b2 ixD (rdE 0) (kI 1)) (extO 2 (ap rec (cA (rdE 3) nA))))
    (retN 2))) nxO)
  (retO (ap mkLst (cA (rdE 0) nA))))))
def m_law_ends : Nat → List D → R D
  | 0 => fun _ => .stuck
  | n + 1 => runDef 3 (g_law_ends (m_law_ends n))
def g_law_tries : Ev → R Out :=
  (seqO (setO 3 (kI 1))
  (seqO (setO 4 (ap mkLst nA))
  (seqO (forLO 5 (ap (m_law_ends 60) (cA (rdE 0) nA)) (ifO (tV (b2 eqD (b2 ixD (rdE 5) (kI 0)) (kS "goes"))) (seqO (setO 8 (rdT 3))
      (seqO (whR (tV (b2 neD (b2 modD (rdE 8) (b2 ixD (rdE 5) (kI 1))) (kI 0))) (setO 8 (b2 addD (rdE 8) (rdE 3))) 1000)
      (setO 3 (rdT 8)))) (seqO (setO 9 (ap sumD (cA (lcN 12 (b2 ixD (b2 ixD (rdE 5) (u1 negD (kI 1))) (kI 1)) selT (tV (b2 eqD (b2 ixD (rdE 12) (kI 0)) (rdE 1))) (b2 ixD (rdE 12) (kI 1))) nA)))
      (seqO (setO 10 (b2 addD (b2 ixD (b2 ixD (rdE 5) (u1 negD (kI 1))) (kI 0)) (ap sumD (cA (lcN 12 (b2 ixD (b2 ixD (rdE 5) (u1 negD (kI 1))) (kI 1)) selT (tV (b2 neD (b2 ixD (rdE 12) (kI 0)) (rdE 1))) (b2 mulD (b2 ixD (rdE 12) (kI 1)) (b2 dgetD (rdE 2) (b2 ixD (rdE 12) (kI 0))))) nA))))
      (ifO (tV (b2 neD (rdE 9) (kI 0))) (appO 4 (b2 divD (b2 subD (kI 0) (rdE 10)) (rdE 9))) nxO)))))
  (seqO (setO 6 (ap mkLst nA))
  (seqO (forOO 7 4 (ap mkLst (cA (kI 0) nA)) (extO 6 (lcRg 11 (cA (b2 addD (b2 mulD (kI 2) (rdE 3)) (kI 1)) nA) rng1 yes (b2 subD (b2 addD (rdE 7) (rdE 11)) (rdE 3)))))
  (retO (u1 issetD (rdE 6))))))))
def m_law_tries : List D → R D := runDef 10 g_law_tries
def g_law_some : Ev → R Out :=
  (seqO (setO 3 (ap dictD (cA (rdE 2) nA)))
  (seqO (forLO 4 (ap m_law_tries (cA (rdE 0) (cA (rdE 1) (cA (rdE 2) nA)))) (seqO (dputO 3 (rdE 1) (rdE 4))
    (ifO (tV (ap (m_law_true 60) (cA (rdE 0) (cA (rdE 3) nA)))) (retO (kB true)) nxO)))
  (retO (kB false))))
def m_law_some : List D → R D := runDef 2 g_law_some
def g_law_shape : Ev → R Out :=
  (seqO (ifO (tV (b2 eqD (b2 modD (rdE 0) (kI 6)) (kI 5))) (retO (ap mkTup (cA (b2 addD (kI 1) (b2 modD (b2 divD (rdE 0) (kI 6)) (kI 2))) (cA (kI 3) (cA (kI 4) nA))))) nxO)
  (seqO (ifO (tV (b2 eqD (b2 modD (b2 divD (rdE 0) (kI 6)) (kI 9)) (kI 8))) (retO (ap mkTup (cA (kI 1) (cA (kI 1) (cA (kI 40) nA))))) nxO)
  (retO (ap mkTup (cA (b2 addD (kI 1) (b2 modD (b2 divD (rdE 0) (kI 6)) (kI 4))) (cA (b2 ixD (ap mkLst (cA (kI 1) (cA (kI 1) (cA (kI 2) (cA (kI 2) (cA (kI 2) nA)))))) (b2 modD (rdE 0) (kI 6))) (cA (b2 ixD (ap mkLst (cA (kI 3) (cA (kI 3) (cA (kI 2) (cA (kI 4) (cA (kI 4) nA)))))) (b2 modD (rdE 0) (kI 6))) nA)))))))
def m_law_shape : List D → R D := runDef 0 g_law_shape
def g_law_box_by : Ev → R Out :=
  (seqO (setO 6 (ap mkLst nA))
  (seqO (forRO 7 (cA (b2 addD (rdE 2) (kI 1)) nA) rng1 (seqO (setO 8 (b2 addD (ap m_law_cell_at (cA (rdE 0) (cA (b2 addD (rdE 1) (rdE 7)) nA))) (b2 mulD (kI 104729) (rdE 7))))
    (seqO (setO 9 (ap m_law_sum_by (cA (b2 divD (rdE 8) (kI 12)) (cA (sl3 (rdE 3) (sS (kI 1)) sN) (cA (rdE 4) nA)))))
    (seqO (setO 10 (b2 mulD (b2 ixD (ap mkLst (cA (kI 1) (cA (u1 negD (kI 1)) nA))) (b2 modD (rdE 7) (kI 2))) (b2 addD (kI 1) (b2 modD (b2 divD (rdE 8) (kI 3)) (rdE 4)))))
    (seqO (setO 9 (ap mkTup (cA (b2 ixD (rdE 9) (kI 0)) (cA (ap tupleD (cA (ap sortPD (cA (b2 addD (ap listD (cA (b2 ixD (rdE 9) (kI 1)) nA)) (ap mkLst (cA (ap mkTup (cA (b2 ixD (rdE 3) (kI 0)) (cA (rdE 10) nA))) nA))) nA)) nA)) nA))))
    (ifO (tOr2 (tAnd2 (tV (b2 eqD (rdE 7) (kI 2))) (tV (b2 eqD (b2 modD (rdE 8) (kI 2)) (kI 0)))) (tAnd2 (tV (b2 eqD (b2 modD (rdE 8) (kI 3)) (kI 2))) (tV (b2 gtD (rdE 7) (kI 0))))) (appO 6 (ap mkTup (cA (kS "goes") (cA (b2 addD (kI 1) (b2 modD (b2 divD (rdE 8) (kI 4)) (rdE 5))) (cA (rdE 9) nA))))) (ifO (tAnd2 (tV (b2 eqD (b2 modD (rdE 8) (kI 3)) (kI 1))) (tV (b2 gtD (rdE 7) (kI 2)))) (appO 6 (ap mkTup (cA (kS "not") (cA (ap mkTup (cA (kS "nought") (cA (rdE 9) nA))) nA)))) (appO 6 (ap mkTup (cA (kS "above") (cA (rdE 9) nA)))))))))))
  (retO (ap mkTup (cA (kS "and") (cA (ap tupleD (cA (rdE 6) nA)) nA))))))
def m_law_box_by : List D → R D := runDef 5 g_law_box_by
def g_law_any_by : Ev → R Out :=
  (seqO (setO 6 (b2 modD (b2 divD (ap m_law_cell_at (cA (rdE 0) (cA (rdE 1) nA))) (kI 5)) (kI 4)))
  (seqO (ifO (tV (b2 ltD (rdE 6) (kI 2))) (retO (ap m_law_plain_by (cA (rdE 0) (cA (rdE 1) (cA (rdE 2) (cA (rdE 3) (cA (rdE 4) (cA (rdE 5) nA)))))))) nxO)
  (seqO (ifO (tV (b2 eqD (rdE 6) (kI 2))) (retO (ap m_law_box_by (cA (rdE 0) (cA (rdE 1) (cA (rdE 2) (cA (rdE 3) (cA (rdE 4) (cA (rdE 5) nA)))))))) nxO)
  (retO (ap mkTup (cA (kS "not") (cA (ap m_law_box_by (cA (rdE 0) (cA (rdE 1) (cA (rdE 2) (cA (rdE 3) (cA (rdE 4) (cA (rdE 5) nA))))))) nA)))))))
def m_law_any_by : List D → R D := runDef 1 g_law_any_by
def g_left (w : World) (rec : List D → R D) : Ev → R Out :=
  (seqO (setO 1 (b2 ixD (rdE 0) (kI 0)))
  (seqO (ifO (tV (b2 eqD (rdE 1) (kS "not"))) (retO (ap mkTup (cA (kS "not") (cA (ap rec (cA (b2 ixD (rdE 0) (kI 1)) nA)) nA)))) nxO)
  (seqO (ifO (tOr2 (tV (b2 eqD (rdE 1) (kS "and"))) (tV (b2 eqD (rdE 1) (kS "or")))) (retO (ap mkTup (cA (rdE 1) (cA (ap tupleD (cA (lcN 2 (b2 ixD (rdE 0) (kI 1)) selT yes (ap rec (cA (rdE 2) nA))) nA)) nA)))) nxO)
  (seqO (ifO (tV (b2 eqD (rdE 1) (kS "some"))) (retO (ap (m_taken w) (cA (b2 ixD (rdE 0) (kI 1)) (cA (ap rec (cA (b2 ixD (rdE 0) (kI 2)) nA)) nA)))) nxO)
  (seqO (ifO (tV (b2 eqD (rdE 1) (kS "all"))) (retO (ap mkTup (cA (kS "not") (cA (ap (m_taken w) (cA (b2 ixD (rdE 0) (kI 1)) (cA (ap mkTup (cA (kS "not") (cA (ap rec (cA (b2 ixD (rdE 0) (kI 2)) nA)) nA))) nA))) nA)))) nxO)
  (retN 0))))))
def m_left (w : World) : Nat → List D → R D
  | 0 => fun _ => .stuck
  | n + 1 => runDef 2 (g_left w (m_left w n))
def g_holds (w : World) : Ev → R Out :=
  (seqO (exprO (ap m_need_values (cA (ap m_unknowns (cA (rdE 0) nA)) (cA (rdE 1) nA))))
  (retO (ap m_is_true (cA (ap (m_left w 60) (cA (rdE 0) nA)) (cA (rdE 1) nA)))))
def m_holds (w : World) : List D → R D := runDef 0 (g_holds w)
def g_tries_of (w : World) : Ev → R Out :=
  (seqO (setO 3 (lcN 9 (ap (m_bounds_of w) (cA (rdE 0) (cA (rdE 1) (cA (kI 1) nA)))) selL yes (b2 ixD (rdE 9) (kI 0))))
  (seqO (setO 4 (lcN 9 (ap (m_bounds_of w) (cA (rdE 0) (cA (rdE 1) (cA (u1 negD (kI 1)) nA)))) selL yes (b2 ixD (rdE 9) (kI 0))))
  (seqO (setO 5 (b2 subD (u1 (mDefD minI 0) (b2 addD (rdE 3) (rdE 4))) (kI 1)))
  (seqO (setO 6 (lcRg 8 (cA (rdE 2) nA) rng1 yes (b2 subD (rdE 5) (rdE 8))))
  (seqO (forNO 7 3 (forRO 8 (cA (kI 1) (cA (b2 addD (rdE 2) (kI 1)) nA)) rng2 (appO 6 (b2 addD (rdE 7) (rdE 8)))))
  (retN 6))))))
def m_tries_of (w : World) : List D → R D := runDef 7 (g_tries_of w)
def g_told (w : World) : Ev → R Out :=
  (seqO (exprO (ap m_need_values (cA (lcN 4 (ap m_unknowns (cA (rdE 1) nA)) selL (tV (b2 neD (rdE 4) (rdE 0))) (rdT 4)) (cA (rdE 2) nA))))
  (seqO (setO 3 (ap (m_left w 60) (cA (rdE 1) nA)))
  (seqO (forLO 4 (ap m_unknowns (cA (rdE 3) nA)) (ifO (tV (b2 neD (rdE 4) (rdE 0))) (setO 3 (ap m_put (cA (rdE 3) (cA (rdE 4) (cA (ap mkTup (cA (b2 dgetD (rdE 2) (rdE 4)) (cA (ap mkTup nA) nA))) nA))))) nxO))
  (seqO (unpO [6, 7, 8] (ap m_prepared (cA (rdE 3) (cA (rdE 0) nA))))
  (seqO (forLO 5 (ap (m_tries_of w) (cA (rdE 6) (cA (rdE 0) (cA (rdE 8) nA)))) (ifO (tV (ap (m_truth 60) (cA (rdE 6) (cA (kD1 (rdE 0) (rdE 5)) nA)))) (retO (b2 divD (rdE 5) (rdE 7))) nxO))
  (retO kN))))))
def m_told (w : World) : List D → R D := runDef 6 (g_told w)
def g_law_sum : Ev → R Out :=
  (retO (ap mkTup (cA (rdE 0) (cA (ap tupleD (cA (ap sortPD (cA (lcN 2 (rdE 1) selL (tV (b2 neD (b2 ixD (rdE 2) (kI 1)) (kI 0))) (rdT 2)) nA)) nA)) nA))))
def m_law_sum : List D → R D := runDef 1 g_law_sum
def g_law_kind : Ev → R Out :=
  (seqO (setO 3 (b2 addD (kI 1) (b2 modD (ap m_law_cell_at (cA (rdE 0) (cA (kI 3) nA))) (kI 40))))
  (seqO (unpLO [9, 10, 11] (sl3 (rdE 1) sN (sS (kI 3))))
  (seqO (setO 4 (b2 dgetD (rdE 2) (rdE 10)))
  (seqO (setO 5 (b2 dgetD (rdE 2) (rdE 11)))
  (seqO (setO 6 (ap mkLst (cA (ap mkTup (cA (kS "above") (cA (ap m_law_sum (cA (kI 0) (cA (ap mkLst (cA (ap mkTup (cA (rdE 9) (cA (rdE 3) nA))) (cA (ap mkTup (cA (rdE 10) (cA (u1 negD (kI 1)) nA))) nA))) nA))) nA))) (cA (ap mkTup (cA (kS "above") (cA (ap m_law_sum (cA (kI 0) (cA (ap mkLst (cA (ap mkTup (cA (rdE 9) (cA (b2 subD (kI 0) (rdE 3)) nA))) (cA (ap mkTup (cA (rdE 11) (cA (kI 1) nA))) nA))) nA))) nA))) nA))))
  (seqO (setO 7 (b2 modD (ap m_law_cell_at (cA (rdE 0) (cA (kI 4) nA))) (kI 4)))
  (seqO (ifO (tV (b2 eqD (rdE 7) (kI 0))) (retO (ap mkTup (cA (kS "some") (cA (ap mkTup (cA (kS "and") (cA (ap tupleD (cA (rdE 6) nA)) nA))) (cA (b2 ltD (b2 mulD (b2 addD (b2 divD (rdE 4) (rdE 3)) (kI 1)) (rdE 3)) (rdE 5)) nA))))) nxO)
  (seqO (ifO (tV (b2 eqD (rdE 7) (kI 1))) (retO (ap mkTup (cA (kS "some") (cA (ap mkTup (cA (kS "nought") (cA (ap m_law_sum (cA (kI 0) (cA (ap mkLst (cA (ap mkTup (cA (rdE 9) (cA (rdE 3) nA))) (cA (ap mkTup (cA (rdE 10) (cA (u1 negD (kI 1)) nA))) nA))) nA))) nA))) (cA (b2 eqD (b2 modD (rdE 4) (rdE 3)) (kI 0)) nA))))) nxO)
  (seqO (ifO (tV (b2 eqD (rdE 7) (kI 2))) (seqO (setO 12 (ap mkTup (cA (kS "goes") (cA (rdE 3) (cA (ap m_law_sum (cA (kI 0) (cA (ap mkLst (cA (ap mkTup (cA (rdE 9) (cA (kI 1) nA))) (cA (ap mkTup (cA (rdE 10) (cA (kI 1) nA))) nA))) nA))) nA)))))
    (retO (ap mkTup (cA (kS "some") (cA (ap mkTup (cA (kS "and") (cA (ap mkTup (cA (rdE 12) (cA (ap mkTup (cA (kS "above") (cA (ap m_law_sum (cA (kI 0) (cA (ap mkLst (cA (ap mkTup (cA (rdE 9) (cA (kI 1) nA))) (cA (ap mkTup (cA (rdE 11) (cA (u1 negD (kI 1)) nA))) nA))) nA))) nA))) nA))) nA))) (cA (kB true) nA)))))) nxO)
  (seqO (setO 8 (ap mkTup (cA (ap mkTup (cA (kS "above") (cA (ap m_law_sum (cA (kI 0) (cA (ap mkLst (cA (ap mkTup (cA (rdE 9) (cA (kI 1) nA))) (cA (ap mkTup (cA (rdE 10) (cA (u1 negD (kI 1)) nA))) nA))) nA))) nA))) (cA (ap mkTup (cA (kS "above") (cA (ap m_law_sum (cA (kI 0) (cA (ap mkLst (cA (ap mkTup (cA (rdE 9) (cA (u1 negD (kI 1)) nA))) (cA (ap mkTup (cA (rdE 11) (cA (kI 1) nA))) nA))) nA))) nA))) nA))))
  (retO (ap mkTup (cA (kS "all") (cA (ap mkTup (cA (kS "or") (cA (rdE 8) nA))) (cA (b2 ltD (rdE 4) (rdE 5)) nA)))))))))))))))
def m_law_kind : List D → R D := runDef 10 g_law_kind
def g_law_same : Ev → R Out :=
  (retO (vAnd (u1 (isiD "bool") (rdE 0)) (b2 eqD (rdE 0) (rdE 1))))
def m_law_same : List D → R D := runDef 0 g_law_same
def g_word_at : Ev → R Out :=
  (seqO (ifO (tV (b2 geD (rdE 1) (ap lenD (cA (rdE 0) nA)))) (raiseO 2) nxO)
  (retO (b2 ixD (rdE 0) (rdE 1))))
def m_word_at : List D → R D := runDef 0 g_word_at
def g_number_at : Ev → R Out :=
  (seqO (setO 2 (ap m_word_at (cA (rdE 0) (cA (rdE 1) nA))))
  (seqO (setO 3 (rdT 2))
  (seqO (ifO (tV (b2 eqD (sl3 (rdE 2) sN (sS (kI 1))) (kS "-"))) (setO 3 (sl3 (rdE 2) (sS (kI 1)) sN)) nxO)
  (seqO (ifO (tOr2 (tV (b2 eqD (rdE 3) (kS ""))) (tOr2 (tV (b2 gtD (ap lenD (cA (rdE 3) nA)) gl_MOST_FIGURES)) (tV (b2 eqD (rdE 2) (kS "-0"))))) (raiseO 2) nxO)
  (seqO (ifO (tAnd2 (tV (b2 eqD (b2 ixD (rdE 3) (kI 0)) (kS "0"))) (tV (b2 gtD (ap lenD (cA (rdE 3) nA)) (kI 1)))) (raiseO 2) nxO)
  (seqO (forSO 4 (rdE 3) (ifO (tV (b2 ninD (rdE 4) (kS "0123456789"))) (raiseO 2) nxO))
  (retO (ap intD (cA (rdE 2) nA)))))))))
def m_number_at : List D → R D := runDef 3 g_number_at
def g_name_at : Ev → R Out :=
  (seqO (setO 2 (ap m_word_at (cA (rdE 0) (cA (rdE 1) nA))))
  (seqO (ifO (tOr2 (tV (b2 eqD (rdE 2) (kS ""))) (tV (b2 gtD (ap lenD (cA (rdE 2) nA)) (kI 8)))) (raiseO 2) nxO)
  (seqO (forSO 3 (rdE 2) (ifO (tV (b2 ninD (rdE 3) gl_LETTERS)) (raiseO 2) nxO))
  (retN 2))))
def m_name_at : List D → R D := runDef 2 g_name_at
def g_sum_at : Ev → R Out :=
  (seqO (setO 2 (ap m_number_at (cA (rdE 0) (cA (rdE 1) nA))))
  (seqO (setO 1 (b2 addD (rdE 1) (kI 1)))
  (seqO (setO 3 (ap mkLst nA))
  (seqO (whR (tV (b2 neD (ap m_word_at (cA (rdE 0) (cA (rdE 1) nA))) (kS ";"))) (seqO (setO 4 (ap m_number_at (cA (rdE 0) (cA (rdE 1) nA))))
    (seqO (setO 5 (ap m_name_at (cA (rdE 0) (cA (b2 addD (rdE 1) (kI 1)) nA))))
    (seqO (ifO (tOr2 (tV (b2 eqD (rdE 4) (kI 0))) (tAnd2 (tV (b2 neD (rdE 3) (ap mkLst nA))) (tV (b2 leD (rdE 5) (b2 ixD (b2 ixD (rdE 3) (u1 negD (kI 1))) (kI 0)))))) (raiseO 2) nxO)
    (seqO (appO 3 (ap mkTup (cA (rdE 5) (cA (rdE 4) nA))))
    (setO 1 (b2 addD (rdE 1) (kI 2))))))) 1000)
  (retO (ap mkTup (cA (ap mkTup (cA (rdE 2) (cA (ap tupleD (cA (rdE 3) nA)) nA))) (cA (b2 addD (rdE 1) (kI 1)) nA))))))))
def m_sum_at : List D → R D := runDef 4 g_sum_at
def g_law_within (rec : List D → R D) : Ev → R Out :=
  (seqO (setO 1 (b2 ixD (rdE 0) (kI 0)))
  (seqO (ifO (tV (b2 eqD (rdE 1) (kS "not"))) (retO (b2 addD (kI 1) (ap rec (cA (b2 ixD (rdE 0) (kI 1)) nA)))) nxO)
  (seqO (ifO (tOr2 (tV (b2 eqD (rdE 1) (kS "some"))) (tV (b2 eqD (rdE 1) (kS "all")))) (retO (b2 addD (kI 1) (ap rec (cA (b2 ixD (rdE 0) (kI 2)) nA)))) nxO)
  (seqO (ifO (tOr2 (tV (b2 eqD (rdE 1) (kS "and"))) (tV (b2 eqD (rdE 1) (kS "or")))) (retO (b2 addD (kI 1) (u1 (mDefD maxI 0) (lcN 2 (b2 ixD (rdE 0) (kI 1)) selT yes (ap rec (cA (rdE 2) nA)))))) nxO)
  (retO (kI 1))))))
def m_law_within : Nat → List D → R D
  | 0 => fun _ => .stuck
  | n + 1 => runDef 2 (g_law_within (m_law_within n))
def g_law_number : Ev → R Out :=
  (seqO (setO 1 (sl3 (rdE 0) (sS (ap intD (cA (b2 eqD (sl3 (rdE 0) sN (sS (kI 1))) (kS "-")) nA))) sN))
  (seqO (ifO (tOr2 (tV (b2 eqD (rdE 1) (kS ""))) (tOr2 (tV (b2 gtD (ap lenD (cA (rdE 1) nA)) (kI 60))) (tOr2 (tV (b2 eqD (rdE 0) (kS "-0"))) (tAnd2 (tV (b2 eqD (b2 ixD (rdE 1) (kI 0)) (kS "0"))) (tV (b2 gtD (ap lenD (cA (rdE 1) nA)) (kI 1))))))) (retO kN) nxO)
  (seqO (forSO 2 (rdE 1) (ifO (tV (b2 ninD (rdE 2) (kS "0123456789"))) (retO kN) nxO))
  (retO (ap intD (cA (rdE 0) nA))))))
def m_law_number : List D → R D := runDef 2 g_law_number
def g_law_is_name : Ev → R Out :=
  (seqO (forSO 1 (rdE 0) (ifO (tV (b2 ninD (rdE 1) (kS "abcdefghijklmnopqrstuvwxyz"))) (retO (kB false)) nxO))
  (retO (vAnd (b2 ltD (kI 0) (ap lenD (cA (rdE 0) nA))) (b2 ltD (ap lenD (cA (rdE 0) nA)) (kI 9)))))
def m_law_is_name : List D → R D := runDef 1 g_law_is_name
def g_law_sum_along : Ev → R Out :=
  (seqO (setO 1 (ap mkLst nA))
  (seqO (setO 2 (kI 1))
  (seqO (whR (tAnd2 (tV (b2 ltD (rdE 2) (ap lenD (cA (rdE 0) nA)))) (tV (b2 neD (b2 ixD (rdE 0) (rdE 2)) (kS ";")))) (seqO (setO 3 (ap m_law_number (cA (b2 ixD (rdE 0) (rdE 2)) nA)))
    (seqO (setO 4 (b2 ixD (b2 addD (rdE 0) (ap mkLst (cA (kS "") nA))) (b2 addD (rdE 2) (kI 1))))
    (seqO (ifO (tOr2 (tV (b2 isD (rdE 3) kN)) (tOr2 (tV (b2 eqD (rdE 3) (kI 0))) (tOr2 (tNot1 (tV (ap m_law_is_name (cA (rdE 4) nA)))) (tAnd2 (tV (b2 neD (rdE 1) (ap mkLst nA))) (tV (b2 leD (rdE 4) (b2 ixD (b2 ixD (rdE 1) (u1 negD (kI 1))) (kI 0)))))))) (retO kN) nxO)
    (seqO (appO 1 (ap mkTup (cA (rdE 4) (cA (rdE 3) nA))))
    (setO 2 (b2 addD (rdE 2) (kI 2))))))) 1000)
  (seqO (ifO (tOr2 (tV (b2 geD (rdE 2) (ap lenD (cA (rdE 0) nA)))) (tV (b2 isD (ap m_law_number (cA (b2 ixD (rdE 0) (kI 0)) nA)) kN))) (retO kN) nxO)
  (retO (ap mkTup (cA (ap mkTup (cA (ap m_law_number (cA (b2 ixD (rdE 0) (kI 0)) nA)) (cA (ap tupleD (cA (rdE 1) nA)) nA))) (cA (sl3 (rdE 0) (sS (b2 addD (rdE 2) (kI 1))) sN) nA))))))))
def m_law_sum_along : List D → R D := runDef 4 g_law_sum_along
def g_law_guarded : Ev → R Out :=
  (seqO (forNO 2 0 (seqO (setO 3 (ap mkTup (cA (kS "above") (cA (ap mkTup (cA (b2 subD (kI 1) (b2 ixD (rdE 2) (kI 2))) (cA (ap mkTup (cA (ap mkTup (cA (b2 ixD (rdE 2) (kI 1)) (cA (kI 1) nA))) nA)) nA))) nA))))
    (seqO (setO 4 (ap mkTup (cA (kS "above") (cA (ap mkTup (cA (b2 addD (b2 ixD (rdE 2) (kI 3)) (kI 1)) (cA (ap mkTup (cA (ap mkTup (cA (b2 ixD (rdE 2) (kI 1)) (cA (u1 negD (kI 1)) nA))) nA)) nA))) nA))))
    (ifO (tV (b2 eqD (b2 ixD (rdE 2) (kI 0)) (kS "some"))) (setO 1 (ap mkTup (cA (kS "some") (cA (b2 ixD (rdE 2) (kI 1)) (cA (ap mkTup (cA (kS "and") (cA (ap mkTup (cA (rdE 3) (cA (rdE 4) (cA (rdE 1) nA)))) nA))) nA))))) (setO 1 (ap mkTup (cA (kS "all") (cA (b2 ixD (rdE 2) (kI 1)) (cA (ap mkTup (cA (kS "or") (cA (ap mkTup (cA (ap mkTup (cA (kS "not") (cA (rdE 3) nA))) (cA (rdE 1) (cA (ap mkTup (cA (kS "not") (cA (rdE 4) nA))) nA)))) nA))) nA)))))))))
  (retN 1))
def m_law_guarded : List D → R D := runDef 3 g_law_guarded
def g_law_decided (rec : List D → R D) : Ev → R Out :=
  (seqO (ifO (tV (b2 eqD (rdE 0) (ap mkLst nA))) (seqO (unpO [5, 6, 9] (rdE 1))
    (seqO (ifO (tV (b2 eqD (rdE 5) (kS "some"))) (retO (ap m_law_some (cA (rdE 9) (cA (rdE 6) (cA (rdE 2) nA))))) nxO)
    (retO (vNot (ap m_law_some (cA (ap mkTup (cA (kS "not") (cA (rdE 9) nA))) (cA (rdE 6) (cA (rdE 2) nA)))))))) nxO)
  (seqO (unpO [5, 6, 7, 8] (b2 ixD (rdE 0) (u1 negD (kI 1))))
  (seqO (setO 3 (ap dictD (cA (rdE 2) nA)))
  (seqO (forRO 4 (cA (rdE 7) (cA (b2 addD (rdE 8) (kI 1)) nA)) rng2 (seqO (dputO 3 (rdE 6) (rdE 4))
    (ifO (tV (b2 eqD (ap rec (cA (sl3 (rdE 0) sN (sS (u1 negD (kI 1)))) (cA (rdE 1) (cA (rdE 3) nA)))) (b2 eqD (rdE 5) (kS "some")))) (retO (b2 eqD (rdE 5) (kS "some"))) nxO)))
  (retO (b2 eqD (rdE 5) (kS "all")))))))
def m_law_decided : Nat → List D → R D
  | 0 => fun _ => .stuck
  | n + 1 => runDef 7 (g_law_decided (m_law_decided n))
def g_law_rows_of : Ev → R Out :=
  (seqO (setO 3 (ap mkLst nA))
  (seqO (forRO 4 (cA (rdE 1) nA) rng1 (seqO (setO 5 (ap m_law_cell_at (cA (rdE 0) (cA (b2 addD (kI 3) (rdE 4)) nA))))
    (seqO (setO 6 (b2 subD (b2 modD (b2 divD (rdE 5) (kI 8)) (kI 7)) (kI 3)))
    (appO 3 (ap mkTup (cA (b2 ixD (ap mkLst (cA (kS "some") (cA (kS "all") nA))) (b2 modD (rdE 5) (kI 2))) (cA (b2 ixD (rdE 2) (b2 modD (b2 divD (rdE 5) (kI 2)) (kI 4))) (cA (rdE 6) (cA (b2 addD (b2 subD (rdE 6) (kI 1)) (b2 modD (b2 divD (rdE 5) (kI 56)) (kI 4))) nA)))))))))
  (retN 3)))
def m_law_rows_of : List D → R D := runDef 4 g_law_rows_of
def g_law_bound : Ev → R Out :=
  (seqO (ifO (tV (b2 eqD (rdE 0) (kS "some"))) (retO (ap m_law_some (cA (rdE 1) (cA (rdE 2) (cA (rdE 3) nA))))) nxO)
  (retO (vNot (ap m_law_some (cA (ap mkTup (cA (kS "not") (cA (rdE 1) nA))) (cA (rdE 2) (cA (rdE 3) nA)))))))
def m_law_bound : List D → R D := runDef 0 g_law_bound
def g_law_whole_of : Ev → R Out :=
  (seqO (ifO (tV (b2 eqD (rdE 0) (kI 0))) (retO (ap mkTup (cA (kS "and") (cA (ap mkTup (cA (rdE 2) (cA (rdE 1) nA))) nA)))) nxO)
  (seqO (ifO (tV (b2 eqD (rdE 0) (kI 1))) (retO (ap mkTup (cA (kS "or") (cA (ap mkTup (cA (rdE 1) (cA (rdE 2) nA))) nA)))) nxO)
  (seqO (ifO (tV (b2 eqD (rdE 0) (kI 2))) (retO (ap mkTup (cA (kS "not") (cA (ap mkTup (cA (kS "or") (cA (ap mkTup (cA (rdE 2) (cA (rdE 1) nA))) nA))) nA)))) nxO)
  (retN 1))))
def m_law_whole_of : List D → R D := runDef 0 g_law_whole_of
def g_law_joined : Ev → R Out :=
  (seqO (ifO (tV (b2 eqD (rdE 0) (kI 0))) (retO (vAnd (rdE 1) (rdT 2))) nxO)
  (seqO (ifO (tV (b2 eqD (rdE 0) (kI 1))) (retO (vOr (rdE 1) (rdT 2))) nxO)
  (seqO (ifO (tV (b2 eqD (rdE 0) (kI 2))) (retO (vNot (vOr (rdE 1) (rdT 2)))) nxO)
  (retN 1))))
def m_law_joined : List D → R D := runDef 0 g_law_joined
end
end Pf

set_option Elab.async false
set_option linter.all false
set_option maxRecDepth 100000
set_option maxHeartbeats 4000000
namespace Pf
open PySem L2
/-! ## what the mirrors reckon: cells, numbers, names -/
theorem forR_ind {j : Nat} {body : Ev → R Out} {xs : List T} {ρ : Ev} (I : Nat → Ev → Prop) (h : ∀ (i : Nat) x ρ, xs[i]? = some x → I i ρ → ∃ ρ', body (ρ.set j (.d (.t x) true)) = .ok (.nx ρ') ∧ I (i + 1) ρ') (h0 : I 0 ρ) :
    ∃ ρ', forR j body xs ρ = .ok (.nx ρ') ∧ I xs.length ρ' := by
  induction xs generalizing ρ I with
  | nil => exact ⟨ρ, rfl, h0⟩
  | cons y ys ih =>
    obtain ⟨ρ', e, hi⟩ := h 0 y ρ rfl h0
    obtain ⟨ρ2, e2, hi2⟩ := ih (ρ := ρ') (fun i => I (i + 1)) (fun i x r hx hI => h (i + 1) x r (by simpa using hx) hI) hi
    refine ⟨ρ2, ?_, hi2⟩
    unfold forR
    rw [e]
    exact e2
theorem rngT_inv {lo : Int} {n i : Nat} {x : T} (h : (rngT lo n)[i]? = some x) : x = .int (lo + (i : Nat)) ∧ i < n := by
  by_cases hi : i < n
  · rw [rngT_get hi] at h
    injection h with h
    exact ⟨h.symm, hi⟩
  · rw [List.getElem?_eq_none (by rw [rngT_len]; omega)] at h; cases h
theorem forR_rng {j : Nat} {body : Ev → R Out} {lo : Int} {n : Nat} {ρ : Ev} (I : Nat → Ev → Prop) (h : ∀ (i : Nat) ρ, i < n → I i ρ → ∃ ρ', body (ρ.set j (.d (.t (.int (lo + i))) true)) = .ok (.nx ρ') ∧ I (i + 1) ρ') (h0 : I 0 ρ) :
    ∃ ρ', forR j body (rngT lo n) ρ = .ok (.nx ρ') ∧ I n ρ' := by
  obtain ⟨ρ', e, hI⟩ := forR_ind (xs := rngT lo n) I (fun i x r hx hI => by
    obtain ⟨rfl, hi⟩ := rngT_inv hx
    exact h i r hi hI) h0
  rw [rngT_len] at hI
  exact ⟨ρ', e, hI⟩
theorem fmod_pos {a b : Int} (h : 0 < b) : a.fmod b = a % b := Int.fmod_eq_emod_of_nonneg a (by omega)
theorem fdiv_pos {a b : Int} (h : 0 < b) : a.fdiv b = a / b := Int.fdiv_eq_ediv_of_nonneg a (by omega)

/-! ### the operators at data -/
@[simp] theorem add_ii (i j : Int) : addD (.t (.int i)) (.t (.int j)) = .ok (.t (.int (i + j))) := id rfl
@[simp] theorem sub_ii (i j : Int) : subD (.t (.int i)) (.t (.int j)) = .ok (.t (.int (i - j))) := id rfl
@[simp] theorem neg_i (i : Int) : negD (.t (.int i)) = .ok (.t (.int (-i))) := id rfl
@[simp] theorem lt_ii (i j : Int) : ltD (.t (.int i)) (.t (.int j)) = .ok (.t (.bl (decide (i < j)))) := id rfl
@[simp] theorem gt_ii (i j : Int) : gtD (.t (.int i)) (.t (.int j)) = .ok (.t (.bl (decide (j < i)))) := id rfl
@[simp] theorem le_ii (i j : Int) : leD (.t (.int i)) (.t (.int j)) = .ok (.t (.bl (decide (i ≤ j)))) := id rfl
@[simp] theorem ge_ii (i j : Int) : geD (.t (.int i)) (.t (.int j)) = .ok (.t (.bl (decide (j ≤ i)))) := id rfl
@[simp] theorem mod_ii (i j : Int) (h : 0 < j) : modD (.t (.int i)) (.t (.int j)) = .ok (.t (.int (i % j))) := by
  simp only [modD, fmod_pos h]; rw [if_pos (by omega)]
@[simp] theorem div_ii (i j : Int) (h : 0 < j) (h2 : j < 1073741824) : divD (.t (.int i)) (.t (.int j)) = .ok (.t (.int (i / j))) := by
  simp only [divD, fdiv_pos h]; rw [if_pos]
  simp only [divOk, Bool.or_eq_true, Bool.and_eq_true, decide_eq_true_eq]; left; omega
theorem mulOk_l {i j : Int} (h : -18446744073709551616 < i) (h2 : i < 18446744073709551616) : mulOk i j = true := by
  simp only [mulOk, small64, Bool.or_eq_true, Bool.and_eq_true, decide_eq_true_eq]; left; left; omega
theorem mulOk_r {i j : Int} (h : -18446744073709551616 < j) (h2 : j < 18446744073709551616) : mulOk i j = true := by
  simp only [mulOk, small64, Bool.or_eq_true, Bool.and_eq_true, decide_eq_true_eq]; left; right; omega
theorem mulOk_big {i j : Int} {m : Nat} (hm : m ≤ 400000) (h : i.natAbs < 2 ^ m) (h2 : j.natAbs < 2 ^ m) : mulOk i j = true := by
  simp only [mulOk, small64, Bool.or_eq_true, Bool.and_eq_true, decide_eq_true_eq]; right
  have key : ∀ n : Nat, n < 2 ^ m → n.log2 ≤ m := fun n h => by
    by_cases hz : n = 0
    · subst hz; exact Nat.zero_le _
    · exact Nat.le_of_lt ((Nat.log2_lt hz).2 h)
  have := key _ h; have := key _ h2; omega
@[simp] theorem mul_l (i j : Int) (h : -18446744073709551616 < i) (h2 : i < 18446744073709551616) : mulD (.t (.int i)) (.t (.int j)) = .ok (.t (.int (i * j))) := by
  simp only [mulD]; rw [if_pos (mulOk_l h h2)]
@[simp] theorem mul_r (i j : Int) (h : -18446744073709551616 < j) (h2 : j < 18446744073709551616) : mulD (.t (.int i)) (.t (.int j)) = .ok (.t (.int (i * j))) := by
  simp only [mulD]; rw [if_pos (mulOk_r h h2)]
@[simp] theorem asB_b (b : Bool) : asB (.t (.bl b)) = .ok b := id rfl
@[simp] theorem asInt_i (b : Int) : asInt (.t (.int b)) = .ok (some b) := id rfl
@[simp] theorem asTs_n : asTs [] = .ok [] := id rfl
@[simp] theorem asTs_c (x : T) (r : List D) : asTs (.t x :: r) = asTs r >>= fun xs => .ok (x :: xs) := id rfl
@[simp] theorem selL_l (xs : List T) : selL (.lst xs) = .ok xs := id rfl
@[simp] theorem selT_t (xs : List T) : selT (.t (.tup xs)) = .ok xs := id rfl
@[simp] theorem asDct_d (xs : List (Str × Int)) : asDct (.dct xs) = .ok xs := id rfl
@[simp] theorem listD_l (xs : List T) : listD [.lst xs] = .ok (.lst xs) := id rfl
@[simp] theorem listD_t (xs : List T) : listD [.t (.tup xs)] = .ok (.lst xs) := id rfl
@[simp] theorem tupleD_l (xs : List T) : tupleD [.lst xs] = .ok (.t (.tup xs)) := id rfl
@[simp] theorem tupleD_t (xs : List T) : tupleD [.t (.tup xs)] = .ok (.t (.tup xs)) := id rfl
@[simp] theorem dictD_d (xs : List (Str × Int)) : dictD [.dct xs] = .ok (.dct xs) := id rfl
@[simp] theorem lenD_l (xs : List T) : lenD [.lst xs] = .ok (.t (.int xs.length)) := id rfl
@[simp] theorem lenD_t (xs : List T) : lenD [.t (.tup xs)] = .ok (.t (.int xs.length)) := id rfl
@[simp] theorem lenD_d (xs : List (Str × Int)) : lenD [.dct xs] = .ok (.t (.int xs.length)) := id rfl
@[simp] theorem lenD_s (xs : List Int) : lenD [.scr xs] = .ok (.t (.int xs.length)) := id rfl
@[simp] theorem eq_ii (i j : Int) : eqD (.t (.int i)) (.t (.int j)) = .ok (.t (.bl (decide (i = j)))) := id rfl
@[simp] theorem ne_ii (i j : Int) : neD (.t (.int i)) (.t (.int j)) = .ok (.t (.bl (!decide (i = j)))) := id rfl
@[simp] theorem eq_ss (i j : Str) : eqD (.t (.str i)) (.t (.str j)) = .ok (.t (.bl (decide (i = j)))) := id rfl
@[simp] theorem ne_ss (i j : Str) : neD (.t (.str i)) (.t (.str j)) = .ok (.t (.bl (!decide (i = j)))) := id rfl
@[simp] theorem rdE_0 (x : D) (o : Bool) (r : Ev) : rdE 0 (.d x o :: r) = .ok x := id rfl
@[simp] theorem rdE_s (n : Nat) (s : Sl) (r : Ev) : rdE (n + 1) (s :: r) = rdE n r := id rfl
@[simp] theorem rdT_0 (x : T) (o : Bool) (r : Ev) : rdT 0 (.d (.t x) o :: r) = .ok (.t x) := id rfl
@[simp] theorem rdT_s (n : Nat) (s : Sl) (r : Ev) : rdT (n + 1) (s :: r) = rdT n r := id rfl
@[simp] theorem un_0 : un 0 = [] := id rfl
@[simp] theorem un_s (n : Nat) : un (n + 1) = .un :: un n := id rfl
@[simp] theorem rng1_n (n : Nat) (h : n < 4611686018427387904) : rng1 [.t (.int n)] = .ok (0, n) := by
  simp only [rng1]; rw [if_pos (by omega)]; simp
@[simp] theorem rng1_0 : rng1 [.t (.int 0)] = .ok (0, 0) := rng1_n 0 (by decide)
@[simp] theorem rng1_1 : rng1 [.t (.int 1)] = .ok (0, 1) := rng1_n 1 (by decide)
@[simp] theorem rng1_2 : rng1 [.t (.int 2)] = .ok (0, 2) := rng1_n 2 (by decide)
@[simp] theorem rng1_3 : rng1 [.t (.int 3)] = .ok (0, 3) := rng1_n 3 (by decide)
@[simp] theorem rng1_4 : rng1 [.t (.int 4)] = .ok (0, 4) := rng1_n 4 (by decide)
@[simp] theorem rng1_5 : rng1 [.t (.int 5)] = .ok (0, 5) := rng1_n 5 (by decide)
@[simp] theorem rng1_6 : rng1 [.t (.int 6)] = .ok (0, 6) := rng1_n 6 (by decide)
@[simp] theorem rng1_7 : rng1 [.t (.int 7)] = .ok (0, 7) := rng1_n 7 (by decide)
@[simp] theorem rng1_8 : rng1 [.t (.int 8)] = .ok (0, 8) := rng1_n 8 (by decide)
@[simp] theorem rng1_9 : rng1 [.t (.int 9)] = .ok (0, 9) := rng1_n 9 (by decide)
@[simp] theorem andR_ok (b : Bool) (y : R Bool) : andR (.ok b) y = if b then y else .ok false := id rfl
@[simp] theorem orR_ok (b : Bool) (y : R Bool) : orR (.ok b) y = if b then .ok true else y := id rfl
@[simp] theorem andV_ok (b : Bool) (y : R D) : andV (.ok (.t (.bl b))) y = if b then y else .ok (.t (.bl false)) := id rfl
@[simp] theorem orV_ok (b : Bool) (y : R D) : orV (.ok (.t (.bl b))) y = if b then .ok (.t (.bl true)) else y := id rfl
@[simp] theorem mkTup_ok (ds : List D) : mkTup ds = asTs ds >>= fun xs => if xs.length ≤ 16777216 then .ok (.t (.tup xs)) else .stuck := id rfl
@[simp] theorem mkLst_ok (ds : List D) : mkLst ds = asTs ds >>= fun xs => if xs.length ≤ 16777216 then .ok (.lst xs) else .stuck := id rfl
@[simp] theorem ix_l (xs : List T) (i : Int) : ixD (.lst xs) (.t (.int i)) = match atI xs i with | some x => .ok (.t x) | none => .stuck := id rfl
@[simp] theorem ix_t (xs : List T) (i : Int) : ixD (.t (.tup xs)) (.t (.int i)) = match atI xs i with | some x => .ok (.t x) | none => .stuck := id rfl
@[simp] theorem ix_s (xs : List Int) (i : Int) : ixD (.scr xs) (.t (.int i)) = match atI xs i with | some n => .ok (.t (.int n)) | none => .stuck := id rfl
@[simp] theorem atI_nat {α : Type} (xs : List α) (k : Nat) : atI xs (k : Int) = xs[k]? := by
  unfold atI ixN
  rw [if_pos (by omega)]
  by_cases h : k < xs.length
  · rw [if_pos (by omega)]; simp
  · rw [if_neg (by omega)]; rw [List.getElem?_eq_none (by omega)]; rfl
@[simp] theorem atI_0 {α : Type} (xs : List α) : atI xs 0 = xs[0]? := atI_nat xs 0
@[simp] theorem atI_1 {α : Type} (xs : List α) : atI xs 1 = xs[1]? := atI_nat xs 1
@[simp] theorem atI_2 {α : Type} (xs : List α) : atI xs 2 = xs[2]? := atI_nat xs 2
@[simp] theorem atI_3 {α : Type} (xs : List α) : atI xs 3 = xs[3]? := atI_nat xs 3
@[simp] theorem atI_4 {α : Type} (xs : List α) : atI xs 4 = xs[4]? := atI_nat xs 4
@[simp] theorem atI_5 {α : Type} (xs : List α) : atI xs 5 = xs[5]? := atI_nat xs 5
@[simp] theorem atI_6 {α : Type} (xs : List α) : atI xs 6 = xs[6]? := atI_nat xs 6
@[simp] theorem atI_7 {α : Type} (xs : List α) : atI xs 7 = xs[7]? := atI_nat xs 7
@[simp] theorem atI_8 {α : Type} (xs : List α) : atI xs 8 = xs[8]? := atI_nat xs 8
@[simp] theorem atI_9 {α : Type} (xs : List α) : atI xs 9 = xs[9]? := atI_nat xs 9
@[simp] theorem atI_10 {α : Type} (xs : List α) : atI xs 10 = xs[10]? := atI_nat xs 10
@[simp] theorem atI_11 {α : Type} (xs : List α) : atI xs 11 = xs[11]? := atI_nat xs 11
@[simp] theorem atI_12 {α : Type} (xs : List α) : atI xs 12 = xs[12]? := atI_nat xs 12
@[simp] theorem atI_13 {α : Type} (xs : List α) : atI xs 13 = xs[13]? := atI_nat xs 13
@[simp] theorem atI_14 {α : Type} (xs : List α) : atI xs 14 = xs[14]? := atI_nat xs 14
@[simp] theorem atI_15 {α : Type} (xs : List α) : atI xs 15 = xs[15]? := atI_nat xs 15
@[simp] theorem atI_16 {α : Type} (xs : List α) : atI xs 16 = xs[16]? := atI_nat xs 16
@[simp] theorem atI_17 {α : Type} (xs : List α) : atI xs 17 = xs[17]? := atI_nat xs 17
@[simp] theorem atI_18 {α : Type} (xs : List α) : atI xs 18 = xs[18]? := atI_nat xs 18
@[simp] theorem atI_19 {α : Type} (xs : List α) : atI xs 19 = xs[19]? := atI_nat xs 19
@[simp] theorem atI_20 {α : Type} (xs : List α) : atI xs 20 = xs[20]? := atI_nat xs 20
@[simp] theorem atI_21 {α : Type} (xs : List α) : atI xs 21 = xs[21]? := atI_nat xs 21
theorem atI_pos {α : Type} (xs : List α) {k : Int} (h : 0 ≤ k) : atI xs k = xs[k.toNat]? := by
  have e := atI_nat xs k.toNat
  rwa [Int.toNat_of_nonneg h] at e
@[simp] theorem forR_nil (j : Nat) (b : Ev → R Out) (ρ : Ev) : forR j b [] ρ = .ok (.nx ρ) := id rfl
def Nx (f : Ev → R Out) : R Out → R Out
  | .ok (.nx ρ) => f ρ
  | r => r
def Rt : R Out → R D
  | .ok (.rt d) => .ok d
  | .ok (.nx _) => .ok (.t .non)
  | .raise c => .raise c
  | _ => .stuck
theorem runDef_Rt (n : Nat) (g : Ev → R Out) (ds : List D) : runDef n g ds = Rt (g (ds.map (Sl.d · false) ++ un n)) := by
  unfold runDef
  generalize g (ds.map (Sl.d · false) ++ un n) = r
  cases r with
  | ok o => cases o <;> rfl
  | _ => rfl
@[simp] theorem lcR_nil (j : Nat) (c : Ev → R Bool) (el : Ev → R D) (ρ : Ev) : lcR j c el ρ [] = .ok [] := id rfl
@[simp] theorem lcR_cons (j : Nat) (c : Ev → R Bool) (el : Ev → R D) (ρ : Ev) (x : T) (xs : List T) : lcR j c el ρ (x :: xs) = c (ρ.set j (.d (.t x) true)) >>= fun b => if b then el (ρ.set j (.d (.t x) true)) >>= fun d => match d with
      | .t y => lcR j c el ρ xs >>= fun r => .ok (y :: r)
      | _ => .stuck
    else lcR j c el ρ xs := id rfl
@[simp] theorem NR_ok {α : Type} (a : α) : NR (.ok a) = .ok a := id rfl
@[simp] theorem rngT_4 : rngT 0 4 = [.int 0, .int 1, .int 2, .int 3] := id rfl
@[simp] theorem rngT_3 : rngT 0 3 = [.int 0, .int 1, .int 2] := id rfl
@[simp] theorem lcRg_eq (j : Nat) (f : Ev → R (List D)) (rg : List D → R (Int × Nat)) (c : Ev → R Bool) (el : Ev → R D) (ρ : Ev) : lcRg j f rg c el ρ =
  (f ρ >>= rg >>= fun p => if p.2 ≤ 16777216 then NR (lcR j c el (ρ.set j .un) (rngT p.1 p.2)) >>= fun r => .ok (.lst r) else .stuck) := id rfl
@[simp] theorem lcN_eq (j : Nat) (f : Ev → R D) (sel : D → R (List T)) (c : Ev → R Bool) (el : Ev → R D) (ρ : Ev) : lcN j f sel c el ρ =
  (f ρ >>= sel >>= fun xs => if xs.length ≤ 16777216 then NR (lcR j c el (ρ.set j .un) xs) >>= fun r => .ok (.lst r) else .stuck) := id rfl
@[simp] theorem Rt_rt (d : D) : Rt (.ok (.rt d)) = .ok d := id rfl
def cell (ns : List Int) (k : Nat) : Int := ns[k]?.getD 0
theorem cell_at {ns : List Int} {k : Nat} : m_law_cell_at [.scr ns, .t (.int (k : Int))] = .ok (.t (.int (cell ns k))) := by
  unfold m_law_cell_at g_law_cell_at
  rw [runDef_Rt]
  by_cases h : k < ns.length
  · simp [h, cell]
  · simp [h, cell]
theorem cell_at' {ns : List Int} (i : Int) (h : 0 ≤ i) : m_law_cell_at [.scr ns, .t (.int i)] = .ok (.t (.int (cell ns i.toNat))) := by
  have e := cell_at (ns := ns) (k := i.toNat)
  rw [Int.toNat_of_nonneg h] at e
  exact e
/-! ### numbers -/
theorem big_ex (c : Int) : ∃ n : Int, n.natAbs < 10 ^ 60 ∧ m_law_big_by [.t (.int c)] = .ok (.t (.int n)) := by
  unfold m_law_big_by g_law_big_by
  rw [runDef_Rt]
  by_cases h : 0 < c % 4
  · refine ⟨c / 4 % 19 - 9, ?_, ?_⟩
    · have : (c / 4 % 19 - 9).natAbs < 20 := by omega
      exact Nat.lt_of_lt_of_le this (by decide)
    · simp [h]
  · have hr : ∃ (n : Nat), 1 + c / 8 % 60 = (n : Int) ∧ n ≤ 60 := ⟨(1 + c / 8 % 60).toNat, by omega, by omega⟩
    obtain ⟨n, hn, hn60⟩ := hr
    obtain ⟨ρ', e, mm, x, k, rfl, hx⟩ := forR_rng (j := 3) (lo := 0) (n := n) (body := (seqO (setO 2 (b2 modD (b2 addD (b2 mulD (rdE 2) (kI 48271)) (kI 11)) (kI 2147483647)))
    (setO 1 (b2 addD (b2 mulD (rdE 1) (kI 10)) (b2 modD (b2 divD (rdE 2) (kI 7)) (kI 10)))))) (ρ := [.d (.t (.int c)) false, .d (.t (.int 0)) true, .d (.t (.int c)) true, .un])
      (fun i ρ => ∃ (m x : Int) (k : Sl), ρ = [.d (.t (.int c)) false, .d (.t (.int x)) true, .d (.t (.int m)) true, k] ∧ 0 ≤ x ∧ x < 10 ^ i)
      (fun i ρ hi ⟨m, x, k, e, h0, h1⟩ => by
        subst e
        refine ⟨_, by simp; rfl, ?_⟩
        refine ⟨_, _, _, rfl, ?_, ?_⟩
        · omega
        · rw [Int.pow_succ]
          omega) ⟨c, 0, .un, rfl, by decide, by decide⟩
    have hx2 : x < 10 ^ 60 := Int.lt_of_lt_of_le hx.2 (by
      have : (10 : Nat) ^ n ≤ 10 ^ 60 := Nat.pow_le_pow_right (by decide) hn60
      exact_mod_cast this)
    have h4 : c / 4 % 2 = 0 ∨ c / 4 % 2 = 1 := by omega
    have hnb : n < 4611686018427387904 := by omega
    rcases h4 with h4 | h4
    · refine ⟨x, by omega, ?_⟩
      simp [h, hn, hnb, e, h4]
    · refine ⟨-x, by omega, ?_⟩
      simp [h, hn, hnb, e, h4]
/-! ### texts -/
def sl (l : List Nat) : Str := ⟨l.toArray⟩
@[simp] theorem sl_len (l : List Nat) : (sl l).length = l.length := by simp [sl, Str.length]
@[simp] theorem sl_cps (l : List Nat) : (sl l).cps.toList = l := by simp [sl]
theorem sl_inj {a b : List Nat} : sl a = sl b ↔ a = b := ⟨fun h => by have := congrArg (fun s : Str => s.cps.toList) h; simpa using this, fun h => by rw [h]⟩
theorem sl_of (s : Str) : s = sl s.cps.toList := by cases s; simp [sl]
theorem add_sl (a b : List Nat) (h : a.length + b.length ≤ 16777216) : addD (.t (.str (sl a))) (.t (.str (sl b))) = .ok (.t (.str (sl (a ++ b)))) := by
  simp only [addD, sl_len, if_pos h]
  have e : sl a ++ sl b = sl (a ++ b) := by
    show (⟨a.toArray ++ b.toArray⟩ : Str) = _
    simp [sl]
  rw [e]
theorem take_sl (l : List Nat) (k : Nat) (h : l.length ≤ 16777216) : slD (.t (.str (sl l))) none (some (k : Int)) = .ok (.t (.str (sl (l.take k)))) := by
  simp only [slD, sl_len, if_pos h]
  have e : cutS (sl l) none (some (k : Int)) = sl (l.take k) := by
    unfold cutS
    rw [HT.sIx_nat, HT.sIx_none]
    simp [sl, Str.length, List.take_eq_take_iff]
  rw [e]
theorem drop_sl (l : List Nat) (k : Nat) (h : l.length ≤ 16777216) : slD (.t (.str (sl l))) (some (k : Int)) none = .ok (.t (.str (sl (l.drop k)))) := by
  simp only [slD, sl_len, if_pos h]
  have e : cutS (sl l) (some (k : Int)) none = sl (l.drop k) := by
    unfold cutS
    rw [HT.sIx_nat, HT.sIx_none]
    simp only [sl, Str.length, List.size_toArray]
    congr 2
    by_cases hk : k ≤ l.length
    · rw [Nat.min_eq_left hk, List.take_of_length_le (by simp)]
    · rw [Nat.min_eq_right (by omega), List.drop_eq_nil_of_le (Nat.le_refl _), List.drop_eq_nil_of_le (by omega), List.take_nil]
  rw [e]
theorem rep_fold (c : Nat) : ∀ (n : Nat) (a : Array Nat), (List.replicate n #[c]).foldl (· ++ ·) a = a ++ (List.replicate n c).toArray
  | 0, a => by simp
  | n + 1, a => by
    rw [List.replicate_succ, List.foldl_cons, rep_fold c n, List.replicate_succ]
    apply Array.toList_inj.mp
    simp
theorem mul_sl (c : Nat) (n : Nat) (h : 1 ≤ n) (h2 : n ≤ 1000) : mulD (.t (.str (sl [c]))) (.t (.int n)) = .ok (.t (.str (sl (List.replicate n c)))) := by
  simp only [mulD, sl_len, List.length_cons, List.length_nil]
  rw [if_pos (by omega)]
  have e : Txt.mul (sl [c]) n = sl (List.replicate n c) := by
    unfold Txt.mul
    rw [if_neg (by omega)]
    by_cases h1 : n = 1
    · subst h1; simp
    · rw [if_neg (by simp [sl, Str.length]; omega)]
      simp only [Int.toNat_natCast, sl]
      rw [rep_fold]; simp
  rw [e]
theorem letters_eq : ("abcdefghijklmnopqrstuvwxyz" : Str) = sl (List.range' 97 26) := by decide +kernel
theorem ix_letter (i : Int) (h : 0 ≤ i) (h2 : i < 26) : ixD (.t (.str (sl (List.range' 97 26)))) (.t (.int i)) = .ok (.t (.str (sl [97 + i.toNat]))) := by
  simp only [ixD, sl_len, sl_cps, atI_pos _ h, List.length_range']
  rw [if_pos (by decide), List.getElem?_range' (by omega)]
  simp [sl]
def Nm (s : Str) : Prop := 1 ≤ s.cps.toList.length ∧ s.cps.toList.length ≤ 8 ∧ ∀ c ∈ s.cps.toList, 97 ≤ c ∧ c ≤ 122
def USUAL : List Str := ["new", "k", "t", "x", "y", "z", "step", "size", "bound", "some", "and", "above", "nought", "goes", "not", "or", "all", "far", "low", "high", "name", "newone", "number", "it", "lined"]
theorem usual_nm : ∀ x ∈ USUAL, Nm x := by
  have : USUAL.all (fun x => decide (1 ≤ x.cps.toList.length) && decide (x.cps.toList.length ≤ 8) && x.cps.toList.all (fun c => decide (97 ≤ c) && decide (c ≤ 122))) = true := by decide +kernel
  intro x hx
  have h := List.all_eq_true.mp this x hx
  simp only [Bool.and_eq_true, decide_eq_true_eq, List.all_eq_true] at h
  exact ⟨h.1.1, h.1.2, fun c hc => h.2 c hc⟩
theorem usual_nodup : USUAL.Nodup := by decide +kernel
theorem names_ex (c : Int) : ∃ a : List Str, a.length = 4 ∧ a.Nodup ∧ (∀ x ∈ a, Nm x) ∧ m_law_names_by [.t (.int c)] = .ok (.lst (a.map T.str)) := by
  unfold m_law_names_by g_law_names_by
  rw [runDef_Rt]
  have hr : ∃ (n : Nat), 1 + c % 8 = (n : Int) ∧ n ≤ 8 ∧ 1 ≤ n := ⟨(1 + c % 8).toNat, by omega, by omega, by omega⟩
  obtain ⟨n, hn, hn8, hn1⟩ := hr
  obtain ⟨ρ', e, w, m, k, rfl, hw, hl⟩ := forR_rng (j := 5) (lo := 0) (n := n) (body := (seqO (setO 4 (b2 modD (b2 addD (b2 mulD (rdE 4) (kI 48271)) (kI 11)) (kI 2147483647)))
    (setO 3 (b2 addD (rdE 3) (b2 ixD (rdE 1) (b2 modD (b2 divD (rdE 4) (kI 7)) (kI 26))))))) (ρ := [.d (.t (.int c)) false, .d (.t (.str (sl (List.range' 97 26)))) true, .d (.t (.int n)) true, .d (.t (.str (sl []))) true, .d (.t (.int c)) true, .un, .un, .un])
      (fun i ρ => ∃ (w : List Nat) (m : Int) (k : Sl), ρ = [.d (.t (.int c)) false, .d (.t (.str (sl (List.range' 97 26)))) true, .d (.t (.int n)) true, .d (.t (.str (sl w))) true, .d (.t (.int m)) true, k, .un, .un] ∧ w.length = i ∧ ∀ c ∈ w, 97 ≤ c ∧ c ≤ 122)
      (fun i ρ hi ⟨w, m, k, e, h0, h1⟩ => by
        subst e
        have hb : ∀ (z : Int), ixD (.t (.str (sl (List.range' 97 26)))) (.t (.int (z % 26))) = .ok (.t (.str (sl [97 + (z % 26).toNat]))) := fun z => ix_letter _ (by omega) (by omega)
        have ha : ∀ z, addD (.t (.str (sl w))) (.t (.str (sl [z]))) = .ok (.t (.str (sl (w ++ [z])))) := fun z => add_sl w [z] (by simp; omega)
        refine ⟨_, by simp only [seqO, setO, b2, kI, rdE_0, rdE_s, mul_r, add_ii, R.ok_bind, List.set_cons_succ, List.set_cons_zero]; simp [hb, ha]; rfl, ?_⟩
        refine ⟨_, _, _, rfl, by simp; omega, ?_⟩
        intro x hx
        rcases List.mem_append.mp hx with hx | hx
        · exact h1 x hx
        · simp at hx; omega) ⟨[], c, .un, rfl, rfl, by simp⟩
  have h1 : (("" : Str)) = sl [] := by decide +kernel
  by_cases c1 : c / 8 % 3 = 2
  · obtain ⟨x, w', rfl⟩ : ∃ x w', w = x :: w' := by
      cases w with
      | nil => simp at hw; omega
      | cons x w' => exact ⟨x, w', rfl⟩
    have ht : slD (.t (.str (sl (x :: w')))) none (some 1) = .ok (.t (.str (sl [x]))) := take_sl (x :: w') 1 (by rw [hw]; omega)
    have hm : ∀ z : Int, mulD (.t (.str (sl [x]))) (.t (.int (1 + z % 8))) = .ok (.t (.str (sl (List.replicate (1 + z % 8).toNat x)))) := fun z => by
      have := mul_sl x (1 + z % 8).toNat (by omega) (by omega)
      rwa [Int.toNat_of_nonneg (by omega)] at this
    refine ⟨[sl (List.replicate (1 + (0 + c / 24) % 8).toNat x), sl (List.replicate (1 + (1 + c / 24) % 8).toNat x), sl (List.replicate (1 + (2 + c / 24) % 8).toNat x), sl (List.replicate (1 + (3 + c / 24) % 8).toNat x)], rfl, ?_, ?_, ?_⟩
    · have key : ∀ a b : Nat, a ≠ b → sl (List.replicate a x) ≠ sl (List.replicate b x) := fun a b h e => h (by
        have := congrArg List.length (sl_inj.mp e); simpa using this)
      simp only [List.nodup_cons, List.mem_cons, List.not_mem_nil, or_false, not_or, List.nodup_nil, and_true, not_false_eq_true]
      refine ⟨⟨key _ _ ?_, key _ _ ?_, key _ _ ?_⟩, ⟨key _ _ ?_, key _ _ ?_⟩, key _ _ ?_⟩ <;> omega
    · have key : ∀ a : Nat, 1 ≤ a → a ≤ 8 → Nm (sl (List.replicate a x)) := fun a h h2 => by
        refine ⟨by simpa using h, by simpa using h2, ?_⟩
        intro y hy
        simp at hy
        rw [hy.2]
        exact hl x (by simp)
      simp only [List.mem_cons, List.not_mem_nil, or_false, forall_eq_or_imp, forall_eq]
      refine ⟨key _ ?_ ?_, key _ ?_ ?_, key _ ?_ ?_, key _ ?_ ?_⟩ <;> omega
    · simp [hn, show n < 4611686018427387904 by omega, letters_eq, h1, e, c1, ht, hm, -Int.reduceAdd]
  by_cases c2 : c / 8 % 9 = 1 ∨ c / 8 % 9 = 4 ∨ c / 8 % 9 = 7
  · have hU : addD (D.lst [T.str "new", T.str "k", T.str "t", T.str "x", T.str "y", T.str "z", T.str "step", T.str "size", T.str "bound", T.str "some", T.str "and", T.str "above", T.str "nought", T.str "goes"]) (D.lst [T.str "not", T.str "or", T.str "all", T.str "far", T.str "low", T.str "high", T.str "name", T.str "newone", T.str "number", T.str "it", T.str "lined"]) = .ok (.lst (USUAL.map T.str)) := by rfl
    have hi : inD (.t (.int (c / 8 % 9))) (.lst [.int 1, .int 4, .int 7]) = .ok (.t (.bl true)) := by
      rcases c2 with h | h | h <;> rw [h] <;> rfl
    have hL : USUAL.length = 25 := rfl
    have hx : ∀ i : Int, ixD (.lst (USUAL.map T.str)) (.t (.int (i % 25))) = .ok (.t (.str (USUAL[(i % 25).toNat]'(by rw [hL]; omega)))) := fun i => by
      rw [ix_l, atI_pos _ (by omega), List.getElem?_map, List.getElem?_eq_getElem (by rw [hL]; omega)]
      rfl
    have hd : ∀ i j : Int, i % 25 ≠ j % 25 → USUAL[(i % 25).toNat]'(by rw [hL]; omega) ≠ USUAL[(j % 25).toNat]'(by rw [hL]; omega) := fun i j h e => h (by
      have := (List.getElem_inj usual_nodup).mp e
      omega)
    refine ⟨[USUAL[((c / 72 + 0) % 25).toNat]'(by rw [hL]; omega), USUAL[((c / 72 + 7) % 25).toNat]'(by rw [hL]; omega), USUAL[((c / 72 + 12) % 25).toNat]'(by rw [hL]; omega), USUAL[((c / 72 + 18) % 25).toNat]'(by rw [hL]; omega)], rfl, ?_, ?_, ?_⟩
    · simp only [List.nodup_cons, List.mem_cons, List.not_mem_nil, or_false, not_or, List.nodup_nil, and_true, not_false_eq_true]
      refine ⟨⟨hd _ _ ?_, hd _ _ ?_, hd _ _ ?_⟩, ⟨hd _ _ ?_, hd _ _ ?_⟩, hd _ _ ?_⟩ <;> omega
    · simp only [List.mem_cons, List.not_mem_nil, or_false, forall_eq_or_imp, forall_eq]
      exact ⟨usual_nm _ (List.getElem_mem _), usual_nm _ (List.getElem_mem _), usual_nm _ (List.getElem_mem _), usual_nm _ (List.getElem_mem _)⟩
    · simp [hn, show n < 4611686018427387904 by omega, letters_eq, h1, e, c1, hi, hU, hx, -Int.add_zero, -Int.reduceAdd]
  · have hi : inD (.t (.int (c / 8 % 9))) (.lst [.int 1, .int 4, .int 7]) = .ok (.t (.bl false)) := by
      simp [inD, inB, flatT, eqvT]; omega
    obtain ⟨p, hp, hpn⟩ : ∃ p : Nat, c / 24 % (n : Int) = p ∧ p < n := ⟨(c / 24 % (n : Int)).toNat, by
      have := Int.emod_nonneg (c / 24) (show (n : Int) ≠ 0 by omega)
      omega, by
      have := Int.emod_nonneg (c / 24) (show (n : Int) ≠ 0 by omega)
      have := Int.emod_lt_of_pos (c / 24) (show 0 < (n : Int) by omega)
      omega⟩
    have hb : ∀ (z : Int), ixD (.t (.str (sl (List.range' 97 26)))) (.t (.int (z % 26))) = .ok (.t (.str (sl [97 + (z % 26).toNat]))) := fun z => ix_letter _ (by omega) (by omega)
    have ht : slD (.t (.str (sl w))) none (some (p : Int)) = .ok (.t (.str (sl (w.take p)))) := take_sl w p (by omega)
    have hr : slD (.t (.str (sl w))) (some ((p : Int) + 1)) none = .ok (.t (.str (sl (w.drop (p + 1))))) := drop_sl w (p + 1) (by omega)
    have ha : ∀ z, addD (.t (.str (sl (w.take p)))) (.t (.str (sl [z]))) = .ok (.t (.str (sl (w.take p ++ [z])))) := fun z => add_sl _ _ (by simp; omega)
    have ha2 : ∀ z, addD (.t (.str (sl (w.take p ++ [z])))) (.t (.str (sl (w.drop (p + 1))))) = .ok (.t (.str (sl (w.take p ++ [z] ++ w.drop (p + 1))))) := fun z => add_sl _ _ (by simp; omega)
    have hm : ∀ (i : Int), modD (.t (.int i)) (.t (.int n)) = .ok (.t (.int (i % n))) := fun i => mod_ii _ _ (by omega)
    have key : ∀ a b : Nat, a ≠ b → sl (w.take p ++ [a] ++ w.drop (p + 1)) ≠ sl (w.take p ++ [b] ++ w.drop (p + 1)) := fun a b h e => h (by
      have := sl_inj.mp e
      simpa using this)
    have key2 : ∀ a : Nat, 97 ≤ a → a ≤ 122 → Nm (sl (w.take p ++ [a] ++ w.drop (p + 1))) := fun a h h2 => by
      refine ⟨by simp; omega, by simp; omega, ?_⟩
      intro y hy
      simp only [sl_cps, List.append_assoc, List.mem_append, List.mem_cons, List.not_mem_nil, or_false] at hy
      rcases hy with hy | hy | hy
      · exact hl y (List.mem_of_mem_take hy)
      · omega
      · exact hl y (List.mem_of_mem_drop hy)
    refine ⟨[sl (w.take p ++ [97 + ((c / 192 + 0) % 26).toNat] ++ w.drop (p + 1)), sl (w.take p ++ [97 + ((c / 192 + 7) % 26).toNat] ++ w.drop (p + 1)), sl (w.take p ++ [97 + ((c / 192 + 14) % 26).toNat] ++ w.drop (p + 1)), sl (w.take p ++ [97 + ((c / 192 + 21) % 26).toNat] ++ w.drop (p + 1))], rfl, ?_, ?_, ?_⟩
    · simp only [List.nodup_cons, List.mem_cons, List.not_mem_nil, or_false, not_or, List.nodup_nil, and_true, not_false_eq_true]
      refine ⟨⟨key _ _ ?_, key _ _ ?_, key _ _ ?_⟩, ⟨key _ _ ?_, key _ _ ?_⟩, key _ _ ?_⟩ <;> omega
    · simp only [List.mem_cons, List.not_mem_nil, or_false, forall_eq_or_imp, forall_eq]
      refine ⟨key2 _ ?_ ?_, key2 _ ?_ ?_, key2 _ ?_ ?_, key2 _ ?_ ?_⟩ <;> omega
    · simp [hn, show n < 4611686018427387904 by omega, letters_eq, h1, e, c1, hi, hm, hp, hb, ht, hr, ha, ha2, -Int.add_zero, -List.append_assoc]
end Pf

set_option Elab.async false
set_option linter.all false
set_option maxRecDepth 100000
set_option maxHeartbeats 4000000
namespace Pf
open PySem L2
/-! ## sums -/
abbrev Prs := List (Str × Int)
def prT (p : Str × Int) : T := .tup [.str p.1, .int p.2]
def smT (n : Int) (ps : Prs) : T := .tup [.int n, .tup (ps.map prT)]
def tot (s : Str) : Prs → Int
  | [] => 0
  | p :: r => (if p.1 = s then p.2 else 0) + tot s r
theorem tot_app (s : Str) (a b : Prs) : tot s (a ++ b) = tot s a + tot s b := by
  induction a with
  | nil => simp [tot]
  | cons p r ih => simp only [List.cons_append, tot, ih]; omega
def getS (kvs : Prs) (s : Str) : Option (Str × Int) := kvs.find? fun q => decide (q.1 = s)
theorem getS_put (kvs : Prs) (k : Str) (v : Int) (s : Str) : getS (putL kvs k v) s = if s = k then some (k, v) else getS kvs s := by
  unfold putL
  split
  · rename_i h
    induction kvs with
    | nil => simp at h
    | cons p r ih =>
      by_cases hp : p.1 = k
      · by_cases hs : s = k
        · subst hs; simp [getS, hp]
        · have hs' : ¬ k = s := fun e => hs e.symm
          by_cases ha : (r.any fun p => decide (p.1 = k)) = true
          · have := ih ha
            rw [if_neg hs] at this ⊢
            simp only [getS, List.map_cons, hp, if_true, List.find?_cons, hs', decide_false] at this ⊢
            exact this
          · have e : r.map (fun p => if p.1 = k then (p.1, v) else p) = r := by
              conv => rhs; rw [← List.map_id r]
              apply List.map_congr_left
              intro q hq
              have : ¬ q.1 = k := fun e => ha (List.any_eq_true.mpr ⟨q, hq, by simp [e]⟩)
              simp [this]
            rw [if_neg hs]
            simp only [getS, List.map_cons, hp, if_true, List.find?_cons, hs', decide_false, e]
      · have ha : (r.any fun p => decide (p.1 = k)) = true := by simpa [hp] using h
        have := ih ha
        simp only [getS, List.map_cons, if_neg hp, List.find?_cons] at this ⊢
        by_cases hs : s = k
        · subst hs; simp [hp]; simpa using this
        · rw [if_neg hs] at this ⊢
          rw [this]
  · rename_i h
    have hn : ∀ q ∈ kvs, ¬ q.1 = k := fun q hq e => h (List.any_eq_true.mpr ⟨q, hq, by simp [e]⟩)
    simp only [getS, List.find?_append]
    by_cases hs : s = k
    · subst hs
      rw [List.find?_eq_none.mpr (fun q hq => by simpa using hn q hq)]
      simp
    · have hs' : ¬ k = s := fun e => hs e.symm
      simp [hs, hs']
theorem keys_put (kvs : Prs) (k : Str) (v : Int) : (putL kvs k v).map (·.1) = if k ∈ kvs.map (·.1) then kvs.map (·.1) else kvs.map (·.1) ++ [k] := by
  unfold putL
  by_cases h : (kvs.any fun p => decide (p.1 = k)) = true
  · have : k ∈ kvs.map (·.1) := by
      obtain ⟨q, hq, e⟩ := List.any_eq_true.mp h
      exact List.mem_map.mpr ⟨q, hq, by simpa using e⟩
    rw [if_pos h, if_pos this, List.map_map]
    apply List.map_congr_left
    intro q _
    simp only [Function.comp]; split <;> rfl
  · have : ¬ k ∈ kvs.map (·.1) := fun hk => by
      obtain ⟨q, hq, e⟩ := List.mem_map.mp hk
      exact h (List.any_eq_true.mpr ⟨q, hq, by simpa using e⟩)
    rw [if_neg h, if_neg this]; simp
def vl (kvs : Prs) (s : Str) : Int := match getS kvs s with | some p => p.2 | none => 0
theorem vl_put (kvs : Prs) (k : Str) (v : Int) (s : Str) : vl (putL kvs k v) s = if s = k then v else vl kvs s := by
  unfold vl; rw [getS_put]; by_cases h : s = k <;> simp [h]
theorem getS_some {kvs : Prs} {s : Str} (h : s ∈ kvs.map (·.1)) : ∃ p, getS kvs s = some p := by
  cases e : getS kvs s with
  | some p => exact ⟨p, rfl⟩
  | none =>
    obtain ⟨q, hq, e2⟩ := List.mem_map.mp h
    have := List.find?_eq_none.mp e q hq
    simp [e2] at this
theorem getS_none {kvs : Prs} {s : Str} (h : ¬ s ∈ kvs.map (·.1)) : getS kvs s = none := by
  apply List.find?_eq_none.mpr
  intro q hq e
  exact h (List.mem_map.mpr ⟨q, hq, by simpa using e⟩)
theorem dget_vl {kvs : Prs} {s : Str} (h : s ∈ kvs.map (·.1)) : dgetD (.dct kvs) (.t (.str s)) = .ok (.t (.int (vl kvs s))) := by
  obtain ⟨p, e⟩ := getS_some h
  unfold getS at e
  simp [dgetD, vl, getS, e]
theorem dget2_vl {kvs : Prs} {s : Str} : dget2 kvs (.t (.str s)) (.t (.int 0)) = .ok (.t (.int (vl kvs s))) := by
  cases h : kvs.find? (fun q => decide (q.1 = s)) <;> simp [dget2, vl, getS, h]
/-- the dict of a list of pairs -/
structure DictOf (kvs ps : Prs) : Prop where
  nd : (kvs.map (·.1)).Nodup
  mem : ∀ s, s ∈ kvs.map (·.1) ↔ s ∈ ps.map (·.1)
  vl : ∀ s, vl kvs s = tot s ps
  len : kvs.length ≤ ps.length
theorem DictOf.nil : DictOf [] [] := ⟨by simp, by simp, fun s => rfl, by simp⟩
theorem DictOf.put {kvs ps : Prs} (h : DictOf kvs ps) (p : Str × Int) : DictOf (putL kvs p.1 (Pf.vl kvs p.1 + p.2)) (ps ++ [p]) := by
  refine ⟨?_, fun s => ?_, fun s => ?_, ?_⟩
  · rw [keys_put]; split
    · exact h.nd
    · rename_i hk
      rw [List.nodup_append]
      refine ⟨h.nd, by simp, ?_⟩
      intro a ha b hb e
      simp at hb
      exact hk (by rw [← hb, ← e]; exact ha)
  · rw [keys_put]; split
    · rename_i hk
      rw [h.mem, List.map_append, List.mem_append]
      refine ⟨.inl, fun q => q.elim id fun q => ?_⟩
      simp at q; subst q
      exact (h.mem _).mp hk
    · rw [List.mem_append, h.mem, List.map_append, List.mem_append]
      simp
  · rw [vl_put, tot_app, h.vl, h.vl]
    simp only [tot]
    by_cases e : s = p.1
    · subst e; simp
    · rw [if_neg e, if_neg (fun q => e q.symm)]; omega
  · have := congrArg List.length (keys_put kvs p.1 (Pf.vl kvs p.1 + p.2))
    have hl := h.len
    rw [List.length_map] at this
    rw [this]
    split <;> simp <;> omega
theorem onceS_mem (s : Str) : ∀ l, s ∈ onceS l ↔ s ∈ l
  | [] => by simp [onceS]
  | x :: r => by
    unfold onceS
    split
    · rename_i h
      rw [onceS_mem s r, List.mem_cons]
      exact ⟨.inr, fun q => q.elim (fun e => e ▸ h) id⟩
    · rw [List.mem_cons, List.mem_cons, onceS_mem s r]
theorem onceS_nodup : ∀ l, (onceS l).Nodup
  | [] => by simp [onceS]
  | x :: r => by
    unfold onceS
    split
    · exact onceS_nodup r
    · rename_i h
      exact List.nodup_cons.mpr ⟨fun q => h ((onceS_mem x r).mp q), onceS_nodup r⟩
theorem srt_perm {a b : List Str} (h : a.Perm b) : srtS a = srtS b :=
  ((srtS_perm a).trans (h.trans (srtS_perm b).symm)).eq_of_pairwise (fun a b _ _ h1 h2 => leS_antisymm h1 h2) (srtS_pw a) (srtS_pw b)
theorem srt_filter {a b : List Str} (p : Str → Bool) (ha : a.Nodup) (hb : b.Nodup) (h : ∀ s, p s = true → (s ∈ a ↔ s ∈ b)) : (srtS a).filter p = (srtS b).filter p := by
  have pm : ((srtS a).filter p).Perm ((srtS b).filter p) := by
    rw [List.perm_ext_iff_of_nodup (((srtS_perm a).nodup_iff.mpr ha).filter p) (((srtS_perm b).nodup_iff.mpr hb).filter p)]
    intro s
    rw [List.mem_filter, List.mem_filter, (srtS_perm a).mem_iff, (srtS_perm b).mem_iff]
    exact ⟨fun q => ⟨(h s q.2).mp q.1, q.2⟩, fun q => ⟨(h s q.2).mpr q.1, q.2⟩⟩
  exact pm.eq_of_pairwise (fun a b _ _ h1 h2 => leS_antisymm h1 h2) ((srtS_pw a).filter p) ((srtS_pw b).filter p)
theorem tot_mem {s : Str} : ∀ {ps : Prs}, tot s ps ≠ 0 → s ∈ ps.map (·.1)
  | [], h => absurd rfl h
  | p :: r, h => by
    by_cases e : p.1 = s
    · simp [e]
    · simp only [tot, if_neg e, Int.zero_add] at h
      exact List.mem_cons_of_mem _ (tot_mem h)
/-- names rising, each once, with its shares added, none nought -/
def norm (ps : Prs) : Prs := ((srtS (onceS (ps.map (·.1)))).filter fun s => decide (tot s ps ≠ 0)).map fun s => (s, tot s ps)
theorem norm_over {ps : Prs} {N : List Str} (hn : N.Nodup) (h : ∀ p ∈ ps, p.1 ∈ N) : norm ps = ((srtS N).filter fun s => decide (tot s ps ≠ 0)).map fun s => (s, tot s ps) := by
  unfold norm
  rw [srt_filter _ (onceS_nodup _) hn]
  intro s hs
  rw [onceS_mem]
  refine ⟨fun q => ?_, fun _ => tot_mem (by simpa using hs)⟩
  obtain ⟨p, hp, rfl⟩ := List.mem_map.mp q
  exact h p hp
theorem lcR_map {α : Type} {j : Nat} {c : Ev → R Bool} {el : Ev → R D} {ρ : Ev} (g : α → T) (p : α → Bool) (f : α → T) : ∀ (xs : List α), (∀ x ∈ xs, c (ρ.set j (.d (.t (g x)) true)) = .ok (p x) ∧ (p x = true → el (ρ.set j (.d (.t (g x)) true)) = .ok (.t (f x)))) →
    lcR j c el ρ (xs.map g) = .ok ((xs.filter p).map f)
  | [], _ => rfl
  | x :: xs, h => by
    obtain ⟨h1, h2⟩ := h x (by simp)
    rw [List.map_cons, lcR_cons, h1, lcR_map g p f xs fun y hy => h y (List.mem_cons_of_mem _ hy)]
    cases e : p x with
    | false => simp [e]
    | true => simp [e, h2 e]
theorem made_eq (n : Int) (ps : Prs) (h : ps.length < 64) : m_made [.t (.int n), .lst (ps.map prT)] = .ok (.t (smT n (norm ps))) := by
  unfold m_made g_made
  rw [runDef_Rt]
  obtain ⟨ρ', e, kvs, k, rfl, hk⟩ := forR_ind (j := 3) (xs := ps.map prT) (body := dputO 2 (b2 ixD (rdE 3) (kI 0)) (b2 addD (dg2 (rdE 2) (b2 ixD (rdE 3) (kI 0)) (kI 0)) (b2 ixD (rdE 3) (kI 1))))
    (ρ := [.d (.t (.int n)) false, .d (.lst (ps.map prT)) false, .d (.dct []) true, .un, .un])
    (fun i ρ => ∃ (kvs : Prs) (k : Sl), ρ = [.d (.t (.int n)) false, .d (.lst (ps.map prT)) false, .d (.dct kvs) true, k, .un] ∧ DictOf kvs (ps.take i))
    (fun i x ρ hx ⟨kvs, k, e, hk⟩ => by
      subst e
      rw [List.getElem?_map] at hx
      cases hp : ps[i]? with
      | none => rw [hp] at hx; cases hx
      | some p =>
        rw [hp] at hx
        injection hx with hx
        subst hx
        have hl := hk.len
        rw [List.length_take] at hl
        have hl2 : kvs.length < 16777216 := by omega
        refine ⟨_, by simp [dputO, prT, dget2_vl, hl2]; rfl, ?_⟩
        refine ⟨_, _, rfl, ?_⟩
        have := hk.put p
        rw [List.take_add_one, hp]
        exact this) ⟨[], .un, rfl, by simpa using DictOf.nil⟩
  rw [List.length_map, List.take_length] at hk
  have hl := hk.len
  have key : srtS (kvs.map (·.1)) = srtS (onceS (ps.map (·.1))) := srt_perm ((List.perm_ext_iff_of_nodup hk.nd (onceS_nodup _)).mpr fun s => by rw [onceS_mem, hk.mem])
  have hs : sortedD [.dct kvs] = .ok (.lst ((srtS (onceS (ps.map (·.1)))).map T.str)) := by
    simp only [sortedD]; rw [if_pos (by omega), key]
  have hlc : lcR 4 (tV (b2 neD (b2 dgetD (rdE 2) (rdE 4)) (kI 0))) (ap mkTup (cA (rdE 4) (cA (b2 dgetD (rdE 2) (rdE 4)) nA))) [.d (.t (.int n)) false, .d (.lst (ps.map prT)) false, .d (.dct kvs) true, k, .un] ((srtS (onceS (ps.map (·.1)))).map T.str)
      = .ok (((srtS (onceS (ps.map (·.1)))).filter fun s => decide (tot s ps ≠ 0)).map fun s => prT (s, tot s ps)) := by
    refine lcR_map T.str _ _ _ fun s hm => ?_
    have hm2 : s ∈ kvs.map (·.1) := by
      rw [hk.mem, ← onceS_mem, ← (srtS_perm _).mem_iff]; exact hm
    have hd := dget_vl hm2
    rw [hk.vl] at hd
    constructor
    · simp [hd]
    · intro _; simp [hd, prT]
  have hlen : (srtS (onceS (ps.map (·.1)))).length ≤ 16777216 := by
    have := (srtS_perm (kvs.map (·.1))).length_eq
    rw [key, List.length_map] at this
    omega
  have e2 : ((srtS (onceS (ps.map (·.1)))).filter fun s => decide (tot s ps ≠ 0)).map (fun s => prT (s, tot s ps)) = (norm ps).map prT := by
    unfold norm; rw [List.map_map]; rfl
  rw [e2] at hlc
  simp [forNO, e, hs, hlc, hlen, smT]

theorem share_eq (n : Int) (s : Str) : ∀ (ps : Prs), m_share [.t (smT n ps), .t (.str s)] = .ok (.t (.int (vl ps s))) := by
  intro ps
  unfold m_share g_share
  rw [runDef_Rt]
  have key : ∀ (qs : Prs) (k : Sl), Rt ((seqO (forTO 2 (fun _ => .ok (.t (.tup (qs.map prT)))) (ifO (tV (b2 eqD (b2 ixD (rdE 2) (kI 0)) (rdE 1))) (retO (b2 ixD (rdE 2) (kI 1))) nxO)) (retO (kI 0))) [.d (.t (smT n ps)) false, .d (.t (.str s)) false, k]) = .ok (.t (.int (vl qs s))) := by
    intro qs
    induction qs with
    | nil => intro k; simp [vl, getS]
    | cons p r ih =>
      intro k
      have ih' := ih (.d (.t (prT p)) true)
      simp only [seqO, forTO, R.ok_bind] at ih'
      by_cases e : p.1 = s
      · simp [forR, prT, e, vl, getS]
      · have hv : vl (p :: r) s = vl r s := by simp [vl, getS, e]
        rw [hv, ← ih']
        simp [forR, prT, e]
  have := key ps .un
  simp only [seqO, forTO, R.ok_bind] at this
  simp [smT]
  simpa [smT] using this
/-! ### alike -/
@[simp] theorem isi_int (s : String) (i : Int) : isiD s (.t (.int i)) = match kitB "int" s with | some b => .ok (.t (.bl b)) | none => .stuck := id rfl
@[simp] theorem isi_str (s : String) (i : Str) : isiD s (.t (.str i)) = match kitB "str" s with | some b => .ok (.t (.bl b)) | none => .stuck := id rfl
@[simp] theorem isi_bl (s : String) (i : Bool) : isiD s (.t (.bl i)) = match kitB "bool" s with | some b => .ok (.t (.bl b)) | none => .stuck := id rfl
@[simp] theorem isi_non (s : String) : isiD s (.t .non) = match kitB "NoneType" s with | some b => .ok (.t (.bl b)) | none => .stuck := id rfl
@[simp] theorem isi_tup (s : String) (i : List T) : isiD s (.t (.tup i)) = match kitB "tuple" s with | some b => .ok (.t (.bl b)) | none => .stuck := id rfl
@[simp] theorem isi_lst (s : String) (i : List T) : isiD s (.lst i) = match kitB "list" s with | some b => .ok (.t (.bl b)) | none => .stuck := id rfl
@[simp] theorem kit_ii : kitB "int" "int" = some true := by decide +kernel
@[simp] theorem kit_ib : kitB "int" "bool" = some false := by decide +kernel
@[simp] theorem kit_is : kitB "int" "str" = some false := by decide +kernel
@[simp] theorem kit_it : kitB "int" "tuple" = some false := by decide +kernel
@[simp] theorem kit_il : kitB "int" "list" = some false := by decide +kernel
@[simp] theorem kit_bi : kitB "bool" "int" = some true := by decide +kernel
@[simp] theorem kit_bb : kitB "bool" "bool" = some true := by decide +kernel
@[simp] theorem kit_bs : kitB "bool" "str" = some false := by decide +kernel
@[simp] theorem kit_bt : kitB "bool" "tuple" = some false := by decide +kernel
@[simp] theorem kit_si : kitB "str" "int" = some false := by decide +kernel
@[simp] theorem kit_sb : kitB "str" "bool" = some false := by decide +kernel
@[simp] theorem kit_ss : kitB "str" "str" = some true := by decide +kernel
@[simp] theorem kit_st : kitB "str" "tuple" = some false := by decide +kernel
@[simp] theorem kit_ti : kitB "tuple" "int" = some false := by decide +kernel
@[simp] theorem kit_tb : kitB "tuple" "bool" = some false := by decide +kernel
@[simp] theorem kit_ts : kitB "tuple" "str" = some false := by decide +kernel
@[simp] theorem kit_tt : kitB "tuple" "tuple" = some true := by decide +kernel
@[simp] theorem kit_tl : kitB "tuple" "list" = some false := by decide +kernel
@[simp] theorem kit_li : kitB "list" "int" = some false := by decide +kernel
@[simp] theorem kit_ls : kitB "list" "str" = some false := by decide +kernel
@[simp] theorem kit_lt : kitB "list" "tuple" = some false := by decide +kernel
@[simp] theorem kit_ll : kitB "list" "list" = some true := by decide +kernel
@[simp] theorem isD_non (x : D) : isD x (.t .non) = .ok (.t (.bl (match x with | .t .non => true | _ => false))) := id rfl
@[simp] theorem isD_bl (x : D) (b : Bool) : isD x (.t (.bl b)) = .ok (.t (.bl (match x with | .t (.bl c) => decide (c = b) | _ => false))) := id rfl
@[simp] theorem whole_int (i : Int) : m_law_whole [.t (.int i)] = .ok (.t (.bl true)) := by
  unfold m_law_whole g_law_whole
  rw [runDef_Rt]
  simp
mutual
def goodT : Nat → T → Bool
  | 0, _ => false
  | _ + 1, .bl b => b
  | n + 1, .tup xs => decide (xs.length < 4611686018427387904) && goodTs n xs
  | _ + 1, _ => true
def goodTs : Nat → List T → Bool
  | _, [] => true
  | n, x :: xs => goodT n x && goodTs n xs
end
theorem goodTs_get {n : Nat} : ∀ {xs : List T} {i : Nat} {x : T}, goodTs n xs = true → xs[i]? = some x → goodT n x = true
  | [], i, x, _, e => by simp at e
  | y :: ys, 0, x, h, e => by
    simp [goodTs] at h e; rw [← e]; exact h.1
  | y :: ys, i + 1, x, h, e => by
    simp [goodTs] at h e; exact goodTs_get h.2 e
theorem alike_seq {n : Nat} {xs : List T} (ih : ∀ x, goodT n x = true → m_law_alike n [.t x, .t x] = .ok (.t (.bl true))) (d : D) (hd : ∀ (i : Nat) (x : T), xs[i]? = some x → ixD d (.t (.int i)) = .ok (.t x)) (h : goodTs n xs = true) (k : Sl) :
    ∃ k', forR 2 (ifO (tNot1 (tV (ap (m_law_alike n) (cA (b2 ixD (rdE 0) (rdE 2)) (cA (b2 ixD (rdE 1) (rdE 2)) nA))))) (retO (kB false)) nxO) (rngT 0 xs.length) [.d d false, .d d false, k] = .ok (.nx [.d d false, .d d false, k']) := by
  obtain ⟨ρ', e, k', rfl⟩ := forR_rng (j := 2) (lo := 0) (n := xs.length) (body := ifO (tNot1 (tV (ap (m_law_alike n) (cA (b2 ixD (rdE 0) (rdE 2)) (cA (b2 ixD (rdE 1) (rdE 2)) nA))))) (retO (kB false)) nxO) (ρ := [.d d false, .d d false, k])
    (fun i ρ => ∃ k, ρ = [.d d false, .d d false, k])
    (fun i ρ hi ⟨k, e⟩ => by
      subst e
      have hg := goodTs_get h (List.getElem?_eq_getElem hi)
      have := ih _ hg
      exact ⟨[.d d false, .d d false, .d (.t (.int (i : Nat))) true], by simp [hd i _ (List.getElem?_eq_getElem hi), this], _, rfl⟩) ⟨k, rfl⟩
  exact ⟨k', e⟩
theorem alike_self : ∀ (n : Nat) (x : T), goodT n x = true → m_law_alike n [.t x, .t x] = .ok (.t (.bl true))
  | 0, x, h => by simp [goodT] at h
  | n + 1, x, h => by
    unfold m_law_alike g_law_alike
    rw [runDef_Rt]
    cases x with
    | non => simp
    | bl b => simp [goodT] at h; subst h; simp
    | int i => simp
    | str s => simp
    | tup xs =>
      simp only [goodT, Bool.and_eq_true, decide_eq_true_eq] at h
      obtain ⟨k', e⟩ := alike_seq (xs := xs) (alike_self n) (.t (.tup xs)) (fun i x hx => by simp [hx]) h.2 .un
      simp [h.1, e]
theorem alike_list (n : Nat) (xs : List T) (hl : xs.length < 4611686018427387904) (h : goodTs n xs = true) : m_law_alike (n + 1) [.lst xs, .lst xs] = .ok (.t (.bl true)) := by
  unfold m_law_alike g_law_alike
  rw [runDef_Rt]
  obtain ⟨k', e⟩ := alike_seq (xs := xs) (alike_self n) (.lst xs) (fun i x hx => by simp [hx]) h .un
  simp [hl, e]
theorem good_prs (n : Nat) (ps : Prs) : goodTs (n + 2) (ps.map prT) = true := by
  induction ps with
  | nil => rfl
  | cons p r ih => simp [goodTs, goodT, prT]; exact ih
theorem good_sm (n : Nat) (m : Int) (ps : Prs) (h : ps.length < 4611686018427387904) : goodT (n + 4) (smT m ps) = true := by
  simp [smT, goodT, goodTs, good_prs, h]
/-! ### names and numbers as functions -/
noncomputable def big (c : Int) : Int := Classical.choose (big_ex c)
theorem big_lt (c : Int) : (big c).natAbs < 10 ^ 60 := (Classical.choose_spec (big_ex c)).1
@[simp] theorem big_eq (c : Int) : m_law_big_by [.t (.int c)] = .ok (.t (.int (big c))) := (Classical.choose_spec (big_ex c)).2
noncomputable def nams (c : Int) : List Str := Classical.choose (names_ex c)
theorem nams_len (c : Int) : (nams c).length = 4 := (Classical.choose_spec (names_ex c)).1
theorem nams_nd (c : Int) : (nams c).Nodup := (Classical.choose_spec (names_ex c)).2.1
theorem nams_nm (c : Int) : ∀ x ∈ nams c, Nm x := (Classical.choose_spec (names_ex c)).2.2.1
@[simp] theorem nams_eq (c : Int) : m_law_names_by [.t (.int c)] = .ok (.lst ((nams c).map T.str)) := (Classical.choose_spec (names_ex c)).2.2.2
theorem sorted_strs (l : List Str) (h : l.length < 64) : sortedD [.lst (l.map T.str)] = .ok (.lst ((srtS l).map T.str)) := by
  simp only [sortedD, asStrs_map, if_pos h]
theorem sum_ints (l : List Int) : sumD [.lst (l.map T.int)] = .ok (.t (.int l.sum)) := by
  simp only [sumD, asInts_map]
theorem tot_sum (s : Str) (ps : Prs) : ((ps.filter fun p => decide (p.1 = s)).map (·.2)).sum = tot s ps := by
  induction ps with
  | nil => rfl
  | cons p r ih => by_cases h : p.1 = s <;> simp [tot, h, ih]
theorem vl_map (f : Str → Int) (s : Str) : ∀ L : List Str, vl (L.map fun s => (s, f s)) s = if s ∈ L then f s else 0
  | [] => rfl
  | x :: r => by
    have ih := vl_map f s r
    by_cases h : x = s
    · subst h; simp [vl, getS]
    · have h' : ¬ s = x := fun e => h e.symm
      have e2 : vl ((x :: r).map fun s => (s, f s)) s = vl (r.map fun s => (s, f s)) s := by simp [vl, getS, h]
      rw [e2, ih]; simp [h']
theorem vl_norm (ps : Prs) (s : Str) : vl (norm ps) s = tot s ps := by
  unfold norm
  rw [vl_map]
  split
  · rfl
  · rename_i h
    rw [List.mem_filter, (srtS_perm _).mem_iff, onceS_mem] at h
    by_cases e : tot s ps = 0
    · exact e.symm
    · exact absurd ⟨tot_mem e, by simpa using e⟩ h
end Pf

set_option Elab.async false
set_option linter.all false
set_option maxRecDepth 100000
set_option maxHeartbeats 4000000
namespace Pf
open PySem L2
/-! ## statements -/
@[simp] theorem kd_not_and : ((("not" : Str)) = (("and" : Str))) = False := eq_false (by decide +kernel)
@[simp] theorem kd_not_or : ((("not" : Str)) = (("or" : Str))) = False := eq_false (by decide +kernel)
@[simp] theorem kd_not_some : ((("not" : Str)) = (("some" : Str))) = False := eq_false (by decide +kernel)
@[simp] theorem kd_not_all : ((("not" : Str)) = (("all" : Str))) = False := eq_false (by decide +kernel)
@[simp] theorem kd_not_above : ((("not" : Str)) = (("above" : Str))) = False := eq_false (by decide +kernel)
@[simp] theorem kd_not_nought : ((("not" : Str)) = (("nought" : Str))) = False := eq_false (by decide +kernel)
@[simp] theorem kd_not_goes : ((("not" : Str)) = (("goes" : Str))) = False := eq_false (by decide +kernel)
@[simp] theorem kd_and_not : ((("and" : Str)) = (("not" : Str))) = False := eq_false (by decide +kernel)
@[simp] theorem kd_and_or : ((("and" : Str)) = (("or" : Str))) = False := eq_false (by decide +kernel)
@[simp] theorem kd_and_some : ((("and" : Str)) = (("some" : Str))) = False := eq_false (by decide +kernel)
@[simp] theorem kd_and_all : ((("and" : Str)) = (("all" : Str))) = False := eq_false (by decide +kernel)
@[simp] theorem kd_and_above : ((("and" : Str)) = (("above" : Str))) = False := eq_false (by decide +kernel)
@[simp] theorem kd_and_nought : ((("and" : Str)) = (("nought" : Str))) = False := eq_false (by decide +kernel)
@[simp] theorem kd_and_goes : ((("and" : Str)) = (("goes" : Str))) = False := eq_false (by decide +kernel)
@[simp] theorem kd_or_not : ((("or" : Str)) = (("not" : Str))) = False := eq_false (by decide +kernel)
@[simp] theorem kd_or_and : ((("or" : Str)) = (("and" : Str))) = False := eq_false (by decide +kernel)
@[simp] theorem kd_or_some : ((("or" : Str)) = (("some" : Str))) = False := eq_false (by decide +kernel)
@[simp] theorem kd_or_all : ((("or" : Str)) = (("all" : Str))) = False := eq_false (by decide +kernel)
@[simp] theorem kd_or_above : ((("or" : Str)) = (("above" : Str))) = False := eq_false (by decide +kernel)
@[simp] theorem kd_or_nought : ((("or" : Str)) = (("nought" : Str))) = False := eq_false (by decide +kernel)
@[simp] theorem kd_or_goes : ((("or" : Str)) = (("goes" : Str))) = False := eq_false (by decide +kernel)
@[simp] theorem kd_some_not : ((("some" : Str)) = (("not" : Str))) = False := eq_false (by decide +kernel)
@[simp] theorem kd_some_and : ((("some" : Str)) = (("and" : Str))) = False := eq_false (by decide +kernel)
@[simp] theorem kd_some_or : ((("some" : Str)) = (("or" : Str))) = False := eq_false (by decide +kernel)
@[simp] theorem kd_some_all : ((("some" : Str)) = (("all" : Str))) = False := eq_false (by decide +kernel)
@[simp] theorem kd_some_above : ((("some" : Str)) = (("above" : Str))) = False := eq_false (by decide +kernel)
@[simp] theorem kd_some_nought : ((("some" : Str)) = (("nought" : Str))) = False := eq_false (by decide +kernel)
@[simp] theorem kd_some_goes : ((("some" : Str)) = (("goes" : Str))) = False := eq_false (by decide +kernel)
@[simp] theorem kd_all_not : ((("all" : Str)) = (("not" : Str))) = False := eq_false (by decide +kernel)
@[simp] theorem kd_all_and : ((("all" : Str)) = (("and" : Str))) = False := eq_false (by decide +kernel)
@[simp] theorem kd_all_or : ((("all" : Str)) = (("or" : Str))) = False := eq_false (by decide +kernel)
@[simp] theorem kd_all_some : ((("all" : Str)) = (("some" : Str))) = False := eq_false (by decide +kernel)
@[simp] theorem kd_all_above : ((("all" : Str)) = (("above" : Str))) = False := eq_false (by decide +kernel)
@[simp] theorem kd_all_nought : ((("all" : Str)) = (("nought" : Str))) = False := eq_false (by decide +kernel)
@[simp] theorem kd_all_goes : ((("all" : Str)) = (("goes" : Str))) = False := eq_false (by decide +kernel)
@[simp] theorem kd_above_not : ((("above" : Str)) = (("not" : Str))) = False := eq_false (by decide +kernel)
@[simp] theorem kd_above_and : ((("above" : Str)) = (("and" : Str))) = False := eq_false (by decide +kernel)
@[simp] theorem kd_above_or : ((("above" : Str)) = (("or" : Str))) = False := eq_false (by decide +kernel)
@[simp] theorem kd_above_some : ((("above" : Str)) = (("some" : Str))) = False := eq_false (by decide +kernel)
@[simp] theorem kd_above_all : ((("above" : Str)) = (("all" : Str))) = False := eq_false (by decide +kernel)
@[simp] theorem kd_above_nought : ((("above" : Str)) = (("nought" : Str))) = False := eq_false (by decide +kernel)
@[simp] theorem kd_above_goes : ((("above" : Str)) = (("goes" : Str))) = False := eq_false (by decide +kernel)
@[simp] theorem kd_nought_not : ((("nought" : Str)) = (("not" : Str))) = False := eq_false (by decide +kernel)
@[simp] theorem kd_nought_and : ((("nought" : Str)) = (("and" : Str))) = False := eq_false (by decide +kernel)
@[simp] theorem kd_nought_or : ((("nought" : Str)) = (("or" : Str))) = False := eq_false (by decide +kernel)
@[simp] theorem kd_nought_some : ((("nought" : Str)) = (("some" : Str))) = False := eq_false (by decide +kernel)
@[simp] theorem kd_nought_all : ((("nought" : Str)) = (("all" : Str))) = False := eq_false (by decide +kernel)
@[simp] theorem kd_nought_above : ((("nought" : Str)) = (("above" : Str))) = False := eq_false (by decide +kernel)
@[simp] theorem kd_nought_goes : ((("nought" : Str)) = (("goes" : Str))) = False := eq_false (by decide +kernel)
@[simp] theorem kd_goes_not : ((("goes" : Str)) = (("not" : Str))) = False := eq_false (by decide +kernel)
@[simp] theorem kd_goes_and : ((("goes" : Str)) = (("and" : Str))) = False := eq_false (by decide +kernel)
@[simp] theorem kd_goes_or : ((("goes" : Str)) = (("or" : Str))) = False := eq_false (by decide +kernel)
@[simp] theorem kd_goes_some : ((("goes" : Str)) = (("some" : Str))) = False := eq_false (by decide +kernel)
@[simp] theorem kd_goes_all : ((("goes" : Str)) = (("all" : Str))) = False := eq_false (by decide +kernel)
@[simp] theorem kd_goes_above : ((("goes" : Str)) = (("above" : Str))) = False := eq_false (by decide +kernel)
@[simp] theorem kd_goes_nought : ((("goes" : Str)) = (("nought" : Str))) = False := eq_false (by decide +kernel)
inductive EK where
  | above | nought | goes (h : Int)
inductive F where
  | e (k : EK) (n : Int) (ps : Prs)
  | nt (f : F)
  | nd (b : Bool) (fs : List F)
  | qn (b : Bool) (x : Str) (f : F)
def bw (b : Bool) : Str := if b then "and" else "or"
def qw (b : Bool) : Str := if b then "some" else "all"
mutual
def F.enc : F → T
  | .e .above n ps => .tup [.str "above", smT n ps]
  | .e .nought n ps => .tup [.str "nought", smT n ps]
  | .e (.goes h) n ps => .tup [.str "goes", .int h, smT n ps]
  | .nt f => .tup [.str "not", f.enc]
  | .nd b fs => .tup [.str (bw b), .tup (F.encs fs)]
  | .qn b x f => .tup [.str (qw b), .str x, f.enc]
def F.encs : List F → List T
  | [] => []
  | f :: fs => f.enc :: F.encs fs
end
theorem encs_map : ∀ fs : List F, F.encs fs = fs.map F.enc
  | [] => rfl
  | f :: fs => by simp [F.encs, encs_map fs]
mutual
def F.dep : F → Nat
  | .e _ _ _ => 1
  | .nt f => f.dep + 1
  | .nd _ fs => F.deps fs + 1
  | .qn _ _ f => f.dep + 1
def F.deps : List F → Nat
  | [] => 0
  | f :: fs => max f.dep (F.deps fs)
end
mutual
def F.sz : F → Nat
  | .e _ _ ps => ps.length
  | .nt f => f.sz
  | .nd _ fs => F.szs fs
  | .qn _ _ f => f.sz
def F.szs : List F → Nat
  | [] => 0
  | f :: fs => f.sz + F.szs fs
end
mutual
def F.cnt : F → Nat
  | .e _ _ _ => 1
  | .nt f => f.cnt
  | .nd _ fs => F.cnts fs
  | .qn _ _ f => f.cnt
def F.cnts : List F → Nat
  | [] => 0
  | f :: fs => f.cnt + F.cnts fs
end
mutual
def F.all (P : EK → Int → Prs → Prop) : F → Prop
  | .e k n ps => P k n ps
  | .nt f => f.all P
  | .nd _ fs => F.alls P fs
  | .qn _ _ f => f.all P
def F.alls (P : EK → Int → Prs → Prop) : List F → Prop
  | [] => True
  | f :: fs => f.all P ∧ F.alls P fs
end
mutual
def F.plain : F → Bool
  | .e _ _ _ => true
  | .nt f => f.plain
  | .nd _ fs => F.plains fs
  | .qn _ _ _ => false
def F.plains : List F → Bool
  | [] => true
  | f :: fs => f.plain && F.plains fs
end
mutual
def F.wid : F → Nat
  | .e _ _ _ => 0
  | .nt f => f.wid
  | .nd _ fs => max fs.length (F.wids fs)
  | .qn _ _ f => f.wid
def F.wids : List F → Nat
  | [] => 0
  | f :: fs => max f.wid (F.wids fs)
end
theorem deps_mem {f : F} : ∀ {fs : List F}, f ∈ fs → f.dep ≤ F.deps fs
  | g :: fs, h => by
    rcases List.mem_cons.mp h with rfl | h
    · exact Nat.le_max_left _ _
    · exact Nat.le_trans (deps_mem h) (Nat.le_max_right _ _)
theorem szs_mem {f : F} : ∀ {fs : List F}, f ∈ fs → f.sz ≤ F.szs fs
  | g :: fs, h => by
    rcases List.mem_cons.mp h with rfl | h
    · exact Nat.le_add_right _ _
    · exact Nat.le_trans (szs_mem h) (Nat.le_add_left _ _)
theorem encs_len (fs : List F) : (F.encs fs).length = fs.length := by simp [encs_map]
/-! ### sums of a script -/
def SumOk (N : List Str) (W : Int) (n : Int) (ps : Prs) : Prop := (ps.map (·.1)).Sublist (srtS N) ∧ n.natAbs ≤ 9 ∧ ∀ p ∈ ps, p.2 ≠ 0 ∧ -W ≤ p.2 ∧ p.2 ≤ W
theorem sum_by_ex (c : Int) (N : List Str) (W : Int) (hN : N.length < 64) (hW : 0 < W) (hW2 : W < 1000) : ∃ n ps, SumOk N W n ps ∧ m_law_sum_by [.t (.int c), .lst (N.map T.str), .t (.int W)] = .ok (.t (smT n ps)) := by
  unfold m_law_sum_by g_law_sum_by
  rw [runDef_Rt]
  have hl : (srtS N).length < 64 := by rw [(srtS_perm N).length_eq]; exact hN
  obtain ⟨ρ', e, m, ps, k5, k6, rfl, hs, hp⟩ := forR_ind (j := 5) (xs := (srtS N).map T.str) (body := (seqO (setO 3 (b2 modD (b2 addD (b2 mulD (rdE 3) (kI 48271)) (kI 11)) (kI 2147483647)))
    (seqO (setO 6 (b2 subD (b2 modD (b2 divD (rdE 3) (kI 7)) (b2 addD (b2 mulD (kI 2) (rdE 2)) (kI 1))) (rdE 2)))
    (ifO (tV (b2 neD (rdE 6) (kI 0))) (appO 4 (ap mkTup (cA (rdE 5) (cA (rdE 6) nA)))) nxO))))
    (ρ := [.d (.t (.int c)) false, .d (.lst (N.map T.str)) false, .d (.t (.int W)) false, .d (.t (.int c)) true, .d (.lst []) true, .un, .un])
    (fun i ρ => ∃ (m : Int) (ps : Prs) (k5 k6 : Sl), ρ = [.d (.t (.int c)) false, .d (.lst (N.map T.str)) false, .d (.t (.int W)) false, .d (.t (.int m)) true, .d (.lst (ps.map prT)) true, k5, k6] ∧ (ps.map (·.1)).Sublist ((srtS N).take i) ∧ ∀ p ∈ ps, p.2 ≠ 0 ∧ -W ≤ p.2 ∧ p.2 ≤ W)
    (fun i x ρ hx ⟨m, ps, k5, k6, e, h1, h2⟩ => by
      subst e
      rw [List.getElem?_map] at hx
      cases hs : (srtS N)[i]? with
      | none => rw [hs] at hx; cases hx
      | some s =>
        rw [hs] at hx
        injection hx with hx
        subst hx
        have hlen : ps.length < 16777216 := by
          have := h1.length_le
          rw [List.length_map, List.length_take] at this
          omega
        have hw : 0 < 2 * W + 1 := by omega
        have hw2 : 2 * W + 1 < 1073741824 := by omega
        have hm1 := Int.emod_nonneg ((m * 48271 + 11) % 2147483647 / 7) (show 2 * W + 1 ≠ 0 by omega)
        have hm2 := Int.emod_lt_of_pos ((m * 48271 + 11) % 2147483647 / 7) hw
        generalize hz : (m * 48271 + 11) % 2147483647 / 7 % (2 * W + 1) - W = z
        have hmul : mulD (.t (.int 2)) (.t (.int W)) = .ok (.t (.int (2 * W))) := mul_l _ _ (by decide) (by decide)
        have hmod : ∀ i, modD (.t (.int i)) (.t (.int (2 * W + 1))) = .ok (.t (.int (i % (2 * W + 1)))) := fun i => mod_ii _ _ hw
        by_cases h0 : z = 0
        · refine ⟨_, by simp [hmul, hmod, hz, h0]; rfl, ?_⟩
          refine ⟨_, ps, _, _, rfl, ?_, h2⟩
          rw [List.take_add_one, hs]
          exact h1.trans (List.sublist_append_left _ _)
        · refine ⟨_, by simp [hmul, hmod, hz, h0, appO, hlen]; rfl, ?_⟩
          refine ⟨_, ps ++ [(s, z)], .d (.t (.str s)) true, .d (.t (.int z)) true, by simp [prT]; rfl, ?_, ?_⟩
          · rw [List.take_add_one, hs, List.map_append]
            exact List.Sublist.append h1 (List.Sublist.refl _)
          · intro p hp
            rcases List.mem_append.mp hp with hp | hp
            · exact h2 p hp
            · simp at hp; subst hp; exact ⟨h0, by omega, by omega⟩) ⟨c, [], .un, .un, rfl, by simp, by simp⟩
  rw [List.length_map, List.take_length] at hs
  have hso := sorted_strs N hN
  have hm1 : ((m * 48271 + 11) % 2147483647 / 7 % 19 - 9).natAbs ≤ 9 := by omega
  exact ⟨_, ps, ⟨hs, hm1, hp⟩, by simp [hso, e, smT]⟩

/-! ### ends and plain statements of a script -/
def EndOk (N : List Str) (W M : Int) (k : EK) (n : Int) (ps : Prs) : Prop := SumOk N W n ps ∧ ∀ h, k = .goes h → 1 ≤ h ∧ h ≤ M
theorem end_by_ex (c : Int) (N : List Str) (W M : Int) (hN : N.length < 64) (hW : 0 < W) (hW2 : W < 1000) (hM : 0 < M) : ∃ k n ps, EndOk N W M k n ps ∧ m_law_end_by [.t (.int c), .lst (N.map T.str), .t (.int W), .t (.int M)] = .ok (.t (F.e k n ps).enc) := by
  obtain ⟨n, ps, h1, h2⟩ := sum_by_ex (c / 12) N W hN hW hW2
  have hmod : ∀ i, modD (.t (.int i)) (.t (.int M)) = .ok (.t (.int (i % M))) := fun i => mod_ii _ _ hM
  have q1 := Int.emod_nonneg (c / 4) (show M ≠ 0 by omega)
  have q2 := Int.emod_lt_of_pos (c / 4) hM
  unfold m_law_end_by g_law_end_by
  rw [runDef_Rt]
  by_cases c3 : c % 4 = 3
  · exact ⟨.nought, n, ps, ⟨h1, fun h e => by cases e⟩, by simp [h2, c3, F.enc]⟩
  · by_cases c2 : c % 4 = 2
    · exact ⟨.goes (1 + c / 4 % M), n, ps, ⟨h1, fun h e => by cases e; omega⟩, by simp [h2, c2, hmod, F.enc]⟩
    · exact ⟨.above, n, ps, ⟨h1, fun h e => by cases e⟩, by simp [h2, c3, c2, F.enc]⟩
/-- a plain statement of ends of the names N; i ends more than one -/
structure PlOk (N : List Str) (W M : Int) (i : Nat) (f : F) : Prop where
  all : f.all (EndOk N W M)
  dep : f.dep ≤ 1 + 4 * i
  sz : f.sz ≤ N.length * (1 + 20 * i)
  plain : f.plain = true
  wid : f.wid ≤ 21
  cnt : f.cnt ≤ 1 + 20 * i
theorem end_sz {N : List Str} {W M : Int} {k : EK} {n : Int} {ps : Prs} (h : EndOk N W M k n ps) : ps.length ≤ N.length := by
  have := h.1.1.length_le
  rwa [List.length_map, (srtS_perm N).length_eq] at this
theorem szs_rep (f : F) : ∀ m : Nat, F.szs (List.replicate m f) = m * f.sz
  | 0 => by simp [F.szs]
  | m + 1 => by rw [List.replicate_succ]; simp only [F.szs, szs_rep f m]; rw [Nat.succ_mul]; omega
theorem cnts_rep (f : F) : ∀ m : Nat, F.cnts (List.replicate m f) = m * f.cnt
  | 0 => by simp [F.cnts]
  | m + 1 => by rw [List.replicate_succ]; simp only [F.cnts, cnts_rep f m]; rw [Nat.succ_mul]; omega
theorem deps_rep (f : F) : ∀ m : Nat, F.deps (List.replicate m f) ≤ f.dep
  | 0 => by simp [F.deps]
  | m + 1 => by rw [List.replicate_succ]; exact Nat.max_le.mpr ⟨Nat.le_refl _, deps_rep f m⟩
theorem wids_rep (f : F) : ∀ m : Nat, F.wids (List.replicate m f) ≤ f.wid
  | 0 => by simp [F.wids]
  | m + 1 => by rw [List.replicate_succ]; exact Nat.max_le.mpr ⟨Nat.le_refl _, wids_rep f m⟩
theorem alls_rep {P : EK → Int → Prs → Prop} {f : F} (h : f.all P) : ∀ m : Nat, F.alls P (List.replicate m f)
  | 0 => trivial
  | m + 1 => by rw [List.replicate_succ]; exact ⟨h, alls_rep h m⟩
theorem plains_rep {f : F} (h : f.plain = true) : ∀ m : Nat, F.plains (List.replicate m f) = true
  | 0 => rfl
  | m + 1 => by rw [List.replicate_succ]; simp [F.plains, h, plains_rep h m]
theorem flat_rep (x : T) : ∀ m : Nat, (List.replicate m [x]).flatten = List.replicate m x
  | 0 => rfl
  | m + 1 => by rw [List.replicate_succ, List.flatten_cons, flat_rep x m]; rfl
theorem mul_t1 (x : T) (m : Nat) (h : 1 ≤ m) (h2 : m ≤ 1000) : mulD (.t (.tup [x])) (.t (.int m)) = .ok (.t (.tup (List.replicate m x))) := by
  simp only [mulD]
  rw [if_pos ⟨by simp, by simp, by omega, by omega⟩, Int.toNat_natCast, flat_rep]
@[simp] theorem add_tt (xs ys : List T) (h : xs.length + ys.length ≤ 16777216) : addD (.t (.tup xs)) (.t (.tup ys)) = .ok (.t (.tup (xs ++ ys))) := by
  simp only [addD, if_pos h]
@[simp] theorem rng2_1 (n : Nat) (h : n < 1000) : rng2 [.t (.int 1), .t (.int n)] = .ok (1, n - 1) := by
  simp only [rng2]
  rw [if_pos ⟨by decide, by omega⟩]
  congr 2
  omega
end Pf

set_option Elab.async false
set_option linter.all false
set_option maxRecDepth 100000
set_option maxHeartbeats 4000000
namespace Pf
open PySem L2
@[simp] theorem bw_t : bw true = "and" := id rfl
@[simp] theorem bw_f : bw false = "or" := id rfl
@[simp] theorem qw_t : qw true = "some" := id rfl
@[simp] theorem qw_f : qw false = "all" := id rfl
@[simp] theorem em_t (xs : List T) : smT 0 [] = .tup [.int 0, .tup []] := id rfl
theorem plain_step {ns : List Int} {a : Nat} {n : Nat} {N : List Str} {o : Bool} {W M b : Int} {k8 k9 k10 k11 : Sl} {f : F} {j : Nat} (hN : N.length < 64) (hW : 0 < W) (hW2 : W < 1000) (hM : 0 < M) (i : Nat) (hj : j = 1 + i) (h : PlOk N W M i f) :
    ∃ (f' : F) (l8 l9 l10 l11 : Sl), (seqO (setO 9 (b2 addD (ap m_law_cell_at (cA (rdE 0) (cA (b2 addD (rdE 1) (rdE 8)) nA))) (b2 mulD (kI 104729) (rdE 8))))
    (seqO (setO 10 (ap m_law_end_by (cA (b2 divD (rdE 9) (kI 9)) (cA (rdE 3) (cA (rdE 4) (cA (rdE 5) nA))))))
    (seqO (setO 11 (b2 modD (rdE 9) (kI 9)))
    (seqO (ifO (tV (b2 ltD (rdE 11) (kI 2))) (setO 7 (ap mkTup (cA (b2 ixD (ap mkLst (cA (kS "and") (cA (kS "or") nA))) (rdE 11)) (cA (ap mkTup (cA (rdE 7) (cA (rdE 10) nA))) nA)))) nxO)
    (seqO (ifO (tV (b2 eqD (rdE 11) (kI 2))) (setO 7 (ap mkTup (cA (kS "or") (cA (ap mkTup (cA (ap mkTup (cA (kS "not") (cA (rdE 7) nA))) (cA (rdE 10) nA))) nA)))) nxO)
    (seqO (ifO (tV (b2 eqD (rdE 11) (kI 3))) (setO 7 (ap mkTup (cA (kS "not") (cA (ap mkTup (cA (kS "and") (cA (ap mkTup (cA (rdE 10) (cA (rdE 7) (cA (ap mkTup (cA (kS "and") (cA (ap mkTup nA) nA))) nA)))) nA))) nA)))) nxO)
    (seqO (ifO (tV (b2 eqD (rdE 11) (kI 4))) (setO 7 (ap mkTup (cA (kS "and") (cA (ap mkTup (cA (ap mkTup (cA (kS "or") (cA (ap mkTup (cA (rdE 10) (cA (rdE 7) nA))) nA))) (cA (ap mkTup (cA (kS "not") (cA (rdE 10) nA))) nA))) nA)))) nxO)
    (seqO (ifO (tV (b2 eqD (rdE 11) (kI 5))) (setO 7 (ap mkTup (cA (kS "or") (cA (ap mkTup (cA (rdE 10) (cA (ap mkTup (cA (kS "or") (cA (ap mkTup nA) nA))) (cA (rdE 7) nA)))) nA)))) nxO)
    (seqO (ifO (tV (b2 eqD (rdE 11) (kI 6))) (setO 7 (ap mkTup (cA (kS "and") (cA (ap mkTup (cA (ap mkTup (cA (kS "not") (cA (ap mkTup (cA (kS "not") (cA (rdE 7) nA))) nA))) (cA (ap mkTup (cA (kS "not") (cA (rdE 10) nA))) nA))) nA)))) nxO)
    (seqO (ifO (tV (b2 eqD (rdE 11) (kI 7))) (setO 7 (ap mkTup (cA (kS "and") (cA (ap mkTup (cA (ap mkTup (cA (kS "or") (cA (ap mkTup (cA (rdE 7) nA)) nA))) (cA (ap mkTup (cA (kS "or") (cA (ap mkTup (cA (ap mkTup (cA (kS "and") (cA (ap mkTup (cA (rdE 10) nA)) nA))) nA)) nA))) nA))) nA)))) nxO)
    (ifO (tV (b2 eqD (rdE 11) (kI 8))) (setO 7 (ap mkTup (cA (b2 ixD (ap mkLst (cA (kS "and") (cA (kS "or") nA))) (b2 modD (b2 divD (rdE 9) (kI 9)) (kI 2))) (cA (b2 addD (ap mkTup (cA (rdE 10) (cA (rdE 10) (cA (rdE 7) nA)))) (b2 mulD (ap mkTup (cA (rdE 10) nA)) (b2 addD (kI 1) (b2 modD (b2 divD (rdE 9) (kI 18)) (kI 18))))) nA)))) nxO))))))))))) [.d (.scr ns) false, .d (.t (.int a)) false, .d (.t (.int n)) false, .d (.lst (N.map T.str)) o, .d (.t (.int W)) false, .d (.t (.int M)) false, .d (.t (.int b)) true, .d (.t (F.enc f)) true, .d (.t (.int j)) true, k9, k10, k11] = .ok (.nx [.d (.scr ns) false, .d (.t (.int a)) false, .d (.t (.int n)) false, .d (.lst (N.map T.str)) o, .d (.t (.int W)) false, .d (.t (.int M)) false, .d (.t (.int b)) true, .d (.t (F.enc f')) true, l8, l9, l10, l11]) ∧ PlOk N W M (i + 1) f' := by
  obtain ⟨ha, hd, hs, hp, hw, hcn⟩ := h
  have hc : m_law_cell_at [.scr ns, .t (.int ((a : Int) + (j : Int)))] = .ok (.t (.int (cell ns (a + j)))) := cell_at (k := a + j)
  generalize hz : cell ns (a + j) + 104729 * (j : Int) = z
  obtain ⟨k, x, ps, he, hq⟩ := end_by_ex (z / 9) N W M hN hW hW2 hM
  have hes := end_sz he
  have hsz : N.length * (1 + 20 * (i + 1)) = N.length * (1 + 20 * i) + 20 * N.length := by
    have e : 1 + 20 * (i + 1) = (1 + 20 * i) + 20 := by omega
    rw [e, Nat.mul_add, Nat.mul_comm _ 20]
  have hzw : z % 9 = 0 ∨ z % 9 = 1 ∨ z % 9 = 2 ∨ z % 9 = 3 ∨ z % 9 = 4 ∨ z % 9 = 5 ∨ z % 9 = 6 ∨ z % 9 = 7 ∨ z % 9 = 8 := by omega
  rcases hzw with q | q | q | q | q | q | q | q | q
  · refine ⟨.nd true [f, .e k x ps], .d (.t (.int j)) true, .d (.t (.int z)) true, .d (.t (F.enc (.e k x ps))) true, .d (.t (.int 0)) true, ?_, ?_⟩
    · simp [hc, hz, hq, q, F.enc, F.encs]
    · refine ⟨?_, ?_, ?_, ?_, ?_, by simp only [F.cnt, F.cnts]; omega⟩
      · simp [F.all, F.alls, ha, he]
      · simp only [F.dep, F.deps]; omega
      · simp only [F.sz, F.szs]; omega
      · simp [F.plain, F.plains, hp]
      · simp only [F.wid, F.wids, List.length_cons, List.length_nil]; omega
  · refine ⟨.nd false [f, .e k x ps], .d (.t (.int j)) true, .d (.t (.int z)) true, .d (.t (F.enc (.e k x ps))) true, .d (.t (.int 1)) true, ?_, ?_⟩
    · simp [hc, hz, hq, q, F.enc, F.encs]
    · refine ⟨?_, ?_, ?_, ?_, ?_, by simp only [F.cnt, F.cnts]; omega⟩
      · simp [F.all, F.alls, ha, he]
      · simp only [F.dep, F.deps]; omega
      · simp only [F.sz, F.szs]; omega
      · simp [F.plain, F.plains, hp]
      · simp only [F.wid, F.wids, List.length_cons, List.length_nil]; omega
  · refine ⟨.nd false [.nt f, .e k x ps], .d (.t (.int j)) true, .d (.t (.int z)) true, .d (.t (F.enc (.e k x ps))) true, .d (.t (.int 2)) true, ?_, ?_⟩
    · simp [hc, hz, hq, q, F.enc, F.encs]
    · refine ⟨?_, ?_, ?_, ?_, ?_, by simp only [F.cnt, F.cnts]; omega⟩
      · simp [F.all, F.alls, ha, he]
      · simp only [F.dep, F.deps]; omega
      · simp only [F.sz, F.szs]; omega
      · simp [F.plain, F.plains, hp]
      · simp only [F.wid, F.wids, List.length_cons, List.length_nil]; omega
  · refine ⟨.nt (.nd true [.e k x ps, f, .nd true []]), .d (.t (.int j)) true, .d (.t (.int z)) true, .d (.t (F.enc (.e k x ps))) true, .d (.t (.int 3)) true, ?_, ?_⟩
    · simp [hc, hz, hq, q, F.enc, F.encs]
    · refine ⟨?_, ?_, ?_, ?_, ?_, by simp only [F.cnt, F.cnts]; omega⟩
      · simp [F.all, F.alls, ha, he]
      · simp only [F.dep, F.deps]; omega
      · simp only [F.sz, F.szs]; omega
      · simp [F.plain, F.plains, hp]
      · simp only [F.wid, F.wids, List.length_cons, List.length_nil]; omega
  · refine ⟨.nd true [.nd false [.e k x ps, f], .nt (.e k x ps)], .d (.t (.int j)) true, .d (.t (.int z)) true, .d (.t (F.enc (.e k x ps))) true, .d (.t (.int 4)) true, ?_, ?_⟩
    · simp [hc, hz, hq, q, F.enc, F.encs]
    · refine ⟨?_, ?_, ?_, ?_, ?_, by simp only [F.cnt, F.cnts]; omega⟩
      · simp [F.all, F.alls, ha, he]
      · simp only [F.dep, F.deps]; omega
      · simp only [F.sz, F.szs]; omega
      · simp [F.plain, F.plains, hp]
      · simp only [F.wid, F.wids, List.length_cons, List.length_nil]; omega
  · refine ⟨.nd false [.e k x ps, .nd false [], f], .d (.t (.int j)) true, .d (.t (.int z)) true, .d (.t (F.enc (.e k x ps))) true, .d (.t (.int 5)) true, ?_, ?_⟩
    · simp [hc, hz, hq, q, F.enc, F.encs]
    · refine ⟨?_, ?_, ?_, ?_, ?_, by simp only [F.cnt, F.cnts]; omega⟩
      · simp [F.all, F.alls, ha, he]
      · simp only [F.dep, F.deps]; omega
      · simp only [F.sz, F.szs]; omega
      · simp [F.plain, F.plains, hp]
      · simp only [F.wid, F.wids, List.length_cons, List.length_nil]; omega
  · refine ⟨.nd true [.nt (.nt f), .nt (.e k x ps)], .d (.t (.int j)) true, .d (.t (.int z)) true, .d (.t (F.enc (.e k x ps))) true, .d (.t (.int 6)) true, ?_, ?_⟩
    · simp [hc, hz, hq, q, F.enc, F.encs]
    · refine ⟨?_, ?_, ?_, ?_, ?_, by simp only [F.cnt, F.cnts]; omega⟩
      · simp [F.all, F.alls, ha, he]
      · simp only [F.dep, F.deps]; omega
      · simp only [F.sz, F.szs]; omega
      · simp [F.plain, F.plains, hp]
      · simp only [F.wid, F.wids, List.length_cons, List.length_nil]; omega
  · refine ⟨.nd true [.nd false [f], .nd false [.nd true [.e k x ps]]], .d (.t (.int j)) true, .d (.t (.int z)) true, .d (.t (F.enc (.e k x ps))) true, .d (.t (.int 7)) true, ?_, ?_⟩
    · simp [hc, hz, hq, q, F.enc, F.encs]
    · refine ⟨?_, ?_, ?_, ?_, ?_, by simp only [F.cnt, F.cnts]; omega⟩
      · simp [F.all, F.alls, ha, he]
      · simp only [F.dep, F.deps]; omega
      · simp only [F.sz, F.szs]; omega
      · simp [F.plain, F.plains, hp]
      · simp only [F.wid, F.wids, List.length_cons, List.length_nil]; omega
  · obtain ⟨m, hm, hm1, hm18⟩ : ∃ m : Nat, 1 + z / 18 % 18 = m ∧ 1 ≤ m ∧ m ≤ 18 := ⟨(1 + z / 18 % 18).toNat, by omega, by omega, by omega⟩
    have hr := mul_t1 (F.enc (.e k x ps)) m hm1 (by omega)
    have fin : ∀ c : Bool, PlOk N W M (i + 1) (.nd c (.e k x ps :: .e k x ps :: f :: List.replicate m (.e k x ps))) := fun c => by
      refine ⟨?_, ?_, ?_, ?_, ?_, by simp only [F.cnt, F.cnts, cnts_rep]; omega⟩
      · simp only [F.all, F.alls]; exact ⟨he, he, ha, alls_rep (f := .e k x ps) (by simpa only [F.all] using he) m⟩
      · have := deps_rep (.e k x ps) m
        simp only [F.dep, F.deps] at this ⊢; omega
      · simp only [F.sz, F.szs, szs_rep]
        have : m * ps.length ≤ 18 * N.length := Nat.mul_le_mul hm18 hes
        omega
      · simp [F.plain, F.plains, hp, plains_rep (f := .e k x ps) rfl m]
      · have := wids_rep (.e k x ps) m
        simp only [F.wid, F.wids, List.length_cons, List.length_replicate] at this ⊢; omega
    have henc : F.encs (List.replicate m (.e k x ps)) = List.replicate m (F.enc (.e k x ps)) := by rw [encs_map, List.map_replicate]
    have h2 : z / 9 % 2 = 0 ∨ z / 9 % 2 = 1 := by omega
    rcases h2 with h2 | h2
    · refine ⟨_, .d (.t (.int j)) true, .d (.t (.int z)) true, .d (.t (F.enc (.e k x ps))) true, .d (.t (.int 8)) true, ?_, fin true⟩
      simp [hc, hz, hq, q, F.enc, F.encs, hm, hr, h2, henc, show m + 1 + 1 + 1 ≤ 16777216 by omega, show 1 + 1 + 1 + m ≤ 16777216 by omega]
    · refine ⟨_, .d (.t (.int j)) true, .d (.t (.int z)) true, .d (.t (F.enc (.e k x ps))) true, .d (.t (.int 8)) true, ?_, fin false⟩
      simp [hc, hz, hq, q, F.enc, F.encs, hm, hr, h2, henc, show m + 1 + 1 + 1 ≤ 16777216 by omega, show 1 + 1 + 1 + m ≤ 16777216 by omega]

mutual
theorem all_mono {P Q : EK → Int → Prs → Prop} (h : ∀ k n ps, P k n ps → Q k n ps) : ∀ f : F, f.all P → f.all Q
  | .e k n ps, q => by simp only [F.all] at q ⊢; exact h k n ps q
  | .nt f, q => by simp only [F.all] at q ⊢; exact all_mono h f q
  | .nd _ fs, q => by simp only [F.all] at q ⊢; exact alls_mono h fs q
  | .qn _ _ f, q => by simp only [F.all] at q ⊢; exact all_mono h f q
theorem alls_mono {P Q : EK → Int → Prs → Prop} (h : ∀ k n ps, P k n ps → Q k n ps) : ∀ fs : List F, F.alls P fs → F.alls Q fs
  | [], _ => by simp only [F.alls]
  | f :: fs, q => by simp only [F.alls] at q ⊢; exact ⟨all_mono h f q.1, alls_mono h fs q.2⟩
end
theorem PlOk.names {N : List Str} {W M : Int} {i : Nat} {f : F} (h : PlOk [] W M i f) : PlOk N W M i f := by
  obtain ⟨h1, h2, h3, h4, h5, h6⟩ := h
  refine ⟨all_mono (fun k n ps q => ?_) f h1, h2, ?_, h4, h5, h6⟩
  · obtain ⟨⟨q1, q2, q3⟩, q4⟩ := q
    exact ⟨⟨q1.trans (List.nil_sublist _), q2, q3⟩, q4⟩
  · rw [List.length_nil, Nat.zero_mul] at h3; omega
theorem plain_by_ex (ns : List Int) (a : Nat) (n : Nat) (N : List Str) (W M : Int) (hn : 1 ≤ n) (hn2 : n < 1000) (hN : N.length < 64) (hW : 0 < W) (hW2 : W < 1000) (hM : 0 < M) :
    ∃ f, PlOk N W M (n - 1) f ∧ m_law_plain_by [.scr ns, .t (.int a), .t (.int n), .lst (N.map T.str), .t (.int W), .t (.int M)] = .ok (.t f.enc) := by
  unfold m_law_plain_by g_law_plain_by
  rw [runDef_Rt]
  have hc : m_law_cell_at [.scr ns, .t (.int (a : Int))] = .ok (.t (.int (cell ns a))) := cell_at (k := a)
  generalize hb : cell ns a = b at hc
  by_cases c0 : b % 26 = 25
  · refine ⟨.nd true [], ⟨?_, ?_, ?_, rfl, ?_, by simp [F.cnt, F.cnts]⟩, by simp [hc, c0, F.enc, F.encs]⟩
    · simp [F.all, F.alls]
    · simp [F.dep, F.deps]
    · simp [F.sz, F.szs]
    · simp [F.wid, F.wids]
  have key : ∀ (N : List Str) (o : Bool), N.length < 64 → ∃ f, PlOk N W M (n - 1) f ∧ ∃ (g : F) (k8 k9 k10 k11 : Sl), m_law_end_by [.t (.int b), .lst (N.map T.str), .t (.int W), .t (.int M)] = .ok (.t g.enc) ∧
      forR 8 (seqO (setO 9 (b2 addD (ap m_law_cell_at (cA (rdE 0) (cA (b2 addD (rdE 1) (rdE 8)) nA))) (b2 mulD (kI 104729) (rdE 8))))
    (seqO (setO 10 (ap m_law_end_by (cA (b2 divD (rdE 9) (kI 9)) (cA (rdE 3) (cA (rdE 4) (cA (rdE 5) nA))))))
    (seqO (setO 11 (b2 modD (rdE 9) (kI 9)))
    (seqO (ifO (tV (b2 ltD (rdE 11) (kI 2))) (setO 7 (ap mkTup (cA (b2 ixD (ap mkLst (cA (kS "and") (cA (kS "or") nA))) (rdE 11)) (cA (ap mkTup (cA (rdE 7) (cA (rdE 10) nA))) nA)))) nxO)
    (seqO (ifO (tV (b2 eqD (rdE 11) (kI 2))) (setO 7 (ap mkTup (cA (kS "or") (cA (ap mkTup (cA (ap mkTup (cA (kS "not") (cA (rdE 7) nA))) (cA (rdE 10) nA))) nA)))) nxO)
    (seqO (ifO (tV (b2 eqD (rdE 11) (kI 3))) (setO 7 (ap mkTup (cA (kS "not") (cA (ap mkTup (cA (kS "and") (cA (ap mkTup (cA (rdE 10) (cA (rdE 7) (cA (ap mkTup (cA (kS "and") (cA (ap mkTup nA) nA))) nA)))) nA))) nA)))) nxO)
    (seqO (ifO (tV (b2 eqD (rdE 11) (kI 4))) (setO 7 (ap mkTup (cA (kS "and") (cA (ap mkTup (cA (ap mkTup (cA (kS "or") (cA (ap mkTup (cA (rdE 10) (cA (rdE 7) nA))) nA))) (cA (ap mkTup (cA (kS "not") (cA (rdE 10) nA))) nA))) nA)))) nxO)
    (seqO (ifO (tV (b2 eqD (rdE 11) (kI 5))) (setO 7 (ap mkTup (cA (kS "or") (cA (ap mkTup (cA (rdE 10) (cA (ap mkTup (cA (kS "or") (cA (ap mkTup nA) nA))) (cA (rdE 7) nA)))) nA)))) nxO)
    (seqO (ifO (tV (b2 eqD (rdE 11) (kI 6))) (setO 7 (ap mkTup (cA (kS "and") (cA (ap mkTup (cA (ap mkTup (cA (kS "not") (cA (ap mkTup (cA (kS "not") (cA (rdE 7) nA))) nA))) (cA (ap mkTup (cA (kS "not") (cA (rdE 10) nA))) nA))) nA)))) nxO)
    (seqO (ifO (tV (b2 eqD (rdE 11) (kI 7))) (setO 7 (ap mkTup (cA (kS "and") (cA (ap mkTup (cA (ap mkTup (cA (kS "or") (cA (ap mkTup (cA (rdE 7) nA)) nA))) (cA (ap mkTup (cA (kS "or") (cA (ap mkTup (cA (ap mkTup (cA (kS "and") (cA (ap mkTup (cA (rdE 10) nA)) nA))) nA)) nA))) nA))) nA)))) nxO)
    (ifO (tV (b2 eqD (rdE 11) (kI 8))) (setO 7 (ap mkTup (cA (b2 ixD (ap mkLst (cA (kS "and") (cA (kS "or") nA))) (b2 modD (b2 divD (rdE 9) (kI 9)) (kI 2))) (cA (b2 addD (ap mkTup (cA (rdE 10) (cA (rdE 10) (cA (rdE 7) nA)))) (b2 mulD (ap mkTup (cA (rdE 10) nA)) (b2 addD (kI 1) (b2 modD (b2 divD (rdE 9) (kI 18)) (kI 18))))) nA)))) nxO))))))))))) (rngT 1 (n - 1)) [.d (.scr ns) false, .d (.t (.int a)) false, .d (.t (.int n)) false, .d (.lst (N.map T.str)) o, .d (.t (.int W)) false, .d (.t (.int M)) false, .d (.t (.int b)) true, .d (.t g.enc) true, .un, .un, .un, .un] = .ok (.nx [.d (.scr ns) false, .d (.t (.int a)) false, .d (.t (.int n)) false, .d (.lst (N.map T.str)) o, .d (.t (.int W)) false, .d (.t (.int M)) false, .d (.t (.int b)) true, .d (.t f.enc) true, k8, k9, k10, k11]) := by
    intro N o hN
    obtain ⟨k, x, ps, he, hq⟩ := end_by_ex b N W M hN hW hW2 hM
    have h0 : PlOk N W M 0 (.e k x ps) := by
      have := end_sz he
      refine ⟨by simpa only [F.all] using he, ?_, ?_, rfl, ?_, by simp [F.cnt]⟩
      · simp [F.dep]
      · simp [F.sz]; exact this
      · simp [F.wid]
    obtain ⟨ρ', e, f, k8, k9, k10, k11, rfl, hf⟩ := forR_rng (j := 8) (lo := 1) (n := n - 1) (body := (seqO (setO 9 (b2 addD (ap m_law_cell_at (cA (rdE 0) (cA (b2 addD (rdE 1) (rdE 8)) nA))) (b2 mulD (kI 104729) (rdE 8))))
    (seqO (setO 10 (ap m_law_end_by (cA (b2 divD (rdE 9) (kI 9)) (cA (rdE 3) (cA (rdE 4) (cA (rdE 5) nA))))))
    (seqO (setO 11 (b2 modD (rdE 9) (kI 9)))
    (seqO (ifO (tV (b2 ltD (rdE 11) (kI 2))) (setO 7 (ap mkTup (cA (b2 ixD (ap mkLst (cA (kS "and") (cA (kS "or") nA))) (rdE 11)) (cA (ap mkTup (cA (rdE 7) (cA (rdE 10) nA))) nA)))) nxO)
    (seqO (ifO (tV (b2 eqD (rdE 11) (kI 2))) (setO 7 (ap mkTup (cA (kS "or") (cA (ap mkTup (cA (ap mkTup (cA (kS "not") (cA (rdE 7) nA))) (cA (rdE 10) nA))) nA)))) nxO)
    (seqO (ifO (tV (b2 eqD (rdE 11) (kI 3))) (setO 7 (ap mkTup (cA (kS "not") (cA (ap mkTup (cA (kS "and") (cA (ap mkTup (cA (rdE 10) (cA (rdE 7) (cA (ap mkTup (cA (kS "and") (cA (ap mkTup nA) nA))) nA)))) nA))) nA)))) nxO)
    (seqO (ifO (tV (b2 eqD (rdE 11) (kI 4))) (setO 7 (ap mkTup (cA (kS "and") (cA (ap mkTup (cA (ap mkTup (cA (kS "or") (cA (ap mkTup (cA (rdE 10) (cA (rdE 7) nA))) nA))) (cA (ap mkTup (cA (kS "not") (cA (rdE 10) nA))) nA))) nA)))) nxO)
    (seqO (ifO (tV (b2 eqD (rdE 11) (kI 5))) (setO 7 (ap mkTup (cA (kS "or") (cA (ap mkTup (cA (rdE 10) (cA (ap mkTup (cA (kS "or") (cA (ap mkTup nA) nA))) (cA (rdE 7) nA)))) nA)))) nxO)
    (seqO (ifO (tV (b2 eqD (rdE 11) (kI 6))) (setO 7 (ap mkTup (cA (kS "and") (cA (ap mkTup (cA (ap mkTup (cA (kS "not") (cA (ap mkTup (cA (kS "not") (cA (rdE 7) nA))) nA))) (cA (ap mkTup (cA (kS "not") (cA (rdE 10) nA))) nA))) nA)))) nxO)
    (seqO (ifO (tV (b2 eqD (rdE 11) (kI 7))) (setO 7 (ap mkTup (cA (kS "and") (cA (ap mkTup (cA (ap mkTup (cA (kS "or") (cA (ap mkTup (cA (rdE 7) nA)) nA))) (cA (ap mkTup (cA (kS "or") (cA (ap mkTup (cA (ap mkTup (cA (kS "and") (cA (ap mkTup (cA (rdE 10) nA)) nA))) nA)) nA))) nA))) nA)))) nxO)
    (ifO (tV (b2 eqD (rdE 11) (kI 8))) (setO 7 (ap mkTup (cA (b2 ixD (ap mkLst (cA (kS "and") (cA (kS "or") nA))) (b2 modD (b2 divD (rdE 9) (kI 9)) (kI 2))) (cA (b2 addD (ap mkTup (cA (rdE 10) (cA (rdE 10) (cA (rdE 7) nA)))) (b2 mulD (ap mkTup (cA (rdE 10) nA)) (b2 addD (kI 1) (b2 modD (b2 divD (rdE 9) (kI 18)) (kI 18))))) nA)))) nxO))))))))))))
      (ρ := [.d (.scr ns) false, .d (.t (.int a)) false, .d (.t (.int n)) false, .d (.lst (N.map T.str)) o, .d (.t (.int W)) false, .d (.t (.int M)) false, .d (.t (.int b)) true, .d (.t (F.e k x ps).enc) true, .un, .un, .un, .un])
      (fun i ρ => ∃ (f : F) (k8 k9 k10 k11 : Sl), ρ = [.d (.scr ns) false, .d (.t (.int a)) false, .d (.t (.int n)) false, .d (.lst (N.map T.str)) o, .d (.t (.int W)) false, .d (.t (.int M)) false, .d (.t (.int b)) true, .d (.t f.enc) true, k8, k9, k10, k11] ∧ PlOk N W M i f)
      (fun i ρ hi ⟨f, k8, k9, k10, k11, e, hf⟩ => by
        subst e
        obtain ⟨f', l8, l9, l10, l11, h1, h2⟩ := plain_step (ns := ns) (a := a) (n := n) (o := o) (b := b) (k8 := k8) (k9 := k9) (k10 := k10) (k11 := k11) (j := 1 + i) hN hW hW2 hM i rfl hf
        refine ⟨_, ?_, f', l8, l9, l10, l11, rfl, h2⟩
        have ei : (1 : Int) + ((i : Nat) : Int) = ((1 + i : Nat) : Int) := by omega
        rw [ei]
        exact h1) ⟨_, .un, .un, .un, .un, rfl, h0⟩
    exact ⟨f, hf, _, k8, k9, k10, k11, hq, e⟩
  by_cases c1 : b % 13 = 12
  · obtain ⟨f, h1, g, k8, k9, k10, k11, h2, h3⟩ := key [] true (by simp)
    exact ⟨f, h1.names, by simp only [List.map_nil] at h2 h3; simp [hc, c0, c1, h2, h3, hn2, retN]⟩
  · obtain ⟨f, h1, g, k8, k9, k10, k11, h2, h3⟩ := key N false hN
    exact ⟨f, h1, by simp [hc, c0, c1, h2, h3, hn2, retN]⟩
end Pf

set_option Elab.async false
set_option linter.all false
set_option maxRecDepth 100000
set_option maxHeartbeats 4000000
namespace Pf
open PySem L2
/-! ## names that stand free -/
theorem bound_by_ex (c : Int) (f : F) (N : List Str) (h4 : N.length = 4) : ∃ g : F, m_law_bound_by [.t (.int c), .t f.enc, .lst (N.map T.str)] = .ok (.t g.enc) ∧ g.dep ≤ f.dep + 5 ∧ g.sz ≤ 2 * f.sz ∧ (∀ P, f.all P → g.all P) ∧ g.plain = false ∧ g.wid ≤ max 2 f.wid := by
  have hix : ixD (.lst (N.map T.str)) (.t (.int (c / 2 % 4))) = .ok (.t (.str (N[(c / 2 % 4).toNat]'(by omega)))) := by
    rw [ix_l, atI_pos _ (by omega), List.getElem?_map, List.getElem?_eq_getElem (by omega)]
    rfl
  generalize hx : N[(c / 2 % 4).toNat]'(by omega) = x at hix
  have hq : ∃ b : Bool, ixD (.lst [.str "some", .str "all"]) (.t (.int (c % 2))) = .ok (.t (.str (qw b))) := by
    have h2 : c % 2 = 0 ∨ c % 2 = 1 := by omega
    rcases h2 with h | h
    · exact ⟨true, by simp [h]⟩
    · exact ⟨false, by simp [h]⟩
  obtain ⟨b, hb⟩ := hq
  unfold m_law_bound_by g_law_bound_by
  rw [runDef_Rt]
  have h4 : c / 8 % 4 = 0 ∨ c / 8 % 4 = 1 ∨ c / 8 % 4 = 2 ∨ c / 8 % 4 = 3 := by omega
  rcases h4 with h | h | h | h
  · refine ⟨.qn b x f, by simp [hix, hb, h, F.enc, retN], ?_, ?_, ?_, ?_, ?_⟩
    · simp only [F.dep]; omega
    · simp only [F.sz]; omega
    · intro P q; simpa only [F.all] using q
    · rfl
    · simp only [F.wid]; omega
  · refine ⟨.nt (.qn b x f), by simp [hix, hb, h, F.enc], ?_, ?_, ?_, ?_, ?_⟩
    · simp only [F.dep]; omega
    · simp only [F.sz]; omega
    · intro P q; simpa only [F.all] using q
    · rfl
    · simp only [F.wid]; omega
  · refine ⟨.nd true [f, .qn b x f], by simp [hix, hb, h, F.enc, F.encs], ?_, ?_, ?_, ?_, ?_⟩
    · simp only [F.dep, F.deps]; omega
    · simp only [F.sz, F.szs]; omega
    · intro P q; simp only [F.all, F.alls]; exact ⟨q, q, trivial⟩
    · simp [F.plain, F.plains]
    · simp only [F.wid, F.wids, List.length_cons, List.length_nil]; omega
  · refine ⟨.nd false [.nd true [], .nt (.nd false [.qn b x f, f])], by simp [hix, hb, h, F.enc, F.encs], ?_, ?_, ?_, ?_, ?_⟩
    · simp only [F.dep, F.deps]; omega
    · simp only [F.sz, F.szs]; omega
    · intro P q; simp only [F.all, F.alls]; exact ⟨trivial, ⟨q, q, trivial⟩, trivial⟩
    · simp [F.plain, F.plains]
    · simp only [F.wid, F.wids, List.length_cons, List.length_nil]; omega
mutual
def F.free : F → List Str → List Str
  | .e _ _ ps, bs => (ps.filter fun p => !decide (p.1 ∈ bs)).map (·.1)
  | .nt f, bs => f.free bs
  | .nd _ fs, bs => F.frees fs bs
  | .qn _ x f, bs => f.free (bs ++ [x])
def F.frees : List F → List Str → List Str
  | [], _ => []
  | f :: fs, bs => f.free bs ++ F.frees fs bs
end
mutual
/-- .. as the law goes along them -/
def F.lfree : F → List Str → List Str
  | .e _ _ ps, bs => (ps.filter fun p => !decide (p.1 ∈ bs)).map (·.1)
  | .nt f, bs => f.lfree bs
  | .nd _ fs, bs => F.lfrees fs bs []
  | .qn _ x f, bs => f.lfree (bs ++ [x])
def F.lfrees : List F → List Str → List Str → List Str
  | [], _, acc => acc
  | f :: fs, bs, acc => F.lfrees fs bs (acc ++ (f.lfree bs).filter fun s => !decide (s ∈ acc))
end
mutual
theorem free_len : ∀ (f : F) (bs : List Str), (f.free bs).length ≤ f.sz
  | .e _ _ ps, bs => by simp only [F.free, F.sz, List.length_map]; exact List.length_filter_le _ _
  | .nt f, bs => by simp only [F.free, F.sz]; exact free_len f bs
  | .nd _ fs, bs => by simp only [F.free, F.sz]; exact frees_len fs bs
  | .qn _ x f, bs => by simp only [F.free, F.sz]; exact free_len f _
theorem frees_len : ∀ (fs : List F) (bs : List Str), (F.frees fs bs).length ≤ F.szs fs
  | [], bs => by simp [F.frees]
  | f :: fs, bs => by simp only [F.frees, F.szs, List.length_append]; exact Nat.add_le_add (free_len f bs) (frees_len fs bs)
end
mutual
theorem lfree_len : ∀ (f : F) (bs : List Str), (f.lfree bs).length ≤ f.sz
  | .e _ _ ps, bs => by simp only [F.lfree, F.sz, List.length_map]; exact List.length_filter_le _ _
  | .nt f, bs => by simp only [F.lfree, F.sz]; exact lfree_len f bs
  | .nd _ fs, bs => by
    simp only [F.lfree, F.sz]
    have := lfrees_len fs bs []
    simpa using this
  | .qn _ x f, bs => by simp only [F.lfree, F.sz]; exact lfree_len f _
theorem lfrees_len : ∀ (fs : List F) (bs acc : List Str), (F.lfrees fs bs acc).length ≤ acc.length + F.szs fs
  | [], bs, acc => by simp [F.lfrees]
  | f :: fs, bs, acc => by
    simp only [F.lfrees, F.szs]
    have h1 := lfrees_len fs bs (acc ++ (f.lfree bs).filter fun s => !decide (s ∈ acc))
    have h2 := lfree_len f bs
    have h3 := List.length_filter_le (fun s => !decide (s ∈ acc)) (f.lfree bs)
    rw [List.length_append] at h1
    omega
end
mutual
theorem lfree_mem (s : Str) : ∀ (f : F) (bs : List Str), s ∈ f.lfree bs ↔ s ∈ f.free bs
  | .e _ _ ps, bs => by simp only [F.lfree, F.free]
  | .nt f, bs => by simp only [F.lfree, F.free]; exact lfree_mem s f bs
  | .nd _ fs, bs => by
    simp only [F.lfree, F.free]
    rw [lfrees_mem s fs bs []]; simp
  | .qn _ x f, bs => by simp only [F.lfree, F.free]; exact lfree_mem s f _
theorem lfrees_mem (s : Str) : ∀ (fs : List F) (bs acc : List Str), s ∈ F.lfrees fs bs acc ↔ s ∈ acc ∨ s ∈ F.frees fs bs
  | [], bs, acc => by simp [F.lfrees, F.frees]
  | f :: fs, bs, acc => by
    simp only [F.lfrees, F.frees]
    rw [lfrees_mem s fs bs, List.mem_append, List.mem_append, List.mem_filter, lfree_mem s f bs]
    by_cases h : s ∈ acc <;> simp [h]
end
mutual
theorem free_sub : ∀ (f : F) (bs : List Str) (N : List Str), f.all (fun _ _ ps => ∀ p ∈ ps, p.1 ∈ N) → ∀ s ∈ f.free bs, s ∈ N
  | .e _ _ ps, bs, N, h, s, q => by
    simp only [F.free, F.all] at h q
    obtain ⟨p, hp, rfl⟩ := List.mem_map.mp q
    exact h p (List.mem_filter.mp hp).1
  | .nt f, bs, N, h, s, q => by simp only [F.free, F.all] at h q; exact free_sub f bs N h s q
  | .nd _ fs, bs, N, h, s, q => by simp only [F.free, F.all] at h q; exact frees_sub fs bs N h s q
  | .qn _ x f, bs, N, h, s, q => by simp only [F.free, F.all] at h q; exact free_sub f _ N h s q
theorem frees_sub : ∀ (fs : List F) (bs : List Str) (N : List Str), F.alls (fun _ _ ps => ∀ p ∈ ps, p.1 ∈ N) fs → ∀ s ∈ F.frees fs bs, s ∈ N
  | [], bs, N, h, s, q => by simp [F.frees] at q
  | f :: fs, bs, N, h, s, q => by
    simp only [F.frees, F.alls] at h q
    rcases List.mem_append.mp q with q | q
    · exact free_sub f bs N h.1 s q
    · exact frees_sub fs bs N h.2 s q
end
theorem flat_strs : ∀ bs : List Str, (bs.map T.str).all flatT = true
  | [] => rfl
  | b :: bs => by simp [flatT]
theorem any_strs (s : Str) : ∀ bs : List Str, (bs.map T.str).any (fun y => eqvT y (.str s)) = decide (s ∈ bs)
  | [] => by simp
  | b :: bs => by
    rw [List.map_cons, List.any_cons, any_strs s bs]
    by_cases h : b = s
    · subst h; simp [eqvT]
    · have h' : ¬ s = b := fun e => h e.symm
      simp [eqvT, h, h']
@[simp] theorem nin_strs (s : Str) (bs : List Str) : ninD (.t (.str s)) (.lst (bs.map T.str)) = .ok (.t (.bl (!decide (s ∈ bs)))) := by
  have h : inB (.t (.str s)) (.lst (bs.map T.str)) = some (decide (s ∈ bs)) := by
    simp only [inB, flat_strs, any_strs, flatT, Bool.and_self, if_true]
  simp only [ninD, h]
@[simp] theorem add_strs (a b : List Str) (h : a.length + b.length ≤ 16777216) : addD (.lst (a.map T.str)) (.lst (b.map T.str)) = .ok (.lst ((a ++ b).map T.str)) := by
  simp only [addD, List.length_map, if_pos h, List.map_append]
@[simp] theorem add_strs1 (a : List Str) (b : Str) (h : a.length < 16777216) : addD (.lst (a.map T.str)) (.lst [.str b]) = .ok (.lst ((a ++ [b]).map T.str)) := by
  have := add_strs a [b] (by simp only [List.length_cons, List.length_nil]; omega)
  simpa using this
@[simp] theorem back2 {α : Type} (a b : α) : atI [a, b] (-1) = some b := id rfl
@[simp] theorem back3 {α : Type} (a b c : α) : atI [a, b, c] (-1) = some c := id rfl
theorem end_free (ps : Prs) (bs : List Str) (a b d e : Sl) (o : Bool) (r : Ev) :
    lcR 5 (tV (b2 ninD (b2 ixD (rdE 5) (kI 0)) (rdE 1))) (b2 ixD (rdE 5) (kI 0)) (a :: .d (.lst (bs.map T.str)) o :: b :: d :: e :: .un :: r) (ps.map prT) = .ok ((ps.filter fun p => !decide (p.1 ∈ bs)).map (T.str ∘ fun x => x.1)) :=
  lcR_map (j := 5) prT (fun p => !decide (p.1 ∈ bs)) (T.str ∘ fun x => x.1) ps (fun p hp => ⟨by simp [prT], fun _ => by simp [prT]⟩)
theorem free_in_eq : ∀ (n : Nat) (f : F) (bs : List Str), f.dep ≤ n → f.sz ≤ 16777216 → bs.length + f.dep ≤ 1000 → m_free_in n [.t f.enc, .lst (bs.map T.str)] = .ok (.lst ((f.free bs).map T.str))
  | 0, f, bs, h, _, _ => by cases f <;> simp [F.dep] at h
  | n + 1, f, bs, h, hz, hb => by
    unfold m_free_in g_free_in
    rw [runDef_Rt]
    cases f with
    | e k x ps =>
      simp only [F.sz] at hz
      cases k <;> simp [F.enc, F.free, smT, hz, end_free]
    | nt f =>
      simp only [F.dep, F.sz] at h hz hb
      have := free_in_eq n f bs (by omega) hz (by omega)
      simp [F.enc, F.free, this]
    | qn b x f =>
      simp only [F.dep, F.sz] at h hz hb
      have := free_in_eq n f (bs ++ [x]) (by omega) hz (by simp only [List.length_append, List.length_cons, List.length_nil]; omega)
      have hl : bs.length < 16777216 := by omega
      simp only [List.map_append, List.map_cons, List.map_nil] at this
      cases b <;> simp [F.enc, F.free, this, hl]
    | nd b fs =>
      simp only [F.dep, F.sz] at h hz hb
      have key : ∀ (gs : List F) (acc : List Str) (s2 k4 : Sl), (∀ g ∈ gs, g ∈ fs) → acc.length + (F.frees gs bs).length ≤ 16777216 → ∃ k', forR 4 (extO 3 (ap (m_free_in n) (cA (rdE 4) (cA (rdE 1) nA)))) (F.encs gs) [.d (.t (F.enc (.nd b fs))) false, .d (.lst (bs.map T.str)) false, s2, .d (.lst (acc.map T.str)) true, k4, .un] = .ok (.nx [.d (.t (F.enc (.nd b fs))) false, .d (.lst (bs.map T.str)) false, s2, .d (.lst ((acc ++ F.frees gs bs).map T.str)) true, k', .un]) := by
        intro gs
        induction gs with
        | nil => intro acc s2 k4 _ _; exact ⟨k4, by simp [F.encs, F.frees]⟩
        | cons g gs ih =>
          intro acc s2 k4 hm hl
          have hg := hm g (by simp)
          have h1 := deps_mem hg
          have h2 := szs_mem hg
          have hr := free_in_eq n g bs (by omega) (by omega) (by omega)
          simp only [F.frees, List.length_append] at hl
          obtain ⟨k', e⟩ := ih (acc ++ g.free bs) s2 (.d (.t g.enc) true) (fun x hx => hm x (List.mem_cons_of_mem _ hx)) (by rw [List.length_append]; omega)
          have h3 : acc.length + (g.free bs).length ≤ 16777216 := by omega
          refine ⟨k', ?_⟩
          simp only [F.encs, F.frees, forR, List.set_cons_succ, List.set_cons_zero, extO, ap, cA, nA, rdE_0, rdE_s, R.ok_bind, hr, List.getElem?_cons_succ, List.getElem?_cons_zero, List.length_map, if_pos h3, ← List.map_append, e, List.append_assoc]
      have hl := frees_len fs bs
      have h4 := key fs [] (.d (.t (.str (bw b))) true) .un (fun g hg => hg) (by rw [List.length_nil]; omega)
      obtain ⟨k', e⟩ := h4
      simp only [F.enc, List.map_nil, List.nil_append] at e
      cases b <;> simp [F.enc, F.free, retN] at e ⊢ <;> simp [e]
theorem lfree_eq : ∀ (n : Nat) (f : F) (bs : List Str), f.dep ≤ n → f.sz ≤ 16777216 → bs.length + f.dep ≤ 1000 → m_law_free n [.t f.enc, .lst (bs.map T.str)] = .ok (.lst ((f.lfree bs).map T.str))
  | 0, f, bs, h, _, _ => by cases f <;> simp [F.dep] at h
  | n + 1, f, bs, h, hz, hb => by
    unfold m_law_free g_law_free
    rw [runDef_Rt]
    cases f with
    | e k x ps =>
      simp only [F.sz] at hz
      cases k <;> simp [F.enc, F.lfree, smT, hz, end_free]
    | nt f =>
      simp only [F.dep, F.sz] at h hz hb
      have := lfree_eq n f bs (by omega) hz (by omega)
      simp [F.enc, F.lfree, this]
    | qn b x f =>
      simp only [F.dep, F.sz] at h hz hb
      have := lfree_eq n f (bs ++ [x]) (by omega) hz (by simp only [List.length_append, List.length_cons, List.length_nil]; omega)
      have hl : bs.length < 16777216 := by omega
      simp only [List.map_append, List.map_cons, List.map_nil] at this
      cases b <;> simp [F.enc, F.lfree, this, hl]
    | nd b fs =>
      simp only [F.dep, F.sz] at h hz hb
      have key : ∀ (gs : List F) (acc : List Str) (s2 k4 : Sl), (∀ g ∈ gs, g ∈ fs) → acc.length + F.szs gs ≤ 16777216 → ∃ k', forR 4 (setO 3 (b2 addD (rdE 3) (lcN 6 (ap (m_law_free n) (cA (rdE 4) (cA (rdE 1) nA))) selL (tV (b2 ninD (rdE 6) (rdE 3))) (rdT 6)))) (F.encs gs) [.d (.t (F.enc (.nd b fs))) false, .d (.lst (bs.map T.str)) false, s2, .d (.lst (acc.map T.str)) true, k4, .un, .un] = .ok (.nx [.d (.t (F.enc (.nd b fs))) false, .d (.lst (bs.map T.str)) false, s2, .d (.lst ((F.lfrees gs bs acc).map T.str)) true, k', .un, .un]) := by
        intro gs
        induction gs with
        | nil => intro acc s2 k4 _ _; exact ⟨k4, by simp [F.encs, F.lfrees]⟩
        | cons g gs ih =>
          intro acc s2 k4 hm hl
          have hg := hm g (by simp)
          have h1 := deps_mem hg
          have h2 := szs_mem hg
          have hr := lfree_eq n g bs (by omega) (by omega) (by omega)
          have h5 := lfree_len g bs
          have h6 := List.length_filter_le (fun s => !decide (s ∈ acc)) (g.lfree bs)
          simp only [F.szs] at hl
          obtain ⟨k', e⟩ := ih (acc ++ (g.lfree bs).filter fun s => !decide (s ∈ acc)) s2 (.d (.t g.enc) true) (fun x hx => hm x (List.mem_cons_of_mem _ hx)) (by rw [List.length_append]; omega)
          have h3 : acc.length + ((g.lfree bs).filter fun s => !decide (s ∈ acc)).length ≤ 16777216 := by omega
          have hlc : lcR 6 (tV (b2 ninD (rdE 6) (rdE 3))) (rdT 6) [.d (.t (F.enc (.nd b fs))) false, .d (.lst (bs.map T.str)) false, s2, .d (.lst (acc.map T.str)) true, .d (.t g.enc) true, .un, .un] ((g.lfree bs).map T.str) = .ok (((g.lfree bs).filter fun s => !decide (s ∈ acc)).map T.str) := by
            refine lcR_map T.str _ _ _ fun s hs => ?_
            exact ⟨by simp, fun _ => by simp⟩
          refine ⟨k', ?_⟩
          simp only [F.encs, F.lfrees, forR, List.set_cons_succ, List.set_cons_zero, setO, b2, lcN, ap, cA, nA, rdE_0, rdE_s, R.ok_bind, hr, selL_l, List.length_map, if_pos (show (g.lfree bs).length ≤ 16777216 by omega), hlc, NR_ok, add_strs _ _ h3, e]
      have h4 := key fs [] (.d (.t (.str (bw b))) true) .un (fun g hg => hg) (by rw [List.length_nil]; omega)
      obtain ⟨k', e⟩ := h4
      simp only [F.enc, List.map_nil] at e
      cases b <;> simp [F.enc, F.lfree, retN, -lcN_eq] at e ⊢ <;> simp [e, -lcN_eq]
end Pf

set_option Elab.async false
set_option linter.all false
set_option maxRecDepth 100000
set_option maxHeartbeats 4000000
namespace Pf
open PySem L2
/-! ## what sums come to -/
def sv (f : Str → Int) : Prs → Int
  | [] => 0
  | p :: r => p.2 * f p.1 + sv f r
theorem sv_app (f : Str → Int) (a b : Prs) : sv f (a ++ b) = sv f a + sv f b := by
  induction a with
  | nil => simp [sv]
  | cons p r ih => simp only [List.cons_append, sv, ih]; omega
theorem sv_scale (f : Str → Int) (k : Int) (ps : Prs) : sv f (ps.map fun p => (p.1, k * p.2)) = k * sv f ps := by
  induction ps with
  | nil => simp [sv]
  | cons p r ih => simp only [List.map_cons, sv, ih, Int.mul_add, Int.mul_assoc]
theorem sv_without (f : Str → Int) (s : Str) (ps : Prs) : sv f (ps.filter fun p => !decide (p.1 = s)) = sv f ps - tot s ps * f s := by
  induction ps with
  | nil => simp [sv, tot]
  | cons p r ih =>
    by_cases h : p.1 = s
    · subst h
      have e : sv f (p :: r) = p.2 * f p.1 + sv f r := rfl
      have e2 : tot p.1 (p :: r) = p.2 + tot p.1 r := by simp [tot]
      rw [List.filter_cons_of_neg (by simp), ih, e, e2, Int.add_mul]; omega
    · have e : sv f (p :: r) = p.2 * f p.1 + sv f r := rfl
      have e2 : tot s (p :: r) = tot s r := by simp [tot, h]
      rw [List.filter_cons_of_pos (by simp [h]), e, e2]
      show p.2 * f p.1 + sv f _ = _
      rw [ih]; omega
def sgm (g : Str → Int) : List Str → Int
  | [] => 0
  | s :: r => g s + sgm g r
theorem sgm_one (g : Str → Int) (x : Str) : ∀ N : List Str, N.Nodup → x ∈ N → sgm (fun s => if x = s then g s else 0) N = g x := by
  have hz : ∀ N : List Str, x ∉ N → sgm (fun s => if x = s then g s else 0) N = 0 := by
    intro N
    induction N with
    | nil => intro _; rfl
    | cons y r ih =>
      intro h
      have h1 : ¬ x = y := fun e => h (by simp [e])
      simp only [sgm, if_neg h1, ih (fun q => h (List.mem_cons_of_mem _ q))]; rfl
  intro N
  induction N with
  | nil => intro _ h; simp at h
  | cons y r ih =>
    intro hd hm
    obtain ⟨h1, h2⟩ := List.nodup_cons.mp hd
    by_cases e : x = y
    · subst e
      simp only [sgm, if_true, hz r h1]; omega
    · rcases List.mem_cons.mp hm with q | q
      · exact absurd q e
      · simp only [sgm, if_neg e, ih h2 q]; omega
theorem sgm_add (g h : Str → Int) : ∀ N, sgm (fun s => g s + h s) N = sgm g N + sgm h N
  | [] => rfl
  | s :: r => by simp only [sgm, sgm_add g h r]; omega
theorem sgm_tot (f : Str → Int) (N : List Str) (hd : N.Nodup) : ∀ ps : Prs, (∀ p ∈ ps, p.1 ∈ N) → sgm (fun s => tot s ps * f s) N = sv f ps
  | [], _ => by
    have e : (fun s => tot s [] * f s) = fun _ => (0 : Int) := by funext s; simp [tot]
    have this : ∀ N : List Str, sgm (fun _ => (0 : Int)) N = 0 := fun N => by
      induction N with
      | nil => rfl
      | cons x r ih => simp only [sgm, ih]; rfl
    rw [e]
    rw [this]; rfl
  | p :: r, h => by
    have ih := sgm_tot f N hd r fun q hq => h q (List.mem_cons_of_mem _ hq)
    have h1 := sgm_one (fun s => p.2 * f s) p.1 N hd (h p (by simp))
    have e : (fun s => tot s (p :: r) * f s) = fun s => (if p.1 = s then p.2 * f s else 0) + tot s r * f s := by
      funext s
      by_cases q : p.1 = s
      · simp only [tot, if_pos q, Int.add_mul]
      · simp only [tot, if_neg q, Int.zero_add]
    rw [e, sgm_add, h1, ih]; rfl
theorem sv_filter (f : Str → Int) (g : Str → Int) : ∀ L : List Str, sv f ((L.filter fun s => decide (g s ≠ 0)).map fun s => (s, g s)) = sgm (fun s => g s * f s) L
  | [] => rfl
  | x :: r => by
    by_cases h : g x = 0
    · rw [List.filter_cons_of_neg (by simp [h]), sv_filter f g r]; simp [sgm, h]
    · rw [List.filter_cons_of_pos (by simp [h])]
      show g x * f x + sv f _ = _
      rw [sv_filter f g r]; rfl
theorem sv_norm (f : Str → Int) (ps : Prs) : sv f (norm ps) = sv f ps := by
  have hd : (srtS (onceS (ps.map (·.1)))).Nodup := (srtS_perm _).nodup_iff.mpr (onceS_nodup _)
  unfold norm
  rw [sv_filter f (fun s => tot s ps), sgm_tot f _ hd ps fun p hp => by
    rw [(srtS_perm _).mem_iff, onceS_mem]; exact List.mem_map_of_mem hp]
/-! ### the program's sums -/
theorem added_eq (n m : Int) (ps qs : Prs) (h : ps.length + qs.length < 64) : m_added [.t (smT n ps), .t (smT m qs)] = .ok (.t (smT (n + m) (norm (ps ++ qs)))) := by
  have e := made_eq (n + m) (ps ++ qs) (by rw [List.length_append]; exact h)
  rw [List.map_append] at e
  have ha : addD (.lst (ps.map prT)) (.lst (qs.map prT)) = .ok (.lst (ps.map prT ++ qs.map prT)) := by
    simp only [addD, List.length_map]; rw [if_pos (by omega)]
  unfold m_added g_added
  rw [runDef_Rt]
  have hs : ∀ k (rs : Prs), smT k rs = .tup [.int k, .tup (rs.map prT)] := fun _ _ => rfl
  rw [hs n ps, hs m qs]
  simp [ha, e]
theorem times_eq (k n : Int) (ps : Prs) (h : ps.length < 64) (h0 : mulOk k n = true) (hm : ∀ p ∈ ps, mulOk k p.2 = true) : m_times [.t (.int k), .t (smT n ps)] = .ok (.t (smT (k * n) (norm (ps.map fun p => (p.1, k * p.2))))) := by
  have e := made_eq (k * n) (ps.map fun p => (p.1, k * p.2)) (by rw [List.length_map]; exact h)
  have hl : ∀ ρ : Ev, rdE 0 ρ = .ok (.t (.int k)) → 2 < ρ.length → (∀ x, rdE 0 (ρ.set 2 x) = .ok (.t (.int k))) → (∀ x o, rdE 2 (ρ.set 2 (.d x o)) = .ok x) → lcR 2 yes (ap mkTup (cA (b2 ixD (rdE 2) (kI 0)) (cA (b2 mulD (rdE 0) (b2 ixD (rdE 2) (kI 1))) nA))) ρ (ps.map prT) = .ok ((ps.map fun p => (p.1, k * p.2)).map prT) := by
    intro ρ _ _ h3 h4
    have := lcR_map (j := 2) (c := yes) (el := ap mkTup (cA (b2 ixD (rdE 2) (kI 0)) (cA (b2 mulD (rdE 0) (b2 ixD (rdE 2) (kI 1))) nA))) (ρ := ρ) prT (fun _ => true) (fun p => prT (p.1, k * p.2)) ps (fun p hp => ⟨rfl, fun _ => by
      have hq : mulD (.t (.int k)) (.t (.int p.2)) = .ok (.t (.int (k * p.2))) := by simp only [mulD, if_pos (hm p hp)]
      simp [h3, h4, prT, hq]⟩)
    have ef : ps.filter (fun _ => true) = ps := by simp
    rw [ef] at this
    rw [this, List.map_map]; rfl
  have hq : mulD (.t (.int k)) (.t (.int n)) = .ok (.t (.int (k * n))) := by simp only [mulD, if_pos h0]
  unfold m_times g_times
  rw [runDef_Rt]
  have hs : ∀ k (rs : Prs), smT k rs = .tup [.int k, .tup (rs.map prT)] := fun _ _ => rfl
  have hl' := hl [.d (.t (.int k)) false, .d (.t (smT n ps)) false, .un] rfl (by simp) (fun x => rfl) (fun x o => rfl)
  rw [hs n ps] at hl' ⊢
  simp [hq, hl', e, show ps.length ≤ 16777216 by omega, -List.map_map]
theorem without_eq (n : Int) (s : Str) (ps : Prs) (h : ps.length < 64) : m_without [.t (smT n ps), .t (.str s)] = .ok (.t (smT n (ps.filter fun p => !decide (p.1 = s)))) := by
  have hl := lcR_map (j := 2) (c := tV (b2 neD (b2 ixD (rdE 2) (kI 0)) (rdE 1))) (el := rdT 2) (ρ := [.d (.t (smT n ps)) false, .d (.t (.str s)) false, .un]) prT (fun p => !decide (p.1 = s)) prT ps (fun p hp => ⟨by simp [prT], fun _ => by simp [prT]⟩)
  unfold m_without g_without
  rw [runDef_Rt]
  have hs : ∀ k (rs : Prs), smT k rs = .tup [.int k, .tup (rs.map prT)] := fun _ _ => rfl
  rw [hs n ps] at hl ⊢
  simp [hl, show ps.length ≤ 16777216 by omega, smT]
theorem put_in_eq (n m : Int) (s : Str) (ps qs : Prs) (h : ps.length + qs.length < 60) (hq : (norm (qs.map fun p => (p.1, vl ps s * p.2))).length + ps.length < 64) (h0 : mulOk (vl ps s) m = true) (hm : ∀ p ∈ qs, mulOk (vl ps s) p.2 = true) :
    m_put_in [.t (smT n ps), .t (.str s), .t (smT m qs)] = .ok (.t (smT (n + vl ps s * m) (norm ((ps.filter fun p => !decide (p.1 = s)) ++ norm (qs.map fun p => (p.1, vl ps s * p.2)))))) := by
  have h1 := without_eq n s ps (by omega)
  have h2 := share_eq n s ps
  have h3 := times_eq (vl ps s) m qs (by omega) h0 hm
  have h4 := added_eq n (vl ps s * m) (ps.filter fun p => !decide (p.1 = s)) (norm (qs.map fun p => (p.1, vl ps s * p.2))) (by
    have := List.length_filter_le (fun p : Str × Int => !decide (p.1 = s)) ps
    omega)
  unfold m_put_in g_put_in
  rw [runDef_Rt]
  simp [h1, h2, h3, h4]
/-! ### a sum's number -/
theorem lvalue_eq (n : Int) (ps : Prs) (kvs : Prs) (hk : ∀ p ∈ ps, p.1 ∈ kvs.map (·.1)) (hm : ∀ p ∈ ps, mulOk p.2 (vl kvs p.1) = true) : m_law_value [.t (smT n ps), .dct kvs] = .ok (.t (.int (n + sv (vl kvs) ps))) := by
  have key : ∀ (qs : Prs) (t : Int) (k : Sl), (∀ p ∈ qs, p ∈ ps) → ∃ k', forR 3 (setO 2 (b2 addD (rdE 2) (b2 mulD (b2 ixD (rdE 3) (kI 1)) (b2 dgetD (rdE 1) (b2 ixD (rdE 3) (kI 0)))))) (qs.map prT) [.d (.t (smT n ps)) false, .d (.dct kvs) false, .d (.t (.int t)) true, k] = .ok (.nx [.d (.t (smT n ps)) false, .d (.dct kvs) false, .d (.t (.int (t + sv (vl kvs) qs))) true, k']) := by
    intro qs
    induction qs with
    | nil => intro t k _; exact ⟨k, by simp [sv]⟩
    | cons p r ih =>
      intro t k hs
      have hp := hs p (by simp)
      obtain ⟨k', e⟩ := ih (t + p.2 * vl kvs p.1) (.d (.t (prT p)) true) (fun q hq => hs q (List.mem_cons_of_mem _ hq))
      have hd := dget_vl (hk p hp)
      have hq : mulD (.t (.int p.2)) (.t (.int (vl kvs p.1))) = .ok (.t (.int (p.2 * vl kvs p.1))) := by simp only [mulD, if_pos (hm p hp)]
      refine ⟨k', ?_⟩
      have e3 : t + p.2 * vl kvs p.1 + sv (vl kvs) r = t + sv (vl kvs) (p :: r) := by simp only [sv]; omega
      rw [e3] at e
      have hp' : prT p = .tup [.str p.1, .int p.2] := rfl
      rw [hp'] at e
      simp [forR, prT, hd, hq, e]
  obtain ⟨k', e⟩ := key ps n .un (fun p hp => hp)
  unfold m_law_value g_law_value
  rw [runDef_Rt]
  have hs : ∀ k (rs : Prs), smT k rs = .tup [.int k, .tup (rs.map prT)] := fun _ _ => rfl
  rw [hs n ps] at e ⊢
  simp [e, retN]
@[simp] theorem nin_dct (kvs : Prs) (s : Str) : ninD (.t (.str s)) (.dct kvs) = .ok (.t (.bl (!decide (s ∈ kvs.map (·.1))))) := by
  have h : inB (.t (.str s)) (.dct kvs) = some (decide (s ∈ kvs.map (·.1))) := by
    simp only [inB]
    congr 1
    by_cases q : s ∈ kvs.map (·.1)
    · obtain ⟨p, e⟩ := getS_some q
      unfold getS at e
      simp [e, q]
    · have e := getS_none q
      unfold getS at e
      simp [e, q]
  simp only [ninD, h]
theorem value_eq (n : Int) (ps : Prs) (kvs : Prs) (hm : ∀ p ∈ ps, mulOk p.2 (vl kvs p.1) = true) : m_value [.t (smT n ps), .dct kvs] = if ∀ p ∈ ps, p.1 ∈ kvs.map (·.1) then .ok (.t (.int (n + sv (vl kvs) ps))) else .raise 0 := by
  have key : ∀ (qs : Prs) (t : Int) (k : Sl), (∀ p ∈ qs, p ∈ ps) → Rt (seqO (forR 3 (seqO (ifO (tV (b2 ninD (b2 ixD (rdE 3) (kI 0)) (rdE 1))) (raiseO 0) nxO) (setO 2 (b2 addD (rdE 2) (b2 mulD (b2 ixD (rdE 3) (kI 1)) (b2 dgetD (rdE 1) (b2 ixD (rdE 3) (kI 0))))))) (qs.map prT)) (retN 2) [.d (.t (smT n ps)) false, .d (.dct kvs) false, .d (.t (.int t)) true, k]) = if ∀ p ∈ qs, p.1 ∈ kvs.map (·.1) then .ok (.t (.int (t + sv (vl kvs) qs))) else .raise 0 := by
    intro qs
    induction qs with
    | nil => intro t k _; simp [sv, retN]
    | cons p r ih =>
      intro t k hs
      have hp := hs p (by simp)
      have ih' := ih (t + p.2 * vl kvs p.1) (.d (.t (prT p)) true) (fun q hq => hs q (List.mem_cons_of_mem _ hq))
      have e3 : t + p.2 * vl kvs p.1 + sv (vl kvs) r = t + sv (vl kvs) (p :: r) := by simp only [sv]; omega
      rw [e3] at ih'
      by_cases hk : p.1 ∈ kvs.map (·.1)
      · have hd := dget_vl hk
        have hq : mulD (.t (.int p.2)) (.t (.int (vl kvs p.1))) = .ok (.t (.int (p.2 * vl kvs p.1))) := by simp only [mulD, if_pos (hm p hp)]
        have hc : (∀ q ∈ p :: r, q.1 ∈ kvs.map (·.1)) ↔ ∀ q ∈ r, q.1 ∈ kvs.map (·.1) := ⟨fun h q hq => h q (List.mem_cons_of_mem _ hq), fun h q hq => (List.mem_cons.mp hq).elim (fun e => e ▸ hk) (h q)⟩
        simp only [hc]
        rw [← ih']
        simp only [List.map_cons, forR, List.set_cons_succ, List.set_cons_zero, seqO, ifO, tV, b2, kI, rdE_0, rdE_s, R.ok_bind, setO]
        simp [prT, hk, hd, hq, -List.mem_map]
      · have hc : ¬ ∀ q ∈ p :: r, q.1 ∈ kvs.map (·.1) := fun h => hk (h p (by simp))
        rw [if_neg hc]
        simp only [List.map_cons, forR, List.set_cons_succ, List.set_cons_zero, seqO, ifO, tV, b2, kI, rdE_0, rdE_s, R.ok_bind, setO]
        simp [prT, hk, Rt, -List.mem_map]
  have k0 := key ps n .un (fun p hp => hp)
  unfold m_value g_value
  rw [runDef_Rt]
  have hs : ∀ k (rs : Prs), smT k rs = .tup [.int k, .tup (rs.map prT)] := fun _ _ => rfl
  rw [hs n ps] at k0 ⊢
  rw [← k0]
  simp
@[simp] theorem le_ss (i j : Str) : leD (.t (.str i)) (.t (.str j)) = .ok (.t (.bl (leS i j))) := id rfl
/-- names rising, each once, of N; shares not nought -/
structure Rg (N : List Str) (ps : Prs) : Prop where
  sub : (ps.map (·.1)).Sublist (srtS N)
  ne : ∀ p ∈ ps, p.2 ≠ 0
theorem Rg.mem {N : List Str} {ps : Prs} (h : Rg N ps) : ∀ p ∈ ps, p.1 ∈ N := fun p hp => (srtS_perm N).mem_iff.mp (h.sub.subset (List.mem_map_of_mem hp))
theorem Rg.nodup {N : List Str} {ps : Prs} (h : Rg N ps) (hd : N.Nodup) : (ps.map (·.1)).Nodup := h.sub.nodup ((srtS_perm N).nodup_iff.mpr hd)
theorem Rg.rise {N : List Str} {ps : Prs} (h : Rg N ps) (hd : N.Nodup) : ps.Pairwise fun a b => leS b.1 a.1 = false := by
  have h1 : (ps.map (·.1)).Pairwise fun a b => leS a b = true := (srtS_pw N).sublist h.sub
  have h2 : (ps.map (·.1)).Pairwise fun a b => a ≠ b := h.nodup hd
  have h3 : (ps.map (·.1)).Pairwise fun a b => leS b a = false := (h1.and h2).imp fun {a b} q => by
    cases e : leS b a with
    | false => rfl
    | true => exact absurd (leS_antisymm q.1 e) q.2
  exact List.pairwise_map.mp h3
theorem sum_is_eq (n : Int) (N N' : List Str) (ps : Prs) (h : Rg N' ps) (hd : N'.Nodup) (hsub : ∀ s ∈ N', s ∈ N) (hne : ∀ s ∈ N, s.cps.toList ≠ []) : m_law_sum_is [.t (smT n ps), .lst (N.map T.str)] = .ok (.t (.bl true)) := by
  have key : ∀ (qs : Prs) (last : Str) (k : Sl), (∀ p ∈ qs, p ∈ ps) → (∀ p ∈ qs, leS p.1 last = false) → qs.Pairwise (fun a b => leS b.1 a.1 = false) → ∃ last' k', forR 3 (seqO (ifO (tOr2 (tNot1 (tV (u1 (isiD "tuple") (rdE 3)))) (tOr2 (tV (b2 neD (ap lenD (cA (rdE 3) nA)) (kI 2))) (tNot1 (tV (u1 (isiD "str") (b2 ixD (rdE 3) (kI 0))))))) (retO (kB false)) nxO)
    (seqO (ifO (tOr2 (tNot1 (tV (ap m_law_whole (cA (b2 ixD (rdE 3) (kI 1)) nA)))) (tOr2 (tV (b2 eqD (b2 ixD (rdE 3) (kI 1)) (kI 0))) (tOr2 (tV (b2 leD (b2 ixD (rdE 3) (kI 0)) (rdE 2))) (tV (b2 ninD (b2 ixD (rdE 3) (kI 0)) (rdE 1)))))) (retO (kB false)) nxO)
    (setO 2 (b2 ixD (rdE 3) (kI 0))))) (qs.map prT) [.d (.t (smT n ps)) false, .d (.lst (N.map T.str)) false, .d (.t (.str last)) true, k] = .ok (.nx [.d (.t (smT n ps)) false, .d (.lst (N.map T.str)) false, .d (.t (.str last')) true, k']) := by
    intro qs
    induction qs with
    | nil => intro last k _ _ _; exact ⟨last, k, rfl⟩
    | cons p r ih =>
      intro last k hs hl hr
      obtain ⟨r1, r2⟩ := List.pairwise_cons.mp hr
      have hp := hs p (by simp)
      have h0 := hl p (by simp)
      have h1 := h.ne p hp
      have h2 := hsub _ (h.mem p hp)
      obtain ⟨last', k', e⟩ := ih p.1 (.d (.t (prT p)) true) (fun q hq => hs q (List.mem_cons_of_mem _ hq)) (fun q hq => r1 q hq) r2
      refine ⟨last', k', ?_⟩
      have hp' : prT p = .tup [.str p.1, .int p.2] := rfl
      rw [hp'] at e
      simp [forR, prT, h0, h1, h2, e]
  obtain ⟨last', k', e⟩ := key ps "" .un (fun p hp => hp) (fun p hp => by
    have hn := hne _ (hsub _ (h.mem p hp))
    have e0 : (("" : Str)).cps.toList = [] := by decide +kernel
    unfold leS
    rw [e0]
    cases q : p.1.cps.toList with
    | nil => exact absurd q hn
    | cons x xs => simp) (h.rise hd)
  unfold m_law_sum_is g_law_sum_is
  rw [runDef_Rt]
  have hs : ∀ k (rs : Prs), smT k rs = .tup [.int k, .tup (rs.map prT)] := fun _ _ => rfl
  rw [hs n ps] at e ⊢
  simp [e]
theorem rg_norm {N : List Str} {ps : Prs} (hd : N.Nodup) (h : ∀ p ∈ ps, p.1 ∈ N) : Rg N (norm ps) := by
  rw [norm_over hd h]
  refine ⟨?_, fun p hp => ?_⟩
  · rw [List.map_map]
    have e : ((srtS N).filter fun s => decide (tot s ps ≠ 0)).map ((·.1) ∘ fun s => (s, tot s ps)) = (srtS N).filter fun s => decide (tot s ps ≠ 0) := by
      conv => rhs; rw [← List.map_id ((srtS N).filter fun s => decide (tot s ps ≠ 0))]
      rfl
    rw [e]
    exact List.filter_sublist
  · obtain ⟨s, hs, rfl⟩ := List.mem_map.mp hp
    simpa using (List.mem_filter.mp hs).2
theorem rg_filter {N : List Str} {ps : Prs} (f : Str × Int → Bool) (h : Rg N ps) : Rg N (ps.filter f) :=
  ⟨(List.filter_sublist.map _).trans h.sub, fun p hp => h.ne p (List.mem_filter.mp hp).1⟩
theorem rg_sum {N : List Str} {W n : Int} {ps : Prs} (h : SumOk N W n ps) : Rg N ps := ⟨h.1, fun p hp => (h.2.2 p hp).1⟩
theorem tot_bound (s : Str) (B : Nat) : ∀ ps : Prs, (∀ p ∈ ps, p.2.natAbs ≤ B) → (tot s ps).natAbs ≤ ps.length * B
  | [], _ => by simp [tot]
  | p :: r, h => by
    have h1 := h p (by simp)
    have ih := tot_bound s B r fun q hq => h q (List.mem_cons_of_mem _ hq)
    simp only [tot, List.length_cons, Nat.succ_mul]
    split <;> omega
theorem norm_bound (B : Nat) (ps : Prs) (h : ∀ p ∈ ps, p.2.natAbs ≤ B) : ∀ p ∈ norm ps, p.2.natAbs ≤ ps.length * B := by
  intro p hp
  unfold norm at hp
  obtain ⟨s, _, rfl⟩ := List.mem_map.mp hp
  exact tot_bound s B ps h
theorem tot_at {ps : Prs} (hd : (ps.map (·.1)).Nodup) {p : Str × Int} (hp : p ∈ ps) : tot p.1 ps = p.2 := by
  induction ps with
  | nil => simp at hp
  | cons q r ih =>
    rw [List.map_cons, List.nodup_cons] at hd
    have hz : ∀ s, ¬ s ∈ r.map (·.1) → tot s r = 0 := fun s hs => by
      by_cases e : tot s r = 0
      · exact e
      · exact absurd (tot_mem e) hs
    rcases List.mem_cons.mp hp with rfl | hp
    · simp [tot, hz _ hd.1]
    · have hne : ¬ q.1 = p.1 := fun e => hd.1 (e ▸ List.mem_map_of_mem hp)
      simp only [tot, if_neg hne, ih hd.2 hp]; omega
theorem sameMap_self {kvs : Prs} (hd : (kvs.map (·.1)).Nodup) : sameMap kvs kvs = true := by
  have h : ∀ p ∈ kvs, kvs.find? (fun q => decide (q.1 = p.1)) = some p := by
    induction kvs with
    | nil => intro p hp; simp at hp
    | cons q r ih =>
      rw [List.map_cons, List.nodup_cons] at hd
      intro p hp
      rcases List.mem_cons.mp hp with rfl | hp
      · simp
      · have hne : ¬ q.1 = p.1 := fun e => hd.1 (e ▸ List.mem_map_of_mem hp)
        rw [List.find?_cons_of_neg (by simpa using hne)]
        exact ih hd.2 p hp
  unfold sameMap
  simp only [decide_true, Bool.true_and, List.all_eq_true, decide_eq_true_eq]
  exact h
theorem vl_tot {ps : Prs} (hd : (ps.map (·.1)).Nodup) (s : Str) : vl ps s = tot s ps := by
  by_cases h : s ∈ ps.map (·.1)
  · obtain ⟨p, e⟩ := getS_some h
    have hp : p ∈ ps := List.mem_of_find?_eq_some e
    have hs : p.1 = s := by simpa using List.find?_some e
    have : vl ps s = p.2 := by unfold vl; rw [e]
    rw [this, ← tot_at hd hp, hs]
  · have : vl ps s = 0 := by unfold vl; rw [getS_none h]
    rw [this]
    by_cases e : tot s ps = 0
    · exact e.symm
    · exact absurd (tot_mem e) h
theorem drop_l (xs : List T) : slD (.lst xs) (some 1) none = .ok (.lst (xs.drop 1)) := by
  simp only [slD, cutT]
  rw [show (some (1 : Int)) = some ((1 : Nat) : Int) from rfl, HT.sIx_nat, HT.sIx_none]
  congr 2
  cases xs with
  | nil => rfl
  | cons x r => simp
theorem mul_ok_v {i j : Int} (h1 : i.natAbs ≤ 10 ^ 70) (h2 : j.natAbs < 10 ^ 70) : mulOk i j = true := by
  have h3 : (10 : Nat) ^ 70 < 2 ^ 300 := by decide
  exact mulOk_big (m := 300) (by decide) (by omega) (by omega)
theorem sv_bound (f : Str → Int) (B D : Nat) (hf : ∀ s, (f s).natAbs ≤ D) : ∀ ps : Prs, (∀ p ∈ ps, p.2.natAbs ≤ B) → (sv f ps).natAbs ≤ ps.length * (B * D)
  | [], _ => by simp [sv]
  | p :: r, h => by
    have h1 : (p.2 * f p.1).natAbs ≤ B * D := by rw [Int.natAbs_mul]; exact Nat.mul_le_mul (h p (by simp)) (hf p.1)
    have ih := sv_bound f B D hf r fun q hq => h q (List.mem_cons_of_mem _ hq)
    simp only [sv, List.length_cons, Nat.succ_mul]
    omega
@[simp] theorem ix_sm0 (n : Int) (ps : Prs) : ixD (.t (smT n ps)) (.t (.int 0)) = .ok (.t (.int n)) := id rfl
@[simp] theorem ix_sm1 (n : Int) (ps : Prs) : ixD (.t (smT n ps)) (.t (.int 1)) = .ok (.t (.tup (ps.map prT))) := id rfl
theorem ne_self {kvs : Prs} (hd : (kvs.map (·.1)).Nodup) : neD (.dct kvs) (.dct kvs) = .ok (.t (.bl false)) := by
  simp only [neD, eqB, sameMap_self hd, if_true]; rfl
theorem good_int (i : Int) : m_law_alike 100 [.t (.int i), .t (.int i)] = .ok (.t (.bl true)) := alike_self 100 (.int i) rfl
end Pf

set_option Elab.async false
set_option linter.all false
set_option maxRecDepth 100000
set_option maxHeartbeats 4000000
namespace Pf
open PySem L2
/-! ## plain statements; ends put anew -/
theorem is_plain_eq : ∀ (n : Nat) (f : F), f.dep ≤ n → m_is_plain n [.t f.enc] = .ok (.t (.bl f.plain))
  | 0, f, h => by cases f <;> simp [F.dep] at h
  | n + 1, f, h => by
    unfold m_is_plain g_is_plain
    rw [runDef_Rt]
    cases f with
    | e k x ps => cases k <;> simp [F.enc, F.plain]
    | nt f =>
      simp only [F.dep] at h
      have := is_plain_eq n f (by omega)
      simp [F.enc, F.plain, this]
    | qn b x f => cases b <;> simp [F.enc, F.plain]
    | nd b fs =>
      simp only [F.dep] at h
      have key : ∀ (gs : List F) (s1 k : Sl), (∀ g ∈ gs, g ∈ fs) → (F.plains gs = true → ∃ k', forR 2 (ifO (tNot1 (tV (ap (m_is_plain n) (cA (rdE 2) nA)))) (retO (kB false)) nxO) (F.encs gs) [.d (.t (F.enc (.nd b fs))) false, s1, k] = .ok (.nx [.d (.t (F.enc (.nd b fs))) false, s1, k'])) ∧
          (F.plains gs = false → forR 2 (ifO (tNot1 (tV (ap (m_is_plain n) (cA (rdE 2) nA)))) (retO (kB false)) nxO) (F.encs gs) [.d (.t (F.enc (.nd b fs))) false, s1, k] = .ok (.rt (.t (.bl false)))) := by
        intro gs
        induction gs with
        | nil => intro s1 k _; exact ⟨fun _ => ⟨k, by simp [F.encs]⟩, fun q => by simp [F.plains] at q⟩
        | cons g gs ih =>
          intro s1 k hm
          have h1 := deps_mem (hm g (by simp))
          have hr := is_plain_eq n g (by omega)
          obtain ⟨i1, i2⟩ := ih s1 (.d (.t g.enc) true) (fun x hx => hm x (List.mem_cons_of_mem _ hx))
          cases hg : g.plain with
          | false =>
            refine ⟨fun q => by simp [F.plains, hg] at q, fun _ => ?_⟩
            simp [F.encs, forR, hr, hg]
          | true =>
            refine ⟨fun q => ?_, fun q => ?_⟩
            · obtain ⟨k', e⟩ := i1 (by simpa [F.plains, hg] using q)
              exact ⟨k', by simp [F.encs, forR, hr, hg, e]⟩
            · have e := i2 (by simpa [F.plains, hg] using q)
              simp [F.encs, forR, hr, hg, e]
      obtain ⟨k1, k2⟩ := key fs (.d (.t (.str (bw b))) true) .un (fun g hg => hg)
      cases hp : F.plains fs with
      | true =>
        obtain ⟨k', e⟩ := k1 hp
        simp only [F.enc] at e
        cases b <;> simp [F.enc, F.plain, hp] at e ⊢ <;> simp [e]
      | false =>
        have e := k2 hp
        simp only [F.enc] at e
        cases b <;> simp [F.enc, F.plain, hp] at e ⊢ <;> simp [e]
theorem need_plain_eq (f : F) (h : f.dep ≤ 60) : m_need_plain [.t f.enc] = if f.plain then .ok (.t .non) else .raise 1 := by
  have := is_plain_eq 60 f h
  unfold m_need_plain g_need_plain
  rw [runDef_Rt]
  cases hp : f.plain <;> simp [this, hp, Rt]
mutual
def F.rep (g : Int → Prs → Int × Prs) : F → F
  | .e k n ps => .e k (g n ps).1 (g n ps).2
  | .nt f => .nt (f.rep g)
  | .nd b fs => .nd b (F.reps g fs)
  | .qn b x f => .qn b x (f.rep g)
def F.reps (g : Int → Prs → Int × Prs) : List F → List F
  | [] => []
  | f :: fs => f.rep g :: F.reps g fs
end
theorem reps_map (g : Int → Prs → Int × Prs) : ∀ fs : List F, F.reps g fs = fs.map (F.rep g)
  | [] => rfl
  | f :: fs => by simp [F.reps, reps_map g fs]
theorem alls_mem {P : EK → Int → Prs → Prop} {f : F} : ∀ {fs : List F}, F.alls P fs → f ∈ fs → f.all P
  | g :: fs, h, hm => by
    simp only [F.alls] at h
    rcases List.mem_cons.mp hm with rfl | hm
    · exact h.1
    · exact alls_mem h.2 hm
theorem plains_mem {f : F} : ∀ {fs : List F}, F.plains fs = true → f ∈ fs → f.plain = true
  | g :: fs, h, hm => by
    simp only [F.plains, Bool.and_eq_true] at h
    rcases List.mem_cons.mp hm with rfl | hm
    · exact h.1
    · exact plains_mem h.2 hm
theorem wids_mem {f : F} : ∀ {fs : List F}, f ∈ fs → f.wid ≤ F.wids fs
  | g :: fs, h => by
    rcases List.mem_cons.mp h with rfl | h
    · exact Nat.le_max_left _ _
    · exact Nat.le_trans (wids_mem h) (Nat.le_max_right _ _)
/-- a sum with another sum in the place of x -/
def pin (x : Str) (m : Int) (qs : Prs) (n : Int) (ps : Prs) : Int × Prs := (n + tot x ps * m, norm ((ps.filter fun p => !decide (p.1 = x)) ++ norm (qs.map fun p => (p.1, tot x ps * p.2))))
/-- what an end must be, so that a sum can be put in -/
def PinOk (m : Int) (qs : Prs) (_ : EK) (_ : Int) (ps : Prs) : Prop := (ps.map (·.1)).Nodup ∧ ps.length < 20 ∧ ∀ p ∈ ps, p.2.natAbs ≤ 1000
theorem norm_len (ps : Prs) : (norm ps).length ≤ ps.length := by
  unfold norm
  rw [List.length_map]
  refine Nat.le_trans (List.length_filter_le _ _) ?_
  rw [(srtS_perm _).length_eq]
  have : ∀ l : List Str, (onceS l).length ≤ l.length := by
    intro l
    induction l with
    | nil => simp [onceS]
    | cons x r ih => unfold onceS; split <;> simp <;> omega
  simpa using this (ps.map (·.1))
theorem pin_eq (x : Str) (m n : Int) (qs ps : Prs) (k : EK) (hq : qs.length < 20) (h : PinOk m qs k n ps) : m_put_in [.t (smT n ps), .t (.str x), .t (smT m qs)] = .ok (.t (smT (pin x m qs n ps).1 (pin x m qs n ps).2)) := by
  obtain ⟨h1, h2, h3⟩ := h
  have hv := vl_tot h1 x
  have hb : (tot x ps).natAbs ≤ 20 * 1000 := Nat.le_trans (tot_bound x 1000 ps h3) (Nat.mul_le_mul_right _ (by omega))
  have := put_in_eq n m x ps qs (by omega) (by
    have := norm_len (qs.map fun p => (p.1, vl ps x * p.2))
    rw [List.length_map] at this; omega) (mulOk_l (by omega) (by omega)) (fun p hp => mulOk_l (by omega) (by omega))
  rw [this, hv]; rfl
theorem replaced_eq (x : Str) (m : Int) (qs : Prs) (hq : qs.length < 20) : ∀ (n : Nat) (f : F), f.dep ≤ n → f.plain = true → f.wid ≤ 16777216 → f.all (PinOk m qs) → m_replaced n [.t f.enc, .t (.str x), .t (smT m qs)] = .ok (.t (f.rep (pin x m qs)).enc)
  | 0, f, h, _, _, _ => by cases f <;> simp [F.dep] at h
  | n + 1, f, h, hp, hw, ha => by
    unfold m_replaced g_replaced
    rw [runDef_Rt]
    cases f with
    | e k y ps =>
      simp only [F.all] at ha
      have e := pin_eq x m y qs ps k hq ha
      cases k <;> simp [F.enc, F.rep, e]
    | nt f =>
      simp only [F.dep, F.plain, F.wid, F.all] at h hp hw ha
      have := replaced_eq x m qs hq n f (by omega) hp hw ha
      simp [F.enc, F.rep, this]
    | qn b y f => simp [F.plain] at hp
    | nd b fs =>
      simp only [F.dep, F.plain, F.wid, F.all] at h hp hw ha
      have hl : ∀ ρ : Ev, (∀ z o, rdE 4 (ρ.set 4 (.d z o)) = .ok z) → (∀ z, rdE 1 (ρ.set 4 z) = .ok (.t (.str x))) → (∀ z, rdE 2 (ρ.set 4 z) = .ok (.t (smT m qs))) → lcR 4 yes (ap (m_replaced n) (cA (rdE 4) (cA (rdE 1) (cA (rdE 2) nA)))) ρ (F.encs fs) = .ok (F.encs (F.reps (pin x m qs) fs)) := by
        intro ρ h1 h2 h3
        rw [encs_map, encs_map, reps_map]
        have := lcR_map (j := 4) (c := yes) (el := ap (m_replaced n) (cA (rdE 4) (cA (rdE 1) (cA (rdE 2) nA)))) (ρ := ρ) F.enc (fun _ => true) (fun f => (f.rep (pin x m qs)).enc) fs (fun f hf => ⟨rfl, fun _ => by
          have hd := deps_mem hf
          have hw2 := wids_mem hf
          have := replaced_eq x m qs hq n f (by omega) (plains_mem hp hf) (by omega) (alls_mem ha hf)
          simp only [ap, cA, nA, h1, h2, h3, R.ok_bind, this]⟩)
        have ef : fs.filter (fun _ => true) = fs := by simp
        rw [ef] at this
        rw [this, List.map_map]; rfl
      have hl' := hl [.d (.t (F.enc (.nd b fs))) false, .d (.t (.str x)) false, .d (.t (smT m qs)) false, .d (.t (.str (bw b))) true, .un] (fun z o => rfl) (fun z => rfl) (fun z => rfl)
      have hlen : (F.encs fs).length ≤ 16777216 := by rw [encs_len]; omega
      simp only [F.enc] at hl'
      cases b <;> simp [F.enc, F.rep, hlen] at hl' ⊢ <;> simp [hl']
end Pf

set_option Elab.async false
set_option linter.all false
set_option maxRecDepth 100000
set_option maxHeartbeats 4000000
namespace Pf
open PySem L2
theorem tot_scale (s : Str) (k : Int) (ps : Prs) : tot s (ps.map fun p => (p.1, k * p.2)) = k * tot s ps := by
  induction ps with
  | nil => simp [tot]
  | cons p r ih =>
    simp only [List.map_cons, tot, ih, Int.mul_add]
    by_cases h : p.1 = s <;> simp [h]
theorem tot_without (s x : Str) (ps : Prs) : tot s (ps.filter fun p => !decide (p.1 = x)) = if s = x then 0 else tot s ps := by
  induction ps with
  | nil => simp [tot]
  | cons p r ih =>
    by_cases h : p.1 = x
    · rw [List.filter_cons_of_neg (by simp [h]), ih]
      by_cases e : s = x
      · simp [e]
      · have : ¬ p.1 = s := fun q => e (by rw [← q, h])
        simp [e, tot, this]
    · rw [List.filter_cons_of_pos (by simp [h])]
      simp only [tot, ih]
      by_cases e : s = x
      · have : ¬ p.1 = s := fun q => h (by rw [q, e])
        simp [e]; intro q; exact absurd q h
      · simp [e]
theorem norm_keys_nodup (ps : Prs) : ((norm ps).map (·.1)).Nodup := by
  unfold norm
  rw [List.map_map]
  have e : ((srtS (onceS (ps.map (·.1)))).filter fun s => decide (tot s ps ≠ 0)).map ((·.1) ∘ fun s => (s, tot s ps)) = (srtS (onceS (ps.map (·.1)))).filter fun s => decide (tot s ps ≠ 0) := by
    conv => rhs; rw [← List.map_id ((srtS (onceS (ps.map (·.1)))).filter fun s => decide (tot s ps ≠ 0))]
    rfl
  rw [e]
  exact List.filter_sublist.nodup ((srtS_perm _).nodup_iff.mpr (onceS_nodup _))
theorem tot_norm (s : Str) (ps : Prs) : tot s (norm ps) = tot s ps := by
  rw [← vl_tot (norm_keys_nodup ps), vl_norm]
theorem norm_mem {ps : Prs} {p : Str × Int} (h : p ∈ norm ps) : p.1 ∈ ps.map (·.1) := by
  unfold norm at h
  obtain ⟨s, hs, rfl⟩ := List.mem_map.mp h
  have := (List.mem_filter.mp hs).1
  rwa [(srtS_perm _).mem_iff, onceS_mem] at this
/-- the share of s when x is put in -/
def pg (x : Str) (qs ps : Prs) (s : Str) : Int := (if s = x then 0 else tot s ps) + tot x ps * tot s qs
theorem pin_over (x : Str) (m n : Int) (qs ps : Prs) : (pin x m qs n ps).2 = ((srtS (onceS (ps.map (·.1) ++ qs.map (·.1)))).filter fun s => decide (pg x qs ps s ≠ 0)).map fun s => (s, pg x qs ps s) := by
  have ht : ∀ s, tot s ((ps.filter fun p => !decide (p.1 = x)) ++ norm (qs.map fun p => (p.1, tot x ps * p.2))) = pg x qs ps s := fun s => by
    rw [tot_app, tot_without, tot_norm, tot_scale]; rfl
  show norm _ = _
  rw [norm_over (onceS_nodup _) (N := onceS (ps.map (·.1) ++ qs.map (·.1))) (fun p hp => by
    rw [onceS_mem, List.mem_append]
    rcases List.mem_append.mp hp with q | q
    · exact .inl (List.mem_map_of_mem (List.mem_filter.mp q).1)
    · have := norm_mem q
      rw [List.map_map] at this
      exact .inr this)]
  simp only [ht]
end Pf

set_option Elab.async false
set_option linter.all false
set_option maxRecDepth 100000
set_option maxHeartbeats 4000000
namespace Pf
open PySem L2
/-! ## more of plain statements: alike, names taken -/
theorem Rt_seq {g1 g2 : Ev → R Out} {ρ ρ' : Ev} (h : g1 ρ = .ok (.nx ρ')) : Rt (seqO g1 g2 ρ) = Rt (g2 ρ') := by
  simp only [seqO, h, R.ok_bind]
theorem goodTs_map {α : Type} {n : Nat} (g : α → T) : ∀ xs : List α, (∀ x ∈ xs, goodT n (g x) = true) → goodTs n (xs.map g) = true
  | [], _ => rfl
  | x :: xs, h => by
    rw [List.map_cons]; unfold goodTs
    rw [h x (by simp), goodTs_map g xs fun y hy => h y (List.mem_cons_of_mem _ hy)]; rfl
theorem good_enc : ∀ (n : Nat) (f : F), 2 * f.dep + 3 ≤ n → f.wid ≤ 1000 → f.all (fun _ _ ps => ps.length ≤ 1000) → f.plain = true → goodT n f.enc = true
  | 0, f, h, _, _, _ => by omega
  | 1, f, h, _, _, _ => by omega
  | n + 2, f, h, hw, ha, hp => by
    cases f with
    | e k y ps =>
      simp only [F.all, F.dep] at ha h
      obtain ⟨m, rfl⟩ : ∃ m, n = m + 3 := ⟨n - 3, by omega⟩
      have := good_sm m y ps (by omega)
      cases k <;> simp [F.enc, goodT, goodTs, this]
    | nt f =>
      simp only [F.dep, F.plain, F.wid, F.all] at h hp hw ha
      have := good_enc (n + 1) f (by omega) hw ha hp
      simp [F.enc, goodT, goodTs, this]
    | qn b y f => simp [F.plain] at hp
    | nd b fs =>
      simp only [F.dep, F.plain, F.wid, F.all] at h hp hw ha
      have : goodTs n (F.encs fs) = true := by
        rw [encs_map]
        refine goodTs_map F.enc fs fun f hf => ?_
        have hd := deps_mem hf
        have hw2 := wids_mem hf
        exact good_enc n f (by omega) (by omega) (alls_mem ha hf) (plains_mem hp hf)
      have hl : (F.encs fs).length < 4611686018427387904 := by rw [encs_len]; omega
      simp [F.enc, goodT, goodTs, this, hl]
mutual
theorem rep_dep (g : Int → Prs → Int × Prs) : ∀ f : F, (f.rep g).dep = f.dep
  | .e _ _ _ => rfl
  | .nt f => by simp only [F.rep, F.dep, rep_dep g f]
  | .nd _ fs => by simp only [F.rep, F.dep, reps_dep g fs]
  | .qn _ _ f => by simp only [F.rep, F.dep, rep_dep g f]
theorem reps_dep (g : Int → Prs → Int × Prs) : ∀ fs : List F, F.deps (F.reps g fs) = F.deps fs
  | [] => rfl
  | f :: fs => by simp only [F.reps, F.deps, rep_dep g f, reps_dep g fs]
end
mutual
theorem rep_wid (g : Int → Prs → Int × Prs) : ∀ f : F, (f.rep g).wid = f.wid
  | .e _ _ _ => rfl
  | .nt f => by simp only [F.rep, F.wid, rep_wid g f]
  | .nd _ fs => by
    have h := reps_wid g fs
    simp only [F.rep, F.wid, h]
    rw [reps_map, List.length_map]
  | .qn _ _ f => by simp only [F.rep, F.wid, rep_wid g f]
theorem reps_wid (g : Int → Prs → Int × Prs) : ∀ fs : List F, F.wids (F.reps g fs) = F.wids fs
  | [] => rfl
  | f :: fs => by simp only [F.reps, F.wids, rep_wid g f, reps_wid g fs]
end
mutual
theorem rep_plain (g : Int → Prs → Int × Prs) : ∀ f : F, (f.rep g).plain = f.plain
  | .e _ _ _ => rfl
  | .nt f => by simp only [F.rep, F.plain, rep_plain g f]
  | .nd _ fs => by simp only [F.rep, F.plain, reps_plain g fs]
  | .qn _ _ f => rfl
theorem reps_plain (g : Int → Prs → Int × Prs) : ∀ fs : List F, F.plains (F.reps g fs) = F.plains fs
  | [] => rfl
  | f :: fs => by simp only [F.reps, F.plains, rep_plain g f, reps_plain g fs]
end
mutual
theorem rep_all {g : Int → Prs → Int × Prs} {P Q : EK → Int → Prs → Prop} (h : ∀ k n ps, P k n ps → Q k (g n ps).1 (g n ps).2) : ∀ f : F, f.all P → (f.rep g).all Q
  | .e k n ps, q => by simp only [F.rep, F.all] at q ⊢; exact h k n ps q
  | .nt f, q => by simp only [F.rep, F.all] at q ⊢; exact rep_all h f q
  | .nd _ fs, q => by simp only [F.rep, F.all] at q ⊢; exact reps_all h fs q
  | .qn _ _ f, q => by simp only [F.rep, F.all] at q ⊢; exact rep_all h f q
theorem reps_all {g : Int → Prs → Int × Prs} {P Q : EK → Int → Prs → Prop} (h : ∀ k n ps, P k n ps → Q k (g n ps).1 (g n ps).2) : ∀ fs : List F, F.alls P fs → F.alls Q (F.reps g fs)
  | [], _ => by simp only [F.reps, F.alls]
  | f :: fs, q => by simp only [F.reps, F.alls] at q ⊢; exact ⟨rep_all h f q.1, reps_all h fs q.2⟩
end
theorem take_l (xs : List T) (k : Nat) : slD (.lst xs) none (some (k : Int)) = .ok (.lst (xs.take k)) := by
  simp only [slD, cutT]
  rw [HT.sIx_nat, HT.sIx_none]
  congr 2
  simp [List.take_eq_take_iff]
@[simp] theorem take_l3 (xs : List T) : slD (.lst xs) none (some 3) = .ok (.lst (xs.take 3)) := take_l xs 3
theorem sset_eq (l : List Str) (h : l.length < 4000) (h2 : (onceS l).length < 64) : ssetD (.lst (l.map T.str)) = .ok (.lst ((srtS (onceS l)).map T.str)) := by
  simp only [ssetD, asStrs_map]
  rw [if_pos ⟨h, h2⟩]
theorem once_len : ∀ l : List Str, (onceS l).length ≤ l.length
  | [] => by simp [onceS]
  | x :: r => by have := once_len r; unfold onceS; split <;> simp <;> omega
@[simp] theorem pow_10_12 : powD (.t (.int 10)) (.t (.int 12)) = .ok (.t (.int 1000000000000)) := by
  simp only [powD]; rw [if_pos (by decide)]; rfl
/-- all but the last -/
theorem cut_2 (a b : T) : slD (.t (.tup [a, b])) none (some (-1)) = .ok (.t (.tup [a])) := by rfl
theorem cut_3 (a b c : T) : slD (.t (.tup [a, b, c])) none (some (-1)) = .ok (.t (.tup [a, b])) := by rfl
theorem cell_s (ns : List Int) (k : Nat) : m_law_cell_at [.scr ns, .t (.int (k : Int))] = .ok (.t (.int (cell ns k))) := cell_at
theorem ix_name {N : List Str} (h4 : N.length = 4) (c : Int) : ∃ x ∈ N, ixD (.lst (N.map T.str)) (.t (.int (c % 4))) = .ok (.t (.str x)) := by
  refine ⟨N[(c % 4).toNat]'(by omega), List.getElem_mem _, ?_⟩
  rw [ix_l, atI_pos _ (by omega), List.getElem?_map, List.getElem?_eq_getElem (by omega)]
  rfl
theorem rd_names {f : F} {N : List Str} {W M : Int} (h : f.all (EndOk N W M)) : f.all (fun _ _ ps => Rg N ps) := all_mono (fun _ _ _ q => rg_sum q.1) f h
theorem most_ex (c : Int) : ∃ M : Int, 0 < M ∧ M ≤ 1000000000000 ∧ ixD (.lst [.int 6, .int 1000000000000]) (.t (.int (c % 2))) = .ok (.t (.int M)) := by
  have h2 : c % 2 = 0 ∨ c % 2 = 1 := by omega
  rcases h2 with h | h
  · exact ⟨6, by decide, by decide, by simp [h]⟩
  · exact ⟨1000000000000, by decide, by decide, by simp [h]⟩
end Pf

set_option Elab.async false
set_option linter.all false
set_option maxRecDepth 100000
set_option maxHeartbeats 4000000
namespace Pf
open PySem L2
/-! ## truth under values -/
def ek (k : EK) (z : Int) : Bool := match k with
  | .above => decide (0 < z)
  | .nought => decide (z = 0)
  | .goes h => decide (z % h = 0)
mutual
def F.tv (v : Str → Int) : F → Bool
  | .e k n ps => ek k (n + sv v ps)
  | .nt f => !f.tv v
  | .nd true fs => F.tvA v fs
  | .nd false fs => F.tvO v fs
  | .qn _ _ _ => false
def F.tvA (v : Str → Int) : List F → Bool
  | [] => true
  | f :: fs => f.tv v && F.tvA v fs
def F.tvO (v : Str → Int) : List F → Bool
  | [] => false
  | f :: fs => f.tv v || F.tvO v fs
end
/-- an end that can be reckoned: its shares small, what goes into it from 1 on -/
def Rk (k : EK) (_ : Int) (ps : Prs) : Prop := (∀ p ∈ ps, p.2.natAbs ≤ 1000000) ∧ ∀ h, k = .goes h → 1 ≤ h
theorem mulOk_s {p : Str × Int} (h : p.2.natAbs ≤ 1000000) (j : Int) : mulOk p.2 j = true := mulOk_l (by omega) (by omega)
/-- names of the ends stand in the values -/
def Kn (kvs : Prs) (_ : EK) (_ : Int) (ps : Prs) : Prop := ∀ p ∈ ps, p.1 ∈ kvs.map (·.1)
theorem value_in (n : Int) (ps kvs : Prs) (hk : ∀ p ∈ ps, p.1 ∈ kvs.map (·.1)) (hm : ∀ p ∈ ps, p.2.natAbs ≤ 1000000) : m_value [.t (smT n ps), .dct kvs] = .ok (.t (.int (n + sv (vl kvs) ps))) := by
  have := value_eq n ps kvs (fun p hp => mulOk_s (hm p hp) _)
  rwa [if_pos hk] at this
theorem lvalue_in (n : Int) (ps kvs : Prs) (hk : ∀ p ∈ ps, p.1 ∈ kvs.map (·.1)) (hm : ∀ p ∈ ps, p.2.natAbs ≤ 1000000) : m_law_value [.t (smT n ps), .dct kvs] = .ok (.t (.int (n + sv (vl kvs) ps))) :=
  lvalue_eq n ps kvs hk fun p hp => mulOk_s (hm p hp) _
@[simp] theorem eq_bb (a b : Bool) : eqD (.t (.bl a)) (.t (.bl b)) = .ok (.t (.bl (decide (a = b)))) := by
  cases a <;> cases b <;> rfl
@[simp] theorem ne_bb (a b : Bool) : neD (.t (.bl a)) (.t (.bl b)) = .ok (.t (.bl (!decide (a = b)))) := by
  cases a <;> cases b <;> rfl
theorem loop_all {body : Ev → R Out} {j : Nat} {r : Bool} (stop : Bool) (fr : Sl → Ev) (hset : ∀ x k, (fr k).set j x = fr x) (v : F → Bool) (fs : List F) (hb : ∀ f ∈ fs, body (fr (.d (.t f.enc) true)) = if v f = stop then .ok (.rt (.t (.bl r))) else .ok (.nx (fr (.d (.t f.enc) true)))) (k : Sl) :
    ((∃ f ∈ fs, v f = stop) → forR j body (F.encs fs) (fr k) = .ok (.rt (.t (.bl r)))) ∧ ((∀ f ∈ fs, v f ≠ stop) → ∃ k', forR j body (F.encs fs) (fr k) = .ok (.nx (fr k'))) := by
  induction fs generalizing k with
  | nil => exact ⟨fun ⟨f, h, _⟩ => by simp at h, fun _ => ⟨k, by simp [F.encs]⟩⟩
  | cons g gs ih =>
    have h0 := hb g (by simp)
    obtain ⟨i1, i2⟩ := ih (fun f hf => hb f (List.mem_cons_of_mem _ hf)) (.d (.t g.enc) true)
    by_cases hv : v g = stop
    · rw [if_pos hv] at h0
      refine ⟨fun _ => by simp only [F.encs, forR, hset, h0, R.ok_bind], fun q => absurd hv (q g (by simp))⟩
    · rw [if_neg hv] at h0
      refine ⟨fun ⟨f, hf, hq⟩ => ?_, fun q => ?_⟩
      · rcases List.mem_cons.mp hf with rfl | hf
        · exact absurd hq hv
        · simp only [F.encs, forR, hset, h0, R.ok_bind]; exact i1 ⟨f, hf, hq⟩
      · obtain ⟨k', e⟩ := i2 fun f hf => q f (List.mem_cons_of_mem _ hf)
        exact ⟨k', by simp only [F.encs, forR, hset, h0, R.ok_bind]; exact e⟩
theorem tvA_iff (v : Str → Int) : ∀ fs : List F, F.tvA v fs = true ↔ ∀ f ∈ fs, f.tv v ≠ false
  | [] => by simp [F.tvA]
  | f :: fs => by
    simp only [F.tvA, Bool.and_eq_true, tvA_iff v fs]
    simp
theorem tvO_iff (v : Str → Int) : ∀ fs : List F, F.tvO v fs = true ↔ ∃ f ∈ fs, f.tv v = true
  | [] => by simp [F.tvO]
  | f :: fs => by
    simp only [F.tvO, Bool.or_eq_true, tvO_iff v fs]
    simp
theorem truth_eq (kvs : Prs) : ∀ (n : Nat) (f : F), f.dep ≤ n → f.plain = true → f.all Rk → f.all (Kn kvs) → m_truth n [.t f.enc, .dct kvs] = .ok (.t (.bl (f.tv (vl kvs))))
  | 0, f, h, _, _, _ => by cases f <;> simp [F.dep] at h
  | n + 1, f, h, hp, hr, hk => by
    unfold m_truth g_truth
    rw [runDef_Rt]
    cases f with
    | e k y ps =>
      simp only [F.all] at hr hk
      have e := value_in y ps kvs hk hr.1
      cases k with
      | above => simp [F.enc, F.tv, ek, e]
      | nought => simp [F.enc, F.tv, ek, e]
      | goes z =>
        have h1 := hr.2 z rfl
        have hm := mod_ii (y + sv (vl kvs) ps) z (by omega)
        simp [F.enc, F.tv, ek, e, hm]
    | nt f =>
      simp only [F.dep, F.plain, F.all] at h hp hr hk
      have := truth_eq kvs n f (by omega) hp hr hk
      simp [F.enc, F.tv, this]
    | qn b y f => simp [F.plain] at hp
    | nd b fs =>
      simp only [F.dep, F.plain, F.all] at h hp hr hk
      have hrec : ∀ g ∈ fs, m_truth n [.t g.enc, .dct kvs] = .ok (.t (.bl (g.tv (vl kvs)))) := fun g hg => by
        have h1 := deps_mem hg
        exact truth_eq kvs n g (by omega) (plains_mem hp hg) (alls_mem hr hg) (alls_mem hk hg)
      cases b with
      | true =>
        obtain ⟨k1, k2⟩ := loop_all (j := 4) (r := false) (body := (ifO (tNot1 (tV (ap (m_truth n) (cA (rdE 4) (cA (rdE 1) nA))))) (retO (kB false)) nxO)) false (fun k => [.d (.t (F.enc (.nd true fs))) false, .d (.dct kvs) false, .d (.t (.str "and")) true, .un, k]) (fun _ _ => rfl) (fun f => f.tv (vl kvs)) fs (fun g hg => by
          have := hrec g hg
          cases hv : g.tv (vl kvs) <;> simp [this, hv]) .un
        simp only [F.tv]
        cases hv : F.tvA (vl kvs) fs with
        | true =>
          obtain ⟨k', e⟩ := k2 ((tvA_iff _ _).mp hv)
          simp only [F.enc] at e
          simp [F.enc] at e ⊢
          simp [e]
        | false =>
          have e := k1 (by
            by_cases q : ∃ f ∈ fs, f.tv (vl kvs) = false
            · exact q
            · have := (tvA_iff (vl kvs) fs).mpr (fun f hf e => q ⟨f, hf, e⟩)
              rw [hv] at this; cases this)
          simp only [F.enc] at e
          simp [F.enc] at e ⊢
          simp [e]
      | false =>
        obtain ⟨k1, k2⟩ := loop_all (j := 4) (r := true) (body := (ifO (tV (ap (m_truth n) (cA (rdE 4) (cA (rdE 1) nA)))) (retO (kB true)) nxO)) true (fun k => [.d (.t (F.enc (.nd false fs))) false, .d (.dct kvs) false, .d (.t (.str "or")) true, .un, k]) (fun _ _ => rfl) (fun f => f.tv (vl kvs)) fs (fun g hg => by
          have := hrec g hg
          cases hv : g.tv (vl kvs) <;> simp [this, hv]) .un
        simp only [F.tv]
        cases hv : F.tvO (vl kvs) fs with
        | false =>
          obtain ⟨k', e⟩ := k2 (fun f hf e => by
            have := (tvO_iff (vl kvs) fs).mpr ⟨f, hf, e⟩
            rw [hv] at this; cases this)
          simp only [F.enc] at e
          simp [F.enc] at e ⊢
          simp [e]
        | true =>
          have e := k1 ((tvO_iff _ _).mp hv)
          simp only [F.enc] at e
          simp [F.enc] at e ⊢
          simp [e]
theorem ltrue_eq (kvs : Prs) : ∀ (n : Nat) (f : F), f.dep ≤ n → f.plain = true → f.all Rk → f.all (Kn kvs) → m_law_true n [.t f.enc, .dct kvs] = .ok (.t (.bl (f.tv (vl kvs))))
  | 0, f, h, _, _, _ => by cases f <;> simp [F.dep] at h
  | n + 1, f, h, hp, hr, hk => by
    unfold m_law_true g_law_true
    rw [runDef_Rt]
    cases f with
    | e k y ps =>
      simp only [F.all] at hr hk
      have e := lvalue_in y ps kvs hk hr.1
      cases k with
      | above => simp [F.enc, F.tv, ek, e]
      | nought => simp [F.enc, F.tv, ek, e]
      | goes z =>
        have h1 := hr.2 z rfl
        have hm := mod_ii (y + sv (vl kvs) ps) z (by omega)
        simp [F.enc, F.tv, ek, e, hm]
    | nt f =>
      simp only [F.dep, F.plain, F.all] at h hp hr hk
      have := ltrue_eq kvs n f (by omega) hp hr hk
      simp [F.enc, F.tv, this]
    | qn b y f => simp [F.plain] at hp
    | nd b fs =>
      simp only [F.dep, F.plain, F.all] at h hp hr hk
      have hrec : ∀ g ∈ fs, m_law_true n [.t g.enc, .dct kvs] = .ok (.t (.bl (g.tv (vl kvs)))) := fun g hg => by
        have h1 := deps_mem hg
        exact ltrue_eq kvs n g (by omega) (plains_mem hp hg) (alls_mem hr hg) (alls_mem hk hg)
      cases b with
      | true =>
        obtain ⟨k1, k2⟩ := loop_all (j := 4) (r := false) (body := (ifO (tV (b2 eqD (ap (m_law_true n) (cA (rdE 4) (cA (rdE 1) nA))) (b2 eqD (rdE 2) (kS "or")))) (retO (b2 eqD (rdE 2) (kS "or"))) nxO)) false (fun k => [.d (.t (F.enc (.nd true fs))) false, .d (.dct kvs) false, .d (.t (.str "and")) true, .un, k]) (fun _ _ => rfl) (fun f => f.tv (vl kvs)) fs (fun g hg => by
          have := hrec g hg
          cases hv : g.tv (vl kvs) <;> simp [this, hv]) .un
        simp only [F.tv]
        cases hv : F.tvA (vl kvs) fs with
        | true =>
          obtain ⟨k', e⟩ := k2 ((tvA_iff _ _).mp hv)
          simp only [F.enc] at e
          simp [F.enc] at e ⊢
          simp [e]
        | false =>
          have e := k1 (by
            by_cases q : ∃ f ∈ fs, f.tv (vl kvs) = false
            · exact q
            · have := (tvA_iff (vl kvs) fs).mpr (fun f hf e => q ⟨f, hf, e⟩)
              rw [hv] at this; cases this)
          simp only [F.enc] at e
          simp [F.enc] at e ⊢
          simp [e]
      | false =>
        obtain ⟨k1, k2⟩ := loop_all (j := 4) (r := true) (body := (ifO (tV (b2 eqD (ap (m_law_true n) (cA (rdE 4) (cA (rdE 1) nA))) (b2 eqD (rdE 2) (kS "or")))) (retO (b2 eqD (rdE 2) (kS "or"))) nxO)) true (fun k => [.d (.t (F.enc (.nd false fs))) false, .d (.dct kvs) false, .d (.t (.str "or")) true, .un, k]) (fun _ _ => rfl) (fun f => f.tv (vl kvs)) fs (fun g hg => by
          have := hrec g hg
          cases hv : g.tv (vl kvs) <;> simp [this, hv]) .un
        simp only [F.tv]
        cases hv : F.tvO (vl kvs) fs with
        | false =>
          obtain ⟨k', e⟩ := k2 (fun f hf e => by
            have := (tvO_iff (vl kvs) fs).mpr ⟨f, hf, e⟩
            rw [hv] at this; cases this)
          simp only [F.enc] at e
          simp [F.enc] at e ⊢
          simp [e]
        | true =>
          have e := k1 ((tvO_iff _ _).mp hv)
          simp only [F.enc] at e
          simp [F.enc] at e ⊢
          simp [e]
end Pf

set_option Elab.async false
set_option linter.all false
set_option maxRecDepth 100000
set_option maxHeartbeats 4000000
namespace Pf
open PySem L2
/-! ## ends of edges, values of a script -/
theorem dict_loop {body : Ev → R Out} {j : Nat} (fr : Prs → Sl → Ev) (hset : ∀ kvs k x, (fr kvs k).set j x = fr kvs x) (N : List Str) (m : Nat) (hm : m ≤ N.length) (hl : N.length ≤ 10) (val : Nat → Int) (kvs0 : Prs) (h0 : kvs0.length ≤ 10) (hd0 : (kvs0.map (·.1)).Nodup)
    (hb : ∀ (i : Nat) (kvs : Prs) (hi : i < m), kvs.length ≤ 20 → body (fr kvs (.d (.t (.int (0 + (i : Int)))) true)) = .ok (.nx (fr (putL kvs (N[i]'(by omega)) (val i)) (.d (.t (.int (0 + (i : Int)))) true)))) (k : Sl) :
    ∃ kvs k', forR j body (rngT 0 m) (fr kvs0 k) = .ok (.nx (fr kvs k')) ∧ (∀ s, s ∈ kvs.map (·.1) ↔ s ∈ kvs0.map (·.1) ∨ s ∈ N.take m) ∧ (kvs.map (·.1)).Nodup ∧ kvs.length ≤ kvs0.length + m := by
  obtain ⟨ρ', e, kvs, k', rfl, h1, h2, h3⟩ := forR_rng (j := j) (lo := 0) (n := m) (body := body) (ρ := fr kvs0 k)
    (fun i ρ => ∃ kvs k, ρ = fr kvs k ∧ (∀ s, s ∈ kvs.map (·.1) ↔ s ∈ kvs0.map (·.1) ∨ s ∈ N.take i) ∧ (kvs.map (·.1)).Nodup ∧ kvs.length ≤ kvs0.length + i)
    (fun i ρ hi ⟨kvs, k, e, h1, h2, h3⟩ => by
      subst e
      rw [hset, hb i kvs hi (by omega)]
      have hN : N[i]? = some (N[i]'(by omega)) := List.getElem?_eq_getElem (by omega)
      have hlen := congrArg List.length (keys_put kvs (N[i]'(by omega)) (val i))
      rw [List.length_map] at hlen
      refine ⟨_, rfl, _, _, rfl, fun s => ?_, ?_, ?_⟩
      · rw [keys_put, List.take_add_one, hN]
        split
        · rename_i hk
          rw [h1, List.mem_append]
          constructor
          · rintro (q | q)
            · exact .inl q
            · exact .inr (.inl q)
          · rintro (q | q | q)
            · exact .inl q
            · exact .inr q
            · simp at q; subst q; exact (h1 _).mp hk
        · rw [List.mem_append, h1, List.mem_append]
          simp [or_assoc]
      · rw [keys_put]; split
        · exact h2
        · rename_i hk
          rw [List.nodup_append]
          refine ⟨h2, by simp, ?_⟩
          intro a ha b hb e
          simp at hb
          exact hk (by rw [← hb, ← e]; exact ha)
      · rw [hlen]
        split <;> simp <;> omega) ⟨kvs0, k, rfl, fun s => by simp, hd0, by omega⟩
  exact ⟨kvs, k', e, h1, h2, h3⟩
/-- ends over N: shares to 3 -/
def EOk (N : List Str) (k : EK) (_ : Int) (ps : Prs) : Prop := Rg N ps ∧ (∀ p ∈ ps, p.2.natAbs ≤ 3) ∧ ∀ h, k = .goes h → 1 ≤ h
theorem eok_of {N : List Str} {M : Int} {k : EK} {n : Int} {ps : Prs} (h : EndOk N 3 M k n ps) : EOk N k n ps :=
  ⟨rg_sum h.1, fun p hp => by have := h.1.2.2 p hp; omega, fun z e => (h.2 z e).1⟩
theorem eok_len {N : List Str} {k : EK} {n : Int} {ps : Prs} (h : EOk N k n ps) : ps.length ≤ N.length := by
  have := h.1.sub.length_le
  rwa [List.length_map, (srtS_perm N).length_eq] at this
theorem edge_by_ex (c : Int) (N : List Str) (kvs : Prs) (hN : N.length < 64) (hk : ∀ s ∈ N, s ∈ kvs.map (·.1)) : ∃ f : F, f.all (EOk N) ∧ f.plain = true ∧ f.dep ≤ 2 ∧ f.wid = 0 ∧ f.sz ≤ N.length ∧ m_law_edge_by [.t (.int c), .lst (N.map T.str), .dct kvs] = .ok (.t f.enc) := by
  obtain ⟨n, ps, s1, e1⟩ := sum_by_ex (c / 12) N 3 hN (by decide) (by decide)
  have hr := rg_sum s1
  have hs : ∀ p ∈ ps, p.2.natAbs ≤ 3 := fun p hp => by have := s1.2.2 p hp; omega
  have hl : ps.length ≤ N.length := by
    have := s1.1.length_le
    rwa [List.length_map, (srtS_perm N).length_eq] at this
  have hv := lvalue_in n ps kvs (fun p hp => hk _ (hr.mem p hp)) (fun p hp => by have := hs p hp; omega)
  generalize n + sv (vl kvs) ps = z at hv
  have hsm : ∀ y : Int, T.tup [.int y, .tup (ps.map prT)] = smT y ps := fun _ => rfl
  obtain ⟨e, he, h1, h2, h3, h4⟩ : ∃ k : EK, (∀ h, k = .goes h → 1 ≤ h) ∧ ixD (.lst [.tup [.str "above", smT (n - z + c % 3 - 1) ps], .tup [.str "nought", smT (n - z + c % 3 - 1) ps], .tup [.str "goes", .int (1 + c / 9 % 40), smT (n - z + c % 3 - 1) ps]]) (.t (.int (c / 3 % 3))) = .ok (.t (F.e k (n - z + c % 3 - 1) ps).enc) ∧ True ∧ True ∧ True := by
    have h3 : c / 3 % 3 = 0 ∨ c / 3 % 3 = 1 ∨ c / 3 % 3 = 2 := by omega
    rcases h3 with h | h | h
    · exact ⟨.above, (fun z e => by cases e), by simp [h, F.enc], trivial, trivial, trivial⟩
    · exact ⟨.nought, (fun z e => by cases e), by simp [h, F.enc], trivial, trivial, trivial⟩
    · exact ⟨.goes (1 + c / 9 % 40), (fun z e => by cases e; omega), by simp [h, F.enc], trivial, trivial, trivial⟩
  have hall : EOk N e (n - z + c % 3 - 1) ps := ⟨hr, hs, he⟩
  unfold m_law_edge_by g_law_edge_by
  rw [runDef_Rt]
  by_cases q : c / 7 % 2 = 1
  · refine ⟨.nt (.e e (n - z + c % 3 - 1) ps), by simp only [F.all]; exact hall, rfl, by simp [F.dep], by simp [F.wid], by simp only [F.sz]; exact hl, ?_⟩
    simp [e1, hv, hsm, h1, q, F.enc]
  · refine ⟨.e e (n - z + c % 3 - 1) ps, by simp only [F.all]; exact hall, rfl, by simp [F.dep], by simp [F.wid], by simp only [F.sz]; exact hl, ?_⟩
    simp [e1, hv, hsm, h1, q, retN]
theorem all_rk {N : List Str} {f : F} (h : f.all (EOk N)) : f.all Rk := all_mono (fun k n ps q => ⟨fun p hp => by have := q.2.1 p hp; omega, q.2.2⟩) f h
theorem all_kn {N : List Str} {kvs : Prs} {f : F} (h : f.all (EOk N)) (hk : ∀ s ∈ N, s ∈ kvs.map (·.1)) : f.all (Kn kvs) := all_mono (fun k n ps q => fun p hp => hk _ (q.1.mem p hp)) f h
end Pf

set_option Elab.async false
set_option linter.all false
set_option maxRecDepth 100000
set_option maxHeartbeats 4000000
namespace Pf
open PySem L2
/-! ## straight -/
def bk (ps : Prs) : Prs := norm (ps.map fun p => (p.1, -1 * p.2))
mutual
def F.turn : Bool → F → F
  | true, .e .above n ps => .e .above n ps
  | false, .e .above n ps => .e .above (1 + -n) (norm (bk ps))
  | true, .e .nought n ps => .nd true [.e .above (1 + n) (norm ps), .e .above (1 + -n) (norm (bk ps))]
  | false, .e .nought n ps => .nd false [.e .above n ps, .e .above (-n) (bk ps)]
  | true, .e (.goes h) n ps => .e (.goes h) n ps
  | false, .e (.goes h) n ps => .nt (.e (.goes h) n ps)
  | y, .nt f => f.turn (!y)
  | y, .nd b fs => .nd (b == y) (F.turns y fs)
  | _, .qn b x f => .qn b x f
def F.turns : Bool → List F → List F
  | _, [] => []
  | y, f :: fs => f.turn y :: F.turns y fs
end
theorem turns_map (y : Bool) : ∀ fs : List F, F.turns y fs = fs.map (F.turn y)
  | [] => by simp [F.turns]
  | f :: fs => by simp [F.turns, turns_map y fs]
theorem added_one (n : Int) (ps : Prs) (h : ps.length < 60) : m_added [.t (.tup [.int 1, .tup []]), .t (smT n ps)] = .ok (.t (smT (1 + n) (norm ps))) := added_eq 1 n [] ps (by simp; omega)
theorem times_neg (n : Int) (ps : Prs) (h : ps.length < 60) : m_times [.t (.int (-1)), .t (smT n ps)] = .ok (.t (smT (-n) (bk ps))) := by
  have := times_eq (-1) n ps (by omega) (mulOk_l (by decide) (by decide)) (fun p hp => mulOk_l (by decide) (by decide))
  rw [this]
  have e : -1 * n = -n := by omega
  rw [e]; rfl
theorem turned_eq : ∀ (n : Nat) (f : F) (y : Bool), f.dep ≤ n → f.plain = true → f.wid ≤ 16777216 → f.all (fun _ _ ps => ps.length < 40) → m_turned n [.t f.enc, .t (.bl y)] = .ok (.t (f.turn y).enc)
  | 0, f, y, h, _, _, _ => by cases f <;> simp [F.dep] at h
  | n + 1, f, y, h, hp, hw, ha => by
    unfold m_turned g_turned
    rw [runDef_Rt]
    cases f with
    | e k x ps =>
      simp only [F.all] at ha
      have t1 := times_neg x ps (by omega)
      have hb : (bk ps).length < 60 := by
        have := norm_len (ps.map fun p => (p.1, -1 * p.2))
        rw [List.length_map] at this
        show (norm _).length < 60
        omega
      have a1 := added_one x ps (by omega)
      have a2 := added_one (-x) (bk ps) hb
      cases k <;> cases y <;> simp [F.enc, F.encs, F.turn, t1, a1, a2, retN]
    | nt f =>
      simp only [F.dep, F.plain, F.wid, F.all] at h hp hw ha
      have := turned_eq n f (!y) (by omega) hp hw ha
      simp [F.enc, F.turn, this]
    | qn b z f => simp [F.plain] at hp
    | nd b fs =>
      simp only [F.dep, F.plain, F.wid, F.all] at h hp hw ha
      have hl : ∀ ρ : Ev, (∀ z o, rdE 6 (ρ.set 6 (.d z o)) = .ok z) → (∀ z, rdE 1 (ρ.set 6 z) = .ok (.t (.bl y))) → lcR 6 yes (ap (m_turned n) (cA (rdE 6) (cA (rdE 1) nA))) ρ (F.encs fs) = .ok (F.encs (F.turns y fs)) := by
        intro ρ h1 h2
        rw [encs_map, encs_map, turns_map]
        have := lcR_map (j := 6) (c := yes) (el := ap (m_turned n) (cA (rdE 6) (cA (rdE 1) nA))) (ρ := ρ) F.enc (fun _ => true) (fun f => (f.turn y).enc) fs (fun f hf => ⟨rfl, fun _ => by
          have hd := deps_mem hf
          have hw2 := wids_mem hf
          have := turned_eq n f y (by omega) (plains_mem hp hf) (by omega) (alls_mem ha hf)
          simp only [ap, cA, nA, h1, h2, R.ok_bind, this]⟩)
        have ef : fs.filter (fun _ => true) = fs := by simp
        rw [ef] at this
        rw [this, List.map_map]; rfl
      have hl' := hl [.d (.t (F.enc (.nd b fs))) false, .d (.t (.bl y)) false, .d (.t (.str (bw b))) true, .un, .un, .un, .un] (fun z o => rfl) (fun z => rfl)
      have hlen : (F.encs fs).length ≤ 16777216 := by rw [encs_len]; omega
      simp only [F.enc] at hl'
      cases b <;> cases y <;> simp [F.enc, F.turn, hlen] at hl' ⊢ <;> simp [hl']
/-! ### what it keeps -/
theorem sv_bk (v : Str → Int) (ps : Prs) : sv v (bk ps) = - sv v ps := by
  unfold bk; rw [sv_norm, sv_scale]; omega
mutual
theorem turn_tv (v : Str → Int) : ∀ (f : F) (y : Bool), f.plain = true → (f.turn y).tv v = (f.tv v == y)
  | .e .above n ps, true, _ => by simp only [F.turn]; cases (F.e .above n ps).tv v <;> rfl
  | .e .above n ps, false, _ => by
    simp only [F.turn, F.tv, ek, sv_norm, sv_bk]
    by_cases h : 0 < n + sv v ps
    · rw [decide_eq_true h, decide_eq_false (by omega)]; rfl
    · rw [decide_eq_false h, decide_eq_true (by omega)]; rfl
  | .e .nought n ps, true, _ => by
    simp only [F.turn, F.tv, F.tvA, ek, sv_norm, sv_bk]
    by_cases h : n + sv v ps = 0
    · rw [decide_eq_true h, decide_eq_true (by omega : 0 < 1 + n + sv v ps), decide_eq_true (by omega)]; rfl
    · rw [decide_eq_false h]
      by_cases h2 : 0 < n + sv v ps
      · rw [decide_eq_false (by omega : ¬ 0 < 1 + -n + -sv v ps)]; simp
      · rw [decide_eq_false (by omega : ¬ 0 < 1 + n + sv v ps)]; simp
  | .e .nought n ps, false, _ => by
    simp only [F.turn, F.tv, F.tvO, ek, sv_bk]
    by_cases h : n + sv v ps = 0
    · rw [decide_eq_true h, decide_eq_false (by omega : ¬ 0 < n + sv v ps), decide_eq_false (by omega)]; rfl
    · rw [decide_eq_false h]
      by_cases h2 : 0 < n + sv v ps
      · rw [decide_eq_true h2]; rfl
      · rw [decide_eq_true (by omega : 0 < -n + -sv v ps)]; simp
  | .e (.goes h) n ps, true, _ => by simp only [F.turn]; cases (F.e (.goes h) n ps).tv v <;> rfl
  | .e (.goes h) n ps, false, _ => by simp only [F.turn, F.tv]; cases ek (.goes h) (n + sv v ps) <;> rfl
  | .nt f, y, hp => by
    simp only [F.plain] at hp
    simp only [F.turn, F.tv, turn_tv v f (!y) hp]
    cases f.tv v <;> cases y <;> rfl
  | .nd true fs, true, hp => by
    simp only [F.plain] at hp
    simp only [F.turn, F.tv]
    show F.tvA v (F.turns true fs) = _
    rw [(turns_tv v fs true hp).1]; simp
  | .nd true fs, false, hp => by
    simp only [F.plain] at hp
    simp only [F.turn, F.tv]
    show F.tvO v (F.turns false fs) = _
    rw [(turns_tv v fs false hp).2]; cases F.tvA v fs <;> rfl
  | .nd false fs, true, hp => by
    simp only [F.plain] at hp
    simp only [F.turn, F.tv]
    show F.tvO v (F.turns true fs) = _
    rw [(turns_tv v fs true hp).2]; simp
  | .nd false fs, false, hp => by
    simp only [F.plain] at hp
    simp only [F.turn, F.tv]
    show F.tvA v (F.turns false fs) = _
    rw [(turns_tv v fs false hp).1]; cases F.tvO v fs <;> rfl
  | .qn _ _ _, _, hp => by simp [F.plain] at hp
theorem turns_tv (v : Str → Int) : ∀ (fs : List F) (y : Bool), F.plains fs = true → F.tvA v (F.turns y fs) = (if y then F.tvA v fs else !F.tvO v fs) ∧ F.tvO v (F.turns y fs) = (if y then F.tvO v fs else !F.tvA v fs)
  | [], y, _ => by cases y <;> simp [F.turns, F.tvA, F.tvO]
  | f :: fs, y, hp => by
    simp only [F.plains, Bool.and_eq_true] at hp
    obtain ⟨i1, i2⟩ := turns_tv v fs y hp.2
    have h := turn_tv v f y hp.1
    simp only [F.turns, F.tvA, F.tvO, i1, i2, h]
    cases y <;> cases f.tv v <;> simp
end
mutual
theorem turn_plain : ∀ (f : F) (y : Bool), f.plain = true → (f.turn y).plain = true
  | .e .above n ps, true, _ => rfl
  | .e .above n ps, false, _ => rfl
  | .e .nought n ps, true, _ => rfl
  | .e .nought n ps, false, _ => rfl
  | .e (.goes h) n ps, true, _ => rfl
  | .e (.goes h) n ps, false, _ => rfl
  | .nt f, y, hp => by simp only [F.plain] at hp; simp only [F.turn]; exact turn_plain f _ hp
  | .nd b fs, y, hp => by simp only [F.plain] at hp; simp only [F.turn, F.plain]; exact turns_plain fs y hp
  | .qn _ _ _, _, hp => by simp [F.plain] at hp
theorem turns_plain : ∀ (fs : List F) (y : Bool), F.plains fs = true → F.plains (F.turns y fs) = true
  | [], y, _ => by simp [F.turns, F.plains]
  | f :: fs, y, hp => by
    simp only [F.plains, Bool.and_eq_true] at hp
    simp only [F.turns, F.plains, turn_plain f y hp.1, turns_plain fs y hp.2]; rfl
end
mutual
theorem turn_dep : ∀ (f : F) (y : Bool), (f.turn y).dep ≤ f.dep + 1
  | .e .above n ps, true => by simp [F.turn, F.dep]
  | .e .above n ps, false => by simp [F.turn, F.dep]
  | .e .nought n ps, true => by simp [F.turn, F.dep, F.deps]
  | .e .nought n ps, false => by simp [F.turn, F.dep, F.deps]
  | .e (.goes h) n ps, true => by simp [F.turn, F.dep]
  | .e (.goes h) n ps, false => by simp [F.turn, F.dep]
  | .nt f, y => by have := turn_dep f (!y); simp only [F.turn, F.dep]; omega
  | .nd b fs, y => by have := turns_dep fs y; simp only [F.turn, F.dep]; omega
  | .qn _ _ _, _ => by simp [F.turn]
theorem turns_dep : ∀ (fs : List F) (y : Bool), F.deps (F.turns y fs) ≤ F.deps fs + 1
  | [], y => by simp [F.turns, F.deps]
  | f :: fs, y => by
    have h1 := turn_dep f y
    have h2 := turns_dep fs y
    simp only [F.turns, F.deps]; omega
end
mutual
theorem turn_wid : ∀ (f : F) (y : Bool), (f.turn y).wid ≤ max 2 f.wid
  | .e .above n ps, true => by simp [F.turn, F.wid]
  | .e .above n ps, false => by simp [F.turn, F.wid]
  | .e .nought n ps, true => by simp [F.turn, F.wid, F.wids]
  | .e .nought n ps, false => by simp [F.turn, F.wid, F.wids]
  | .e (.goes h) n ps, true => by simp [F.turn, F.wid]
  | .e (.goes h) n ps, false => by simp [F.turn, F.wid]
  | .nt f, y => by have := turn_wid f (!y); simp only [F.turn, F.wid]; omega
  | .nd b fs, y => by
    have := turns_wid fs y
    have h : (F.turns y fs).length = fs.length := by rw [turns_map, List.length_map]
    simp only [F.turn, F.wid, h]; omega
  | .qn _ _ _, _ => by simp only [F.turn]; omega
theorem turns_wid : ∀ (fs : List F) (y : Bool), F.wids (F.turns y fs) ≤ max 2 (F.wids fs)
  | [], y => by simp [F.turns, F.wids]
  | f :: fs, y => by
    have h1 := turn_wid f y
    have h2 := turns_wid fs y
    simp only [F.turns, F.wids]; omega
end
/-- from the ends to the straight ends -/
def Tn (P Q : EK → Int → Prs → Prop) : Prop := ∀ k n ps, P k n ps → (∀ m, Q .above m ps ∧ Q .above m (norm ps) ∧ Q .above m (bk ps) ∧ Q .above m (norm (bk ps))) ∧ ∀ h, k = .goes h → Q (.goes h) n ps
mutual
theorem turn_all {P Q : EK → Int → Prs → Prop} (H : Tn P Q) : ∀ (f : F) (y : Bool), f.plain = true → f.all P → (f.turn y).all Q
  | .e .above n ps, true, _, q => by simp only [F.turn, F.all] at q ⊢; exact ((H _ _ _ q).1 _).1
  | .e .above n ps, false, _, q => by simp only [F.turn, F.all] at q ⊢; exact ((H _ _ _ q).1 _).2.2.2
  | .e .nought n ps, true, _, q => by simp only [F.turn, F.all, F.alls] at q ⊢; exact ⟨((H _ _ _ q).1 _).2.1, ((H _ _ _ q).1 _).2.2.2, trivial⟩
  | .e .nought n ps, false, _, q => by simp only [F.turn, F.all, F.alls] at q ⊢; exact ⟨((H _ _ _ q).1 _).1, ((H _ _ _ q).1 _).2.2.1, trivial⟩
  | .e (.goes h) n ps, true, _, q => by simp only [F.turn, F.all] at q ⊢; exact (H _ _ _ q).2 h rfl
  | .e (.goes h) n ps, false, _, q => by simp only [F.turn, F.all] at q ⊢; exact (H _ _ _ q).2 h rfl
  | .nt f, y, hp, q => by simp only [F.plain, F.turn, F.all] at hp q ⊢; exact turn_all H f _ hp q
  | .nd b fs, y, hp, q => by simp only [F.plain, F.turn, F.all] at hp q ⊢; exact turns_all H fs y hp q
  | .qn _ _ _, _, hp, _ => by simp [F.plain] at hp
theorem turns_all {P Q : EK → Int → Prs → Prop} (H : Tn P Q) : ∀ (fs : List F) (y : Bool), F.plains fs = true → F.alls P fs → F.alls Q (F.turns y fs)
  | [], y, _, _ => by simp [F.turns, F.alls]
  | f :: fs, y, hp, q => by
    simp only [F.plains, Bool.and_eq_true] at hp
    simp only [F.turns, F.alls] at q ⊢
    exact ⟨turn_all H f y hp.1 q.1, turns_all H fs y hp.2 q.2⟩
end
/-! above, goes, and, or, and not goes alone -/
mutual
def F.str : F → Bool
  | .e .above _ _ => true
  | .e .nought _ _ => false
  | .e (.goes _) _ _ => true
  | .nt (.e (.goes _) _ _) => true
  | .nt _ => false
  | .nd _ fs => F.strs fs
  | .qn _ _ _ => false
def F.strs : List F → Bool
  | [] => true
  | f :: fs => f.str && F.strs fs
end
theorem strs_mem {f : F} : ∀ {fs : List F}, F.strs fs = true → f ∈ fs → f.str = true
  | g :: fs, h, hm => by
    simp only [F.strs, Bool.and_eq_true] at h
    rcases List.mem_cons.mp hm with rfl | hm
    · exact h.1
    · exact strs_mem h.2 hm
mutual
theorem turn_str : ∀ (f : F) (y : Bool), f.plain = true → (f.turn y).str = true
  | .e .above n ps, true, _ => rfl
  | .e .above n ps, false, _ => rfl
  | .e .nought n ps, true, _ => rfl
  | .e .nought n ps, false, _ => rfl
  | .e (.goes h) n ps, true, _ => rfl
  | .e (.goes h) n ps, false, _ => rfl
  | .nt f, y, hp => by simp only [F.plain] at hp; simp only [F.turn]; exact turn_str f _ hp
  | .nd b fs, y, hp => by simp only [F.plain] at hp; simp only [F.turn, F.str]; exact turns_str fs y hp
  | .qn _ _ _, _, hp => by simp [F.plain] at hp
theorem turns_str : ∀ (fs : List F) (y : Bool), F.plains fs = true → F.strs (F.turns y fs) = true
  | [], y, _ => by simp [F.turns, F.strs]
  | f :: fs, y, hp => by
    simp only [F.plains, Bool.and_eq_true] at hp
    simp only [F.turns, F.strs, turn_str f y hp.1, turns_str fs y hp.2]; rfl
end
end Pf

set_option Elab.async false
set_option linter.all false
set_option maxRecDepth 100000
set_option maxHeartbeats 4000000
namespace Pf
open PySem L2
/-! ## what a plain statement must be -/
theorem bw_ne (b : Bool) : (bw b = "not") = False ∧ (bw b = "goes") = False ∧ (bw b = "above") = False ∧ (bw b = "nought") = False := by cases b <;> simp
theorem straight_is_eq : ∀ (n : Nat) (f : F), f.dep ≤ n → f.str = true → m_law_straight_is n [.t f.enc] = .ok (.t (.bl true))
  | 0, f, h, _ => by cases f <;> simp [F.dep] at h
  | n + 1, f, h, hs => by
    unfold m_law_straight_is g_law_straight_is
    rw [runDef_Rt]
    cases f with
    | e k y ps => cases k <;> simp [F.enc, F.str] at hs ⊢
    | nt f =>
      cases f with
      | e k y ps => cases k <;> simp [F.enc, F.str] at hs ⊢
      | _ => simp [F.str] at hs
    | qn b y f => simp [F.str] at hs
    | nd b fs =>
      simp only [F.dep, F.str] at h hs
      have hrec : ∀ g ∈ fs, m_law_straight_is n [.t g.enc] = .ok (.t (.bl true)) := fun g hg => by
        have h1 := deps_mem hg
        exact straight_is_eq n g (by omega) (strs_mem hs hg)
      obtain ⟨_, k2⟩ := loop_all (j := 2) (r := false) (body := (ifO (tNot1 (tV (ap (m_law_straight_is n) (cA (rdE 2) nA)))) (retO (kB false)) nxO)) false (fun k => [.d (.t (F.enc (.nd b fs))) false, .d (.t (.str (bw b))) true, k]) (fun _ _ => rfl) (fun _ => true) fs (fun g hg => by
        have := hrec g hg
        simp [this]) .un
      obtain ⟨k', e⟩ := k2 (by simp)
      simp only [F.enc] at e
      cases b <;> simp [F.enc] at e ⊢ <;> simp [e]
/-- an end that is right over the names L -/
def PN (L : List Str) (k : EK) (_ : Int) (ps : Prs) : Prop := (∃ N', N'.Nodup ∧ Rg N' ps ∧ ∀ s ∈ N', s ∈ L) ∧ ∀ h, k = .goes h → 1 ≤ h
theorem plain_is_eq (L : List Str) (hne : ∀ s ∈ L, s.cps.toList ≠ []) : ∀ (n : Nat) (f : F), f.dep ≤ n → f.plain = true → f.wid ≤ 16777216 → f.all (PN L) → m_law_plain_is n [.t f.enc, .lst (L.map T.str)] = .ok (.t (.bl true))
  | 0, f, h, _, _, _ => by cases f <;> simp [F.dep] at h
  | n + 1, f, h, hp, hw, ha => by
    unfold m_law_plain_is g_law_plain_is
    rw [runDef_Rt]
    cases f with
    | e k y ps =>
      simp only [F.all] at ha
      obtain ⟨⟨N', q1, q2, q3⟩, q4⟩ := ha
      have e := sum_is_eq y L N' ps q2 q1 q3 hne
      cases k with
      | above => simp [F.enc, e]
      | nought => simp [F.enc, e]
      | goes z =>
        have := q4 z rfl
        simp [F.enc, e, show 0 < z by omega]
    | nt f =>
      simp only [F.dep, F.plain, F.wid, F.all] at h hp hw ha
      have := plain_is_eq L hne n f (by omega) hp hw ha
      simp [F.enc, this]
    | qn b y f => simp [F.plain] at hp
    | nd b fs =>
      simp only [F.dep, F.plain, F.wid, F.all] at h hp hw ha
      have hrec : ∀ g ∈ fs, m_law_plain_is n [.t g.enc, .lst (L.map T.str)] = .ok (.t (.bl true)) := fun g hg => by
        have h1 := deps_mem hg
        have hw2 := wids_mem hg
        exact plain_is_eq L hne n g (by omega) (plains_mem hp hg) (by omega) (alls_mem ha hg)
      obtain ⟨_, k2⟩ := loop_all (j := 3) (r := false) (body := (ifO (tNot1 (tV (ap (m_law_plain_is n) (cA (rdE 3) (cA (rdE 1) nA))))) (retO (kB false)) nxO)) false (fun k => [.d (.t (F.enc (.nd b fs))) false, .d (.lst (L.map T.str)) false, .d (.t (.str (bw b))) true, k]) (fun _ _ => rfl) (fun _ => true) fs (fun g hg => by
        have := hrec g hg
        simp [this]) .un
      obtain ⟨k', e⟩ := k2 (by simp)
      simp only [F.enc] at e
      cases b <;> simp [F.enc] at e ⊢ <;> simp [e]
mutual
/-- in a plain statement all names stand free -/
theorem all_free (L : List Str) : ∀ f : F, f.plain = true → (∀ s ∈ f.free [], s ∈ L) → f.all (fun _ _ ps => ∀ p ∈ ps, p.1 ∈ L)
  | .e _ _ ps, _, h => by
    simp only [F.all, F.free] at h ⊢
    intro p hp
    exact h p.1 (List.mem_map_of_mem (List.mem_filter.mpr ⟨hp, by simp⟩))
  | .nt f, hp, h => by simp only [F.all, F.free, F.plain] at hp h ⊢; exact all_free L f hp h
  | .nd _ fs, hp, h => by simp only [F.all, F.free, F.plain] at hp h ⊢; exact alls_free L fs hp h
  | .qn _ _ _, hp, _ => by simp [F.plain] at hp
theorem alls_free (L : List Str) : ∀ fs : List F, F.plains fs = true → (∀ s ∈ F.frees fs [], s ∈ L) → F.alls (fun _ _ ps => ∀ p ∈ ps, p.1 ∈ L) fs
  | [], _, _ => trivial
  | f :: fs, hp, h => by
    simp only [F.plains, Bool.and_eq_true] at hp
    simp only [F.alls, F.frees] at h ⊢
    exact ⟨all_free L f hp.1 (fun s q => h s (List.mem_append_left _ q)), alls_free L fs hp.2 (fun s q => h s (List.mem_append_right _ q))⟩
end
mutual
theorem all_and {P Q : EK → Int → Prs → Prop} : ∀ f : F, f.all P → f.all Q → f.all (fun k n ps => P k n ps ∧ Q k n ps)
  | .e k n ps, p, q => by simp only [F.all] at p q ⊢; exact ⟨p, q⟩
  | .nt f, p, q => by simp only [F.all] at p q ⊢; exact all_and f p q
  | .nd _ fs, p, q => by simp only [F.all] at p q ⊢; exact alls_and fs p q
  | .qn _ _ f, p, q => by simp only [F.all] at p q ⊢; exact all_and f p q
theorem alls_and {P Q : EK → Int → Prs → Prop} : ∀ fs : List F, F.alls P fs → F.alls Q fs → F.alls (fun k n ps => P k n ps ∧ Q k n ps) fs
  | [], _, _ => trivial
  | f :: fs, p, q => by simp only [F.alls] at p q ⊢; exact ⟨all_and f p.1 q.1, alls_and fs p.2 q.2⟩
end
/-- a sum over its own names -/
theorem rg_own {N : List Str} {ps : Prs} (h : Rg N ps) (hd : N.Nodup) : (ps.map (·.1)).Nodup ∧ Rg (ps.map (·.1)) ps := by
  have hn := h.nodup hd
  refine ⟨hn, ?_, h.ne⟩
  have h1 : (ps.map (·.1)).Pairwise fun a b => leS a b = true := (srtS_pw N).sublist h.sub
  have e : srtS (ps.map (·.1)) = ps.map (·.1) := (srtS_perm _).eq_of_pairwise (fun a b _ _ h1 h2 => leS_antisymm h1 h2) (srtS_pw _) h1
  rw [e]; exact List.Sublist.refl _
theorem bk_names (ps : Prs) : ∀ p ∈ ps.map (fun p => (p.1, -1 * p.2)), p.1 ∈ ps.map (·.1) := fun p hp => by
  obtain ⟨q, hq, rfl⟩ := List.mem_map.mp hp
  exact List.mem_map.mpr ⟨q, hq, rfl⟩
/-- what is right over L stays so, straight -/
theorem tn_PN {N L : List Str} (hd : N.Nodup) : Tn (fun k n ps => EOk N k n ps ∧ ∀ p ∈ ps, p.1 ∈ L) (PN L) := by
  rintro k n ps ⟨⟨h1, h2, h3⟩, h4⟩
  obtain ⟨o1, o2⟩ := rg_own h1 hd
  have hL : ∀ s ∈ ps.map (·.1), s ∈ L := fun s hs => by obtain ⟨p, hp, rfl⟩ := List.mem_map.mp hs; exact h4 p hp
  have hb : Rg (ps.map (·.1)) (bk ps) := rg_norm o1 (bk_names ps)
  refine ⟨fun m => ⟨⟨⟨_, o1, o2, hL⟩, ?_⟩, ⟨⟨_, o1, rg_norm o1 (fun p hp => List.mem_map_of_mem hp), hL⟩, ?_⟩, ⟨⟨_, o1, hb, hL⟩, ?_⟩, ⟨⟨_, o1, rg_norm o1 hb.mem, hL⟩, ?_⟩⟩, fun z e => ⟨⟨_, o1, o2, hL⟩, fun z' e' => ?_⟩⟩
  · intro z e; cases e
  · intro z e; cases e
  · intro z e; cases e
  · intro z e; cases e
  · cases e'; exact h3 z e
/-- .. can be reckoned -/
theorem bk_small {ps : Prs} {B : Nat} (h : ∀ p ∈ ps, p.2.natAbs ≤ B) : ∀ p ∈ bk ps, p.2.natAbs ≤ ps.length * B := by
  have := norm_bound B (ps.map fun p => (p.1, -1 * p.2)) (fun p hp => by
    obtain ⟨q, hq, rfl⟩ := List.mem_map.mp hp
    have := h q hq
    show (-1 * q.2).natAbs ≤ B
    omega)
  rwa [List.length_map] at this
theorem tn_Rk {N : List Str} (hN : N.length ≤ 10) : Tn (EOk N) Rk := by
  rintro k n ps ⟨h1, h2, h3⟩
  have hl : ps.length ≤ 10 := by
    have := h1.sub.length_le
    rw [List.length_map, (srtS_perm N).length_eq] at this; omega
  have b1 := bk_small h2
  have bl : (bk ps).length ≤ 10 := by
    have := norm_len (ps.map fun p => (p.1, -1 * p.2))
    rw [List.length_map] at this
    show (norm _).length ≤ 10
    omega
  have b2 := norm_bound 3 ps h2
  have b3 := norm_bound 30 (bk ps) (fun p hp => Nat.le_trans (b1 p hp) (Nat.mul_le_mul_right 3 hl))
  refine ⟨fun m => ⟨⟨fun p hp => ?_, ?_⟩, ⟨fun p hp => ?_, ?_⟩, ⟨fun p hp => ?_, ?_⟩, ⟨fun p hp => ?_, ?_⟩⟩, fun z e => ⟨fun p hp => ?_, fun z' e' => ?_⟩⟩
  · have := h2 p hp; omega
  · intro z e; cases e
  · have := b2 p hp
    have : ps.length * 3 ≤ 10 * 3 := Nat.mul_le_mul_right _ hl
    omega
  · intro z e; cases e
  · have := b1 p hp
    have : ps.length * 3 ≤ 10 * 3 := Nat.mul_le_mul_right _ hl
    omega
  · intro z e; cases e
  · have := b3 p hp
    have : (bk ps).length * 30 ≤ 10 * 30 := Nat.mul_le_mul_right _ bl
    omega
  · intro z e; cases e
  · have := h2 p hp; omega
  · cases e'; exact h3 z e
/-- .. of names that stand in the values -/
theorem tn_Kn {N : List Str} {kvs : Prs} (hk : ∀ s ∈ N, s ∈ kvs.map (·.1)) : Tn (EOk N) (Kn kvs) := by
  rintro k n ps ⟨h1, h2, h3⟩
  have h0 : ∀ p ∈ ps, p.1 ∈ kvs.map (·.1) := fun p hp => hk _ (h1.mem p hp)
  have hn : ∀ qs : Prs, (∀ p ∈ qs, p.1 ∈ kvs.map (·.1)) → ∀ p ∈ norm qs, p.1 ∈ kvs.map (·.1) := fun qs hq p hp => by
    obtain ⟨q, q1, q2⟩ := List.mem_map.mp (norm_mem hp)
    rw [← q2]; exact hq q q1
  have hb : ∀ p ∈ bk ps, p.1 ∈ kvs.map (·.1) := hn _ (fun p hp => by
    obtain ⟨q, hq, rfl⟩ := List.mem_map.mp hp
    exact h0 q hq)
  exact ⟨fun m => ⟨h0, hn _ h0, hb, hn _ hb⟩, fun z e => h0⟩
end Pf

set_option Elab.async false
set_option linter.all false
set_option maxRecDepth 100000
set_option maxHeartbeats 4000000
namespace Pf
open PySem L2
/-! ## is_true -/
theorem nodup_sub {l : List Str} : ∀ {N : List Str}, l.Nodup → (∀ x ∈ l, x ∈ N) → l.length ≤ N.length := by
  induction l with
  | nil => intro N _ _; exact Nat.zero_le _
  | cons x r ih =>
    intro N hd hs
    obtain ⟨h1, h2⟩ := List.nodup_cons.mp hd
    have hx := hs x (by simp)
    have := ih (N := N.erase x) h2 (fun y hy => (List.mem_erase_of_ne (fun e : y = x => h1 (by rw [← e]; exact hy))).mpr (hs y (List.mem_cons_of_mem _ hy)))
    rw [List.length_erase_of_mem hx] at this
    have hp := List.length_pos_of_mem hx
    rw [List.length_cons]; omega
theorem unknowns_eq (f : F) (N : List Str) (h1 : f.dep ≤ 60) (h2 : f.sz < 4000) (h3 : f.all (fun _ _ ps => ∀ p ∈ ps, p.1 ∈ N)) (h4 : N.length < 64) : m_unknowns [.t f.enc] = .ok (.lst ((srtS (onceS (f.free []))).map T.str)) := by
  have e := free_in_eq 60 f [] h1 (by omega) (by simp; omega)
  have hl := free_len f []
  have hs : (onceS (f.free [])).length ≤ N.length := nodup_sub (onceS_nodup _) fun x hx => free_sub f [] N h3 x ((onceS_mem x _).mp hx)
  have q := sset_eq (f.free []) (by omega) (by omega)
  unfold m_unknowns g_unknowns
  rw [runDef_Rt]
  simp only [List.map_nil] at e
  simp [e, q]
theorem srtOnce_mem (s : Str) (l : List Str) : s ∈ srtS (onceS l) ↔ s ∈ l := by rw [(srtS_perm _).mem_iff, onceS_mem]
theorem need_values_eq (l : List Str) (kvs : Prs) : m_need_values [.lst (l.map T.str), .dct kvs] = if ∀ s ∈ l, s ∈ kvs.map (·.1) then .ok (.t .non) else .raise 0 := by
  have key : ∀ (m : List Str) (k : Sl), Rt (forR 2 (ifO (tV (b2 ninD (rdE 2) (rdE 1))) (raiseO 0) nxO) (m.map T.str) [.d (.lst (l.map T.str)) false, .d (.dct kvs) false, k]) = if ∀ s ∈ m, s ∈ kvs.map (·.1) then .ok (.t .non) else .raise 0 := by
    intro m
    induction m with
    | nil => intro k; simp [Rt]
    | cons s m ih =>
      intro k
      have i1 := ih (.d (.t (.str s)) true)
      by_cases h : s ∈ kvs.map (·.1)
      · have hc : (∀ q ∈ s :: m, q ∈ kvs.map (·.1)) ↔ ∀ q ∈ m, q ∈ kvs.map (·.1) := ⟨fun h q hq => h q (List.mem_cons_of_mem _ hq), fun h2 q hq => (List.mem_cons.mp hq).elim (fun e => e ▸ h) (h2 q)⟩
        simp only [hc]
        rw [← i1]
        simp [forR, h, -List.mem_map]
      · rw [if_neg (fun q => h (q s (by simp)))]
        simp [forR, h, Rt, -List.mem_map]
  have := key l .un
  unfold m_need_values g_need_values
  rw [runDef_Rt]
  simp [forNO] at this ⊢
  exact this
/-- is_true of a statement -/
theorem is_true_eq (f : F) (N : List Str) (kvs : Prs) (h1 : f.dep ≤ 60) (h2 : f.sz < 4000) (h3 : f.all (EOk N)) (h4 : N.length < 64) : m_is_true [.t f.enc, .dct kvs] = if f.plain then (if ∀ s ∈ f.free [], s ∈ kvs.map (·.1) then .ok (.t (.bl (f.tv (vl kvs)))) else .raise 0) else .raise 1 := by
  have e1 := need_plain_eq f h1
  have e2 := unknowns_eq f N h1 h2 (all_mono (fun k n ps q => q.1.mem) f h3) h4
  have e3 := need_values_eq (srtS (onceS (f.free []))) kvs
  simp only [srtOnce_mem] at e3
  unfold m_is_true g_is_true
  rw [runDef_Rt]
  cases hp : f.plain with
  | false => rw [hp] at e1; simp [e1, Rt]
  | true =>
    rw [hp] at e1
    simp only [if_true] at e1 ⊢
    by_cases hv : ∀ s ∈ f.free [], s ∈ kvs.map (·.1)
    · rw [if_pos hv] at e3 ⊢
      have e4 := truth_eq kvs 60 f h1 hp (all_rk h3) (all_mono (fun k n ps q p hp => hv _ (q p hp)) f (all_free (f.free []) f hp fun s hs => hs))
      simp [e1, e2, e3, e4]
    · rw [if_neg hv] at e3 ⊢
      simp [e1, e2, e3, Rt]
theorem strOk_nm {s : Str} (h : Nm s) : PyData.strOk s = true := by
  obtain ⟨_, h2, h3⟩ := h
  unfold PyData.strOk
  rw [Array.all_eq_true']
  intro c hc
  have := h3 c (Array.mem_toList_iff.mpr hc)
  simp; omega
theorem lay_strs : ∀ l : List Str, (∀ s ∈ l, Nm s) → PyData.canLayAll0 (toPys (l.map T.str)) = true ∧ PyData.depthAll (toPys (l.map T.str)) ≤ 1
  | [], _ => by simp [toPys, PyData.canLayAll0, PyData.depthAll]
  | s :: l, h => by
    obtain ⟨i1, i2⟩ := lay_strs l fun x hx => h x (List.mem_cons_of_mem _ hx)
    simp only [List.map_cons, toPys, toPy, PyData.canLayAll0, PyData.canLay0, PyData.depthAll, PyData.depth, strOk_nm (h s (by simp)), i1, Bool.and_self, true_and]
    omega
theorem shaped_strs (l : List Str) (h : ∀ s ∈ l, Nm s) : SeqAt.shaped (.list (toPys (l.map T.str))) = true := by
  obtain ⟨i1, i2⟩ := lay_strs l h
  unfold SeqAt.shaped
  have e1 : PyData.canLay0 (.list (toPys (l.map T.str))) = true := i1
  have e2 : PyData.depth (.list (toPys (l.map T.str))) ≤ 64 := Nat.le_trans (Nat.succ_le_succ i2) (by decide)
  rw [e1, decide_eq_true e2]; rfl
theorem ne_strs_nil (l : List Str) (h : ∀ s ∈ l, Nm s) : neD (.lst (l.map T.str)) (.lst []) = .ok (.t (.bl (!decide (l = [])))) := by
  have h1 := shaped_strs l h
  have h2 : SeqAt.shaped (.list (toPys [])) = true := by rfl
  simp only [neD, eqB, h1, h2, Bool.and_self, if_true]
  cases l <;> simp [toPys, PyData.eqv, PyData.eqvAll]
end Pf

set_option Elab.async false
set_option linter.all false
set_option maxRecDepth 100000
set_option maxHeartbeats 4000000
namespace Pf
open PySem L2
/-! ## one unknown: a number that makes a straight statement true -/
def up (v : Str → Int) (x : Str) (z : Int) : Str → Int := fun s => if s = x then z else v s
abbrev wo (x : Str) (ps : Prs) : Prs := ps.filter fun p => !decide (p.1 = x)
theorem sv_congr {f g : Str → Int} : ∀ ps : Prs, (∀ p ∈ ps, f p.1 = g p.1) → sv f ps = sv g ps
  | [], _ => rfl
  | p :: r, h => by
    simp only [sv, h p (by simp), sv_congr r fun q hq => h q (List.mem_cons_of_mem _ hq)]
theorem sv_up (v : Str → Int) (x : Str) (z : Int) (ps : Prs) : sv (up v x z) ps = sv v (wo x ps) + tot x ps * z := by
  have h1 := sv_without (up v x z) x ps
  have h2 : sv (up v x z) (wo x ps) = sv v (wo x ps) := sv_congr _ fun p hp => by
    have := (List.mem_filter.mp hp).2
    have hne : ¬ p.1 = x := by simpa using this
    simp [up, hne]
  have h3 : up v x z x = z := by simp [up]
  rw [h3] at h1
  rw [← h2, h1]; omega
/-- the rest of a sum without x -/
def rst (v : Str → Int) (x : Str) (n : Int) (ps : Prs) : Int := n + sv v (wo x ps)
theorem val_up (v : Str → Int) (x : Str) (z n : Int) (ps : Prs) : n + sv (up v x z) ps = rst v x n ps + tot x ps * z := by
  rw [sv_up]; unfold rst; omega
mutual
/-- what x is to be above -/
def F.lows (v : Str → Int) (x : Str) : F → List Int
  | .e .above n ps => if tot x ps = 1 then [-rst v x n ps] else []
  | .e _ _ _ => []
  | .nt _ => []
  | .nd _ fs => F.lowss v x fs
  | .qn _ _ _ => []
def F.lowss (v : Str → Int) (x : Str) : List F → List Int
  | [] => []
  | f :: fs => f.lows v x ++ F.lowss v x fs
end
mutual
/-- what x is to be below -/
def F.highs (v : Str → Int) (x : Str) : F → List Int
  | .e .above n ps => if tot x ps = -1 then [rst v x n ps] else []
  | .e _ _ _ => []
  | .nt _ => []
  | .nd _ fs => F.highss v x fs
  | .qn _ _ _ => []
def F.highss (v : Str → Int) (x : Str) : List F → List Int
  | [] => []
  | f :: fs => f.highs v x ++ F.highss v x fs
end
/-- an end in which x has the share 0, 1 or -1, and what goes into it goes into the step -/
def One (x : Str) (st : Int) (k : EK) (_ : Int) (ps : Prs) : Prop := (tot x ps = 0 ∨ tot x ps = 1 ∨ tot x ps = -1) ∧ ∀ h, k = .goes h → tot x ps = 0 ∨ h ∣ st
theorem goes_shift {h st r t y : Int} (q : t = 0 ∨ h ∣ st) : (r + t * (y - st)) % h = (r + t * y) % h := by
  rcases q with q | ⟨c, q⟩
  · rw [q, Int.zero_mul, Int.zero_mul]
  · have e : r + t * (y - st) = r + t * y + h * (-(t * c)) := by
      rw [q, Int.mul_sub, Int.mul_neg, ← Int.mul_assoc t h c, Int.mul_comm t h, Int.mul_assoc h t c]; omega
    rw [e, Int.add_mul_emod_self_left]
theorem goes_shifts {h st r t y y' : Int} (q : t = 0 ∨ h ∣ st) (hy : st ∣ y - y') : (r + t * y) % h = (r + t * y') % h := by
  rcases q with q | ⟨c, q⟩
  · rw [q, Int.zero_mul, Int.zero_mul]
  · obtain ⟨d, hd⟩ := hy
    have e : r + t * y = r + t * y' + h * (t * (c * d)) := by
      have : y = y' + st * d := by omega
      rw [this, q, Int.mul_add]
      have : t * (h * c * d) = h * (t * (c * d)) := by rw [Int.mul_assoc h c d, ← Int.mul_assoc t h, Int.mul_comm t h, Int.mul_assoc h t]
      omega
    rw [e, Int.add_mul_emod_self_left]
mutual
theorem tv_down (v : Str → Int) (x : Str) (st y : Int) (hst : 0 < st) : ∀ f : F, f.str = true → f.all (One x st) → (∀ b ∈ f.lows v x, ¬ (b < y ∧ y ≤ b + st)) → f.tv (up v x y) = true → f.tv (up v x (y - st)) = true
  | .e .above n ps, _, ha, hl, h => by
    simp only [F.all, F.tv, ek, decide_eq_true_eq, val_up] at ha h ⊢
    rcases ha.1 with q | q | q
    · rw [q] at h ⊢; omega
    · have := hl (-rst v x n ps) (by simp [F.lows, q])
      rw [q] at h ⊢; omega
    · rw [q] at h ⊢; omega
  | .e .nought _ _, hs, _, _, _ => by simp [F.str] at hs
  | .e (.goes z) n ps, _, ha, _, h => by
    simp only [F.all, F.tv, ek, decide_eq_true_eq, val_up] at ha h ⊢
    rw [goes_shift (ha.2 z rfl)]; exact h
  | .nt (.e (.goes z) n ps), _, ha, _, h => by
    simp only [F.all, F.tv, ek, val_up] at ha h ⊢
    rw [goes_shift (ha.2 z rfl)]; exact h
  | .nt (.e .above _ _), hs, _, _, _ => by simp [F.str] at hs
  | .nt (.e .nought _ _), hs, _, _, _ => by simp [F.str] at hs
  | .nt (.nt _), hs, _, _, _ => by simp [F.str] at hs
  | .nt (.nd _ _), hs, _, _, _ => by simp [F.str] at hs
  | .nt (.qn _ _ _), hs, _, _, _ => by simp [F.str] at hs
  | .nd true fs, hs, ha, hl, h => by
    simp only [F.str, F.all, F.lows, F.tv] at hs ha hl h ⊢
    exact (tvs_down v x st y hst fs hs ha hl).1 h
  | .nd false fs, hs, ha, hl, h => by
    simp only [F.str, F.all, F.lows, F.tv] at hs ha hl h ⊢
    exact (tvs_down v x st y hst fs hs ha hl).2 h
  | .qn _ _ _, hs, _, _, _ => by simp [F.str] at hs
theorem tvs_down (v : Str → Int) (x : Str) (st y : Int) (hst : 0 < st) : ∀ fs : List F, F.strs fs = true → F.alls (One x st) fs → (∀ b ∈ F.lowss v x fs, ¬ (b < y ∧ y ≤ b + st)) → (F.tvA (up v x y) fs = true → F.tvA (up v x (y - st)) fs = true) ∧ (F.tvO (up v x y) fs = true → F.tvO (up v x (y - st)) fs = true)
  | [], _, _, _ => ⟨fun h => h, fun h => h⟩
  | f :: fs, hs, ha, hl => by
    simp only [F.strs, Bool.and_eq_true, F.alls, F.lowss, List.mem_append] at hs ha hl
    obtain ⟨i1, i2⟩ := tvs_down v x st y hst fs hs.2 ha.2 fun b hb => hl b (.inr hb)
    have h0 := tv_down v x st y hst f hs.1 ha.1 fun b hb => hl b (.inl hb)
    simp only [F.tvA, F.tvO, Bool.and_eq_true, Bool.or_eq_true]
    exact ⟨fun h => ⟨h0 h.1, i1 h.2⟩, fun h => h.elim (fun q => .inl (h0 q)) fun q => .inr (i2 q)⟩
end
mutual
theorem tv_far (v : Str → Int) (x : Str) (st y y' : Int) (hy : st ∣ y - y') : ∀ f : F, f.str = true → f.all (One x st) → (∀ b ∈ f.lows v x, y ≤ b ∧ y' ≤ b) → (∀ b ∈ f.highs v x, y < b ∧ y' < b) → f.tv (up v x y) = f.tv (up v x y')
  | .e .above n ps, _, ha, hl, hh => by
    simp only [F.all, F.tv, ek, val_up] at ha ⊢
    rcases ha.1 with q | q | q
    · rw [q, Int.zero_mul, Int.zero_mul]
    · have := hl (-rst v x n ps) (by simp [F.lows, q])
      rw [q, decide_eq_false (by omega), decide_eq_false (by omega)]
    · have := hh (rst v x n ps) (by simp [F.highs, q])
      rw [q, decide_eq_true (by omega), decide_eq_true (by omega)]
  | .e .nought _ _, hs, _, _, _ => by simp [F.str] at hs
  | .e (.goes z) n ps, _, ha, _, _ => by
    simp only [F.all, F.tv, ek, val_up] at ha ⊢
    rw [goes_shifts (ha.2 z rfl) hy]
  | .nt (.e (.goes z) n ps), _, ha, _, _ => by
    simp only [F.all, F.tv, ek, val_up] at ha ⊢
    rw [goes_shifts (ha.2 z rfl) hy]
  | .nt (.e .above _ _), hs, _, _, _ => by simp [F.str] at hs
  | .nt (.e .nought _ _), hs, _, _, _ => by simp [F.str] at hs
  | .nt (.nt _), hs, _, _, _ => by simp [F.str] at hs
  | .nt (.nd _ _), hs, _, _, _ => by simp [F.str] at hs
  | .nt (.qn _ _ _), hs, _, _, _ => by simp [F.str] at hs
  | .nd true fs, hs, ha, hl, hh => by
    simp only [F.str, F.all, F.lows, F.highs, F.tv] at hs ha hl hh ⊢
    exact (tvs_far v x st y y' hy fs hs ha hl hh).1
  | .nd false fs, hs, ha, hl, hh => by
    simp only [F.str, F.all, F.lows, F.highs, F.tv] at hs ha hl hh ⊢
    exact (tvs_far v x st y y' hy fs hs ha hl hh).2
  | .qn _ _ _, hs, _, _, _ => by simp [F.str] at hs
theorem tvs_far (v : Str → Int) (x : Str) (st y y' : Int) (hy : st ∣ y - y') : ∀ fs : List F, F.strs fs = true → F.alls (One x st) fs → (∀ b ∈ F.lowss v x fs, y ≤ b ∧ y' ≤ b) → (∀ b ∈ F.highss v x fs, y < b ∧ y' < b) → F.tvA (up v x y) fs = F.tvA (up v x y') fs ∧ F.tvO (up v x y) fs = F.tvO (up v x y') fs
  | [], _, _, _, _ => ⟨rfl, rfl⟩
  | f :: fs, hs, ha, hl, hh => by
    simp only [F.strs, Bool.and_eq_true, F.alls, F.lowss, F.highss, List.mem_append] at hs ha hl hh
    obtain ⟨i1, i2⟩ := tvs_far v x st y y' hy fs hs.2 ha.2 (fun b hb => hl b (.inr hb)) (fun b hb => hh b (.inr hb))
    have h0 := tv_far v x st y y' hy f hs.1 ha.1 (fun b hb => hl b (.inl hb)) (fun b hb => hh b (.inl hb))
    simp only [F.tvA, F.tvO, h0, i1, i2]; exact ⟨trivial, trivial⟩
end
/-- where some number does, one of those tried does -/
theorem cooper (v : Str → Int) (x : Str) (st m0 : Int) (hst : 0 < st) (f : F) (hs : f.str = true) (ha : f.all (One x st)) (hl : ∀ b ∈ f.lows v x, m0 < b) (hh : ∀ b ∈ f.highs v x, m0 < b) (y : Int) (hy : f.tv (up v x y) = true) :
    (∃ k : Nat, (k : Int) < st ∧ f.tv (up v x (m0 - k)) = true) ∨ ∃ b ∈ f.lows v x, ∃ k : Int, 1 ≤ k ∧ k ≤ st ∧ f.tv (up v x (b + k)) = true := by
  by_cases hn : ∃ b ∈ f.lows v x, ∃ k : Int, 1 ≤ k ∧ k ≤ st ∧ f.tv (up v x (b + k)) = true
  · exact .inr hn
  · left
    have step : ∀ z, f.tv (up v x z) = true → f.tv (up v x (z - st)) = true := fun z hz => tv_down v x st z hst f hs ha (fun b hb q => hn ⟨b, hb, z - b, by omega, by omega, by
      have e : b + (z - b) = z := by omega
      rw [e]; exact hz⟩) hz
    have steps : ∀ j : Nat, f.tv (up v x (y - j * st)) = true := by
      intro j
      induction j with
      | zero => simpa using hy
      | succ j ih =>
        have := step _ ih
        have e : y - j * st - st = y - ((j + 1 : Nat) : Int) * st := by
          have : ((j + 1 : Nat) : Int) * st = j * st + st := by
            rw [Int.natCast_add, Int.add_mul]; simp
          omega
        rwa [e] at this
    -- far enough down
    obtain ⟨j, hj⟩ : ∃ j : Nat, y - j * st ≤ m0 := by
      refine ⟨(y - m0).toNat, ?_⟩
      have h1 : ((y - m0).toNat : Int) ≤ (y - m0).toNat * st := by
        have := Int.mul_le_mul_of_nonneg_left (show (1 : Int) ≤ st by omega) (show (0 : Int) ≤ (y - m0).toNat by omega)
        simpa using this
      omega
    have hz := steps j
    generalize y - j * st = z at hj hz
    have hm1 := Int.emod_nonneg (m0 - z) (show st ≠ 0 by omega)
    have hm2 := Int.emod_lt_of_pos (m0 - z) hst
    refine ⟨((m0 - z) % st).toNat, by omega, ?_⟩
    have hk : (((m0 - z) % st).toNat : Int) = (m0 - z) % st := by omega
    rw [hk, ← hz]
    have hd : st ∣ (m0 - (m0 - z) % st) - z := by
      have := Int.ediv_mul_add_emod (m0 - z) st
      exact ⟨(m0 - z) / st, by rw [Int.mul_comm]; omega⟩
    exact tv_far v x st _ _ hd f hs ha (fun b hb => by have := hl b hb; omega) (fun b hb => by have := hh b hb; omega)
/-! ### stretched -/
def sgn (i : Int) : Int := if 0 < i then 1 else -1
def EK.mul (c : Int) : EK → EK
  | .goes h => .goes (c * h)
  | k => k
/-- an end with size or its contrary as the share, and a new unknown for so many times the old -/
def strP (x : Str) (far : Int) (ps : Prs) : Prs := norm (norm ((wo x ps).map fun p => (p.1, far * p.2)) ++ [(x, sgn (tot x ps))])
def fr (x : Str) (size : Int) (ps : Prs) : Int := size / (tot x ps).natAbs
def F.strE (x : Str) (size : Int) (k : EK) (n : Int) (ps : Prs) : F := if tot x ps = 0 then .e k n ps else .e (k.mul (fr x size ps)) (fr x size ps * n) (strP x (fr x size ps) ps)
mutual
def F.stretch (x : Str) (size : Int) : F → F
  | .e k n ps => F.strE x size k n ps
  | .nt f => .nt (f.stretch x size)
  | .nd b fs => .nd b (F.stretchs x size fs)
  | .qn b y f => .qn b y f
def F.stretchs (x : Str) (size : Int) : List F → List F
  | [] => []
  | f :: fs => f.stretch x size :: F.stretchs x size fs
end
theorem stretchs_map (x : Str) (size : Int) : ∀ fs : List F, F.stretchs x size fs = fs.map (F.stretch x size)
  | [] => by simp [F.stretchs]
  | f :: fs => by simp [F.stretchs, stretchs_map x size fs]
theorem sv_strP (v : Str → Int) (x : Str) (far : Int) (ps : Prs) : sv v (strP x far ps) = far * sv v (wo x ps) + sgn (tot x ps) * v x := by
  unfold strP
  rw [sv_norm, sv_app, sv_norm, sv_scale]
  simp [sv]
theorem tot_wo (x : Str) (ps : Prs) : tot x (wo x ps) = 0 := by
  have := tot_without x x ps
  simpa using this
theorem tot_strP (x : Str) (far : Int) (ps : Prs) : tot x (strP x far ps) = sgn (tot x ps) := by
  unfold strP
  rw [tot_norm, tot_app, tot_norm, tot_scale, tot_wo]
  simp [tot]
theorem far_mul {x : Str} {size : Int} {ps : Prs} (h0 : tot x ps ≠ 0) (hd : ((tot x ps).natAbs : Int) ∣ size) : fr x size ps * tot x ps = sgn (tot x ps) * size := by
  obtain ⟨c, hc⟩ := hd
  have hn : ((tot x ps).natAbs : Int) ≠ 0 := by omega
  have hf : fr x size ps = c := by unfold fr; rw [hc, Int.mul_ediv_cancel_left _ hn]
  rw [hf]
  unfold sgn
  split
  · have : tot x ps = ((tot x ps).natAbs : Int) := by omega
    rw [hc, Int.one_mul, Int.mul_comm]; rw [← this]
  · have : tot x ps = -((tot x ps).natAbs : Int) := by omega
    rw [hc, Int.mul_comm]; rw [this]; simp [Int.neg_mul]
theorem far_pos {x : Str} {size : Int} {ps : Prs} (h0 : tot x ps ≠ 0) (hs : 0 < size) (hd : ((tot x ps).natAbs : Int) ∣ size) : 0 < fr x size ps := by
  obtain ⟨c, hc⟩ := hd
  have hn : ((tot x ps).natAbs : Int) ≠ 0 := by omega
  have hf : fr x size ps = c := by unfold fr; rw [hc, Int.mul_ediv_cancel_left _ hn]
  rw [hf]
  rcases Int.lt_or_le 0 c with q | q
  · exact q
  · have : ((tot x ps).natAbs : Int) * c ≤ 0 := Int.mul_nonpos_of_nonneg_of_nonpos (by omega) q
    omega
theorem str_val {v : Str → Int} {x : Str} {size n z : Int} {ps : Prs} (h0 : tot x ps ≠ 0) (hd : ((tot x ps).natAbs : Int) ∣ size) : fr x size ps * n + sv (up v x (size * z)) (strP x (fr x size ps) ps) = fr x size ps * (n + sv (up v x z) ps) := by
  rw [sv_strP, val_up]
  have e1 : up v x (size * z) x = size * z := by simp [up]
  have e2 : sv (up v x (size * z)) (wo x ps) = sv v (wo x ps) := sv_congr _ fun p hp => by
    have := (List.mem_filter.mp hp).2
    have hne : ¬ p.1 = x := by simpa using this
    simp [up, hne]
  rw [e1, e2]
  unfold rst
  rw [Int.mul_add, Int.mul_add, ← Int.mul_assoc (sgn _) size z, ← far_mul h0 hd, Int.mul_assoc]; omega
/-- all shares of x go into size -/
def Dv (x : Str) (size : Int) (k : EK) (_ : Int) (ps : Prs) : Prop := (tot x ps ≠ 0 → ((tot x ps).natAbs : Int) ∣ size) ∧ ∀ h, k = .goes h → 1 ≤ h
theorem ek_scale {c z : Int} (hc : 0 < c) : ∀ k : EK, (∀ h, k = .goes h → 1 ≤ h) → ek (k.mul c) (c * z) = ek k z
  | .above, _ => by
    simp only [EK.mul, ek]
    have : (0 < c * z) ↔ 0 < z := ⟨fun q => by
      rcases Int.lt_or_le 0 z with p | p
      · exact p
      · have := Int.mul_nonpos_of_nonneg_of_nonpos (show 0 ≤ c by omega) p; omega, fun q => Int.mul_pos hc q⟩
    simp [this]
  | .nought, _ => by
    simp only [EK.mul, ek]
    have : (c * z = 0) ↔ z = 0 := ⟨fun q => (Int.mul_eq_zero.mp q).elim (fun e => by omega) id, fun q => by rw [q]; simp⟩
    simp [this]
  | .goes h, _ => by
    simp only [EK.mul, ek]
    rw [Int.mul_emod_mul_of_pos _ _ hc]
    have : (c * (z % h) = 0) ↔ z % h = 0 := ⟨fun q => (Int.mul_eq_zero.mp q).elim (fun e => by omega) id, fun q => by rw [q]; simp⟩
    simp [this]
mutual
theorem stretch_tv (v : Str → Int) (x : Str) (size z : Int) (hs : 0 < size) : ∀ f : F, f.all (Dv x size) → f.plain = true → (f.stretch x size).tv (up v x (size * z)) = f.tv (up v x z)
  | .e k n ps, ha, _ => by
    simp only [F.all] at ha
    simp only [F.stretch, F.strE]
    split
    · rename_i h0
      simp only [F.tv, val_up, h0, Int.zero_mul]
    · rename_i h0
      simp only [F.tv]
      rw [str_val h0 (ha.1 h0), ek_scale (far_pos h0 hs (ha.1 h0)) k ha.2]
  | .nt f, ha, hp => by
    simp only [F.all, F.plain] at ha hp
    simp only [F.stretch, F.tv, stretch_tv v x size z hs f ha hp]
  | .nd true fs, ha, hp => by
    simp only [F.all, F.plain] at ha hp
    simp only [F.stretch, F.tv, (stretchs_tv v x size z hs fs ha hp).1]
  | .nd false fs, ha, hp => by
    simp only [F.all, F.plain] at ha hp
    simp only [F.stretch, F.tv, (stretchs_tv v x size z hs fs ha hp).2]
  | .qn _ _ _, _, hp => by simp [F.plain] at hp
theorem stretchs_tv (v : Str → Int) (x : Str) (size z : Int) (hs : 0 < size) : ∀ fs : List F, F.alls (Dv x size) fs → F.plains fs = true → F.tvA (up v x (size * z)) (F.stretchs x size fs) = F.tvA (up v x z) fs ∧ F.tvO (up v x (size * z)) (F.stretchs x size fs) = F.tvO (up v x z) fs
  | [], _, _ => ⟨rfl, rfl⟩
  | f :: fs, ha, hp => by
    simp only [F.alls, F.plains, Bool.and_eq_true] at ha hp
    obtain ⟨i1, i2⟩ := stretchs_tv v x size z hs fs ha.2 hp.2
    have h := stretch_tv v x size z hs f ha.1 hp.1
    simp only [F.stretchs, F.tvA, F.tvO, h, i1, i2]; exact ⟨trivial, trivial⟩
end
end Pf

set_option Elab.async false
set_option linter.all false
set_option maxRecDepth 100000
set_option maxHeartbeats 4000000
namespace Pf
open PySem L2
/-! ## what prepared, bounds_of, tries_of reckon -/
mutual
def F.ends : F → List F
  | .e k n ps => [.e k n ps]
  | .nt f => [f]
  | .nd _ fs => F.endss fs
  | .qn b x f => [.qn b x f]
def F.endss : List F → List F
  | [] => []
  | f :: fs => f.ends ++ F.endss fs
end
mutual
theorem ends_len : ∀ f : F, f.str = true → f.ends.length ≤ f.cnt
  | .e _ _ _, _ => by simp [F.ends, F.cnt]
  | .nt (.e (.goes z) n ps), _ => by simp [F.ends, F.cnt]
  | .nt (.e .above _ _), hs => by simp [F.str] at hs
  | .nt (.e .nought _ _), hs => by simp [F.str] at hs
  | .nt (.nt _), hs => by simp [F.str] at hs
  | .nt (.nd _ _), hs => by simp [F.str] at hs
  | .nt (.qn _ _ _), hs => by simp [F.str] at hs
  | .nd _ fs, hs => by simp only [F.str] at hs; simp only [F.ends, F.cnt]; exact endss_len fs hs
  | .qn _ _ _, hs => by simp [F.str] at hs
theorem endss_len : ∀ fs : List F, F.strs fs = true → (F.endss fs).length ≤ F.cnts fs
  | [], _ => by simp [F.endss, F.cnts]
  | f :: fs, hs => by
    simp only [F.strs, Bool.and_eq_true] at hs
    have h1 := ends_len f hs.1
    have h2 := endss_len fs hs.2
    simp only [F.endss, F.cnts, List.length_append]; omega
end
theorem cnts_mem {f : F} : ∀ {fs : List F}, f ∈ fs → f.cnt ≤ F.cnts fs
  | g :: fs, h => by
    rcases List.mem_cons.mp h with rfl | h
    · exact Nat.le_add_right _ _
    · exact Nat.le_trans (cnts_mem h) (Nat.le_add_left _ _)
mutual
/-- all ends of a straight statement are above or goes -/
theorem ends_all {P : EK → Int → Prs → Prop} : ∀ f : F, f.str = true → f.all P → ∀ g ∈ f.ends, ∃ k n ps, g = .e k n ps ∧ k ≠ .nought ∧ P k n ps
  | .e .above n ps, _, ha, g, hg => by simp only [F.all] at ha; simp [F.ends] at hg; exact ⟨_, _, _, hg, (fun e => by cases e), ha⟩
  | .e .nought _ _, hs, _, _, _ => by simp [F.str] at hs
  | .e (.goes z) n ps, _, ha, g, hg => by simp only [F.all] at ha; simp [F.ends] at hg; exact ⟨_, _, _, hg, (fun e => by cases e), ha⟩
  | .nt (.e (.goes z) n ps), _, ha, g, hg => by simp only [F.all] at ha; simp [F.ends] at hg; exact ⟨_, _, _, hg, (fun e => by cases e), ha⟩
  | .nt (.e .above _ _), hs, _, _, _ => by simp [F.str] at hs
  | .nt (.e .nought _ _), hs, _, _, _ => by simp [F.str] at hs
  | .nt (.nt _), hs, _, _, _ => by simp [F.str] at hs
  | .nt (.nd _ _), hs, _, _, _ => by simp [F.str] at hs
  | .nt (.qn _ _ _), hs, _, _, _ => by simp [F.str] at hs
  | .nd _ fs, hs, ha, g, hg => by simp only [F.str, F.all, F.ends] at hs ha hg; exact endss_all fs hs ha g hg
  | .qn _ _ _, hs, _, _, _ => by simp [F.str] at hs
theorem endss_all {P : EK → Int → Prs → Prop} : ∀ fs : List F, F.strs fs = true → F.alls P fs → ∀ g ∈ F.endss fs, ∃ k n ps, g = .e k n ps ∧ k ≠ .nought ∧ P k n ps
  | [], _, _, g, hg => by simp [F.endss] at hg
  | f :: fs, hs, ha, g, hg => by
    simp only [F.strs, Bool.and_eq_true, F.alls, F.endss, List.mem_append] at hs ha hg
    rcases hg with hg | hg
    · exact ends_all f hs.1 ha.1 g hg
    · exact endss_all fs hs.2 ha.2 g hg
end
mutual
/-- what holds of all ends holds of the statement -/
theorem all_ends {P : EK → Int → Prs → Prop} : ∀ f : F, f.str = true → (∀ k n ps, .e k n ps ∈ f.ends → P k n ps) → f.all P
  | .e k n ps, _, h => by simp only [F.all]; exact h _ _ _ (by simp [F.ends])
  | .nt (.e (.goes z) n ps), _, h => by simp only [F.all]; exact h _ _ _ (by simp [F.ends])
  | .nt (.e .above _ _), hs, _ => by simp [F.str] at hs
  | .nt (.e .nought _ _), hs, _ => by simp [F.str] at hs
  | .nt (.nt _), hs, _ => by simp [F.str] at hs
  | .nt (.nd _ _), hs, _ => by simp [F.str] at hs
  | .nt (.qn _ _ _), hs, _ => by simp [F.str] at hs
  | .nd _ fs, hs, h => by simp only [F.str, F.all, F.ends] at hs h ⊢; exact alls_ends fs hs h
  | .qn _ _ _, hs, _ => by simp [F.str] at hs
theorem alls_ends {P : EK → Int → Prs → Prop} : ∀ fs : List F, F.strs fs = true → (∀ k n ps, .e k n ps ∈ F.endss fs → P k n ps) → F.alls P fs
  | [], _, _ => trivial
  | f :: fs, hs, h => by
    simp only [F.strs, Bool.and_eq_true, F.alls, F.endss, List.mem_append] at hs h ⊢
    exact ⟨all_ends f hs.1 fun k n ps q => h k n ps (.inl q), alls_ends fs hs.2 fun k n ps q => h k n ps (.inr q)⟩
end
theorem ends_of_eq : ∀ (n : Nat) (f : F), f.dep ≤ n → f.str = true → f.cnt ≤ 16777216 → m_ends_of n [.t f.enc] = .ok (.lst (f.ends.map F.enc))
  | 0, f, h, _, _ => by cases f <;> simp [F.dep] at h
  | n + 1, f, h, hs, hc => by
    unfold m_ends_of g_ends_of
    rw [runDef_Rt]
    cases f with
    | e k y ps => cases k <;> simp [F.enc, F.ends]
    | nt f => simp [F.enc, F.ends]
    | qn b y f => simp [F.str] at hs
    | nd b fs =>
      simp only [F.dep, F.str, F.cnt] at h hs hc
      have key : ∀ (gs : List F) (acc : List F) (k3 : Sl), (∀ g ∈ gs, g ∈ fs) → acc.length + F.cnts gs ≤ 16777216 → ∃ k', forR 3 (extO 2 (ap (m_ends_of n) (cA (rdE 3) nA))) (F.encs gs) [.d (.t (F.enc (.nd b fs))) false, .d (.t (.str (bw b))) true, .d (.lst (acc.map F.enc)) true, k3] = .ok (.nx [.d (.t (F.enc (.nd b fs))) false, .d (.t (.str (bw b))) true, .d (.lst ((acc ++ F.endss gs).map F.enc)) true, k']) := by
        intro gs
        induction gs with
        | nil => intro acc k3 _ _; exact ⟨k3, by simp [F.encs, F.endss]⟩
        | cons g gs ih =>
          intro acc k3 hm hl
          have hg := hm g (by simp)
          have h1 := deps_mem hg
          have h2 := cnts_mem hg
          have hgs := strs_mem hs hg
          have hr := ends_of_eq n g (by omega) hgs (by omega)
          have hgl := ends_len g hgs
          simp only [F.cnts] at hl
          obtain ⟨k', e⟩ := ih (acc ++ g.ends) (.d (.t g.enc) true) (fun x hx => hm x (List.mem_cons_of_mem _ hx)) (by rw [List.length_append]; omega)
          have h3 : acc.length + g.ends.length ≤ 16777216 := by omega
          refine ⟨k', ?_⟩
          simp only [F.encs, F.endss, forR, List.set_cons_succ, List.set_cons_zero, extO, ap, cA, nA, rdE_0, rdE_s, R.ok_bind, hr, List.getElem?_cons_succ, List.getElem?_cons_zero, List.length_map, if_pos h3, ← List.map_append, e, List.append_assoc]
      obtain ⟨k', e⟩ := key fs [] .un (fun g hg => hg) (by simp; exact hc)
      simp only [F.enc, List.map_nil, List.nil_append] at e
      cases b <;> simp [F.enc, F.ends, retN] at e ⊢ <;> simp [e]
/-! ### the least number that two go into -/
def lcmI (a b : Int) : Int := (Int.lcm a b : Int)
theorem gcd_loop (a0 b0 : Sl) : ∀ (fuel : Nat) (hi lo : Int), 0 < hi → 0 ≤ lo → lo < fuel → whR (tV (b2 gtD (rdE 3) (kI 0))) (parO2 2 3 (cA (rdE 3) (cA (b2 modD (rdE 2) (rdE 3)) nA))) fuel [a0, b0, .d (.t (.int hi)) true, .d (.t (.int lo)) true] = .ok (.nx [a0, b0, .d (.t (.int (Int.gcd hi lo : Int))) true, .d (.t (.int 0)) true])
  | 0, hi, lo, _, h1, h2 => by omega
  | fuel + 1, hi, lo, h0, h1, h2 => by
    unfold whR
    by_cases hl : 0 < lo
    · have hm := mod_ii hi lo hl
      have hm1 := Int.emod_nonneg hi (show lo ≠ 0 by omega)
      have hm2 := Int.emod_lt_of_pos hi hl
      have ih := gcd_loop a0 b0 fuel lo (hi % lo) hl hm1 (by omega)
      have e : Int.gcd lo (hi % lo) = Int.gcd hi lo := by
        show Nat.gcd lo.natAbs (hi % lo).natAbs = Nat.gcd hi.natAbs lo.natAbs
        rw [Int.natAbs_emod_of_nonneg (by omega), Nat.gcd_comm hi.natAbs lo.natAbs, Nat.gcd_rec lo.natAbs hi.natAbs, Nat.gcd_comm]
      rw [e] at ih
      simp [hl, hm, ih]
    · have : lo = 0 := by omega
      subst this
      have e : (Int.gcd hi 0 : Int) = hi := by simp; omega
      rw [e]; simp
theorem least_times_eq (a b : Int) (ha : 0 < a) (hb : 0 < b) (hb2 : b < 1000) : m_least_times [.t (.int a), .t (.int b)] = .ok (.t (.int (lcmI a b))) := by
  have hg := gcd_loop (.d (.t (.int a)) false) (.d (.t (.int b)) false) 1000 a b ha (by omega) (by omega)
  have hgp : 0 < (Int.gcd a b : Int) := by
    have := Int.gcd_pos_of_ne_zero_left b (show a ≠ 0 by omega)
    omega
  have hgb : (Int.gcd a b : Int) ≤ b := Int.le_of_dvd hb (Int.gcd_dvd_right ..)
  have hd := div_ii a (Int.gcd a b : Int) hgp (by omega)
  have hm := mul_r (a / (Int.gcd a b : Int)) b (by omega) (by omega)
  have e : a / (Int.gcd a b : Int) * b = lcmI a b := by
    unfold lcmI
    obtain ⟨c, hc⟩ := Int.gcd_dvd_left (a := a) (b := b)
    have h1 : (Int.gcd a b : Int) * (Int.lcm a b : Int) = (a * b).natAbs := by
      have := Int.gcd_mul_lcm a b
      rw [← Int.natAbs_mul] at this
      exact_mod_cast this
    have h2 : ((a * b).natAbs : Int) = a * b := Int.natAbs_of_nonneg (Int.mul_nonneg (by omega) (by omega))
    have h3 : a / (Int.gcd a b : Int) = c := by
      have : a = (Int.gcd a b : Int) * c := hc
      exact Int.ediv_eq_of_eq_mul_right (by omega) this
    rw [h3]
    have h4 : (Int.gcd a b : Int) * (c * b) = (Int.gcd a b : Int) * (Int.lcm a b : Int) := by
      rw [h1, h2, ← Int.mul_assoc, ← hc]
    exact Int.eq_of_mul_eq_mul_left (by omega) h4
  rw [e] at hm
  unfold m_least_times g_least_times
  rw [runDef_Rt]
  simp [hg, hd, hm]
theorem lcmI_pos {a b : Int} (ha : 0 < a) (hb : 0 < b) : 0 < lcmI a b := by
  unfold lcmI
  have := Int.lcm_pos (show a ≠ 0 by omega) (show b ≠ 0 by omega)
  omega
theorem dvd_lcmI_l (a b : Int) : a ∣ lcmI a b := Int.dvd_lcm_left ..
theorem dvd_lcmI_r (a b : Int) : b ∣ lcmI a b := Int.dvd_lcm_right ..
theorem lcmI_dvd {a b q : Int} (h1 : a ∣ q) (h2 : b ∣ q) : lcmI a b ∣ q := by
  unfold lcmI; exact Int.coe_lcm_dvd h1 h2
/-! ### stretched -/
/-- an end of a sum of few names, each once, shares small -/
def Sm (N : List Str) (B : Nat) (k : EK) (_ : Int) (ps : Prs) : Prop := Rg N ps ∧ (∀ p ∈ ps, p.2.natAbs ≤ B) ∧ ∀ h, k = .goes h → 1 ≤ h ∧ h ≤ B
theorem rg_len {N : List Str} {ps : Prs} (h : Rg N ps) : ps.length ≤ N.length := by
  have := h.sub.length_le
  rwa [List.length_map, (srtS_perm N).length_eq] at this
theorem norm_rg {N : List Str} {ps : Prs} (h : Rg N ps) (hd : N.Nodup) : norm ps = ps := by
  obtain ⟨o1, o2⟩ := rg_own h hd
  have hs : srtS (ps.map (·.1)) = ps.map (·.1) := by
    have h1 : (ps.map (·.1)).Pairwise fun a b => leS a b = true := (srtS_pw N).sublist h.sub
    exact (srtS_perm _).eq_of_pairwise (fun a b _ _ h1 h2 => leS_antisymm h1 h2) (srtS_pw _) h1
  rw [norm_over o1 (fun p hp => List.mem_map_of_mem hp), hs]
  have hf : (ps.map (·.1)).filter (fun s => decide (tot s ps ≠ 0)) = ps.map (·.1) := by
    rw [List.filter_eq_self]
    intro s hs
    obtain ⟨p, hp, rfl⟩ := List.mem_map.mp hs
    have := tot_at o1 hp
    have := h.ne p hp
    simp; omega
  rw [hf, List.map_map]
  conv => rhs; rw [← List.map_id ps]
  apply List.map_congr_left
  intro p hp
  simp [tot_at o1 hp]
theorem tot_le {N : List Str} {ps : Prs} {B : Nat} (h : Rg N ps) (hd : N.Nodup) (hb : ∀ p ∈ ps, p.2.natAbs ≤ B) (x : Str) : (tot x ps).natAbs ≤ B := by
  by_cases e : tot x ps = 0
  · rw [e]; simp
  · obtain ⟨p, hp, rfl⟩ := List.mem_map.mp (tot_mem e)
    rw [tot_at (h.nodup hd) hp]
    exact hb p hp
theorem end_stretched_eq {N : List Str} (hd : N.Nodup) (hN : N.length < 10) (x : Str) (size : Int) (hs : 0 < size) (hs2 : size < 1000) (k : EK) (n : Int) (ps : Prs) (hk : k ≠ .nought) (h : Sm N 1000 k n ps) : m_end_stretched [.t (F.e k n ps).enc, .t (.str x), .t (.int size)] = .ok (.t (F.strE x size k n ps).enc) := by
  obtain ⟨h1, h2, h3⟩ := h
  have hl := rg_len h1
  have hsh := share_eq n x ps
  rw [vl_tot (h1.nodup hd)] at hsh
  have htl := tot_le h1 hd h2 x
  unfold m_end_stretched g_end_stretched
  rw [runDef_Rt]
  unfold F.strE
  by_cases h0 : tot x ps = 0
  · rw [if_pos h0]
    rw [h0] at hsh
    cases k with
    | nought => exact absurd rfl hk
    | above => simp [F.enc, hsh, retN]
    | goes z => simp [F.enc, hsh, retN]
  · rw [if_neg h0]
    have hab : absD [.t (.int (tot x ps))] = .ok (.t (.int ((tot x ps).natAbs : Int))) := by
      simp only [absD]; congr 3; split <;> omega
    have hd1 : divD (.t (.int size)) (.t (.int ((tot x ps).natAbs : Int))) = .ok (.t (.int (fr x size ps))) := div_ii _ _ (by omega) (by omega)
    have hd2 : divD (.t (.int (tot x ps))) (.t (.int ((tot x ps).natAbs : Int))) = .ok (.t (.int (sgn (tot x ps)))) := by
      rw [div_ii _ _ (by omega) (by omega)]
      congr 3
      unfold sgn
      split
      · have : tot x ps = ((tot x ps).natAbs : Int) := by omega
        conv => lhs; lhs; rw [this]
        exact Int.ediv_self (by omega)
      · have : tot x ps = -((tot x ps).natAbs : Int) := by omega
        conv => lhs; lhs; rw [this]
        rw [Int.neg_ediv_of_dvd (Int.dvd_refl _), Int.ediv_self (by omega)]
    have hf : fr x size ps ≤ size ∧ 0 ≤ fr x size ps := by
      unfold fr
      exact ⟨Int.ediv_le_self _ (by omega), Int.ediv_nonneg (by omega) (by omega)⟩
    have hw := without_eq n x ps (by omega)
    have hwl := List.length_filter_le (fun p : Str × Int => !decide (p.1 = x)) ps
    have ht := times_eq (fr x size ps) n (wo x ps) (by show (List.filter _ _).length < 64; omega) (mulOk_l (by omega) (by omega)) (fun p hp => mulOk_l (by omega) (by omega))
    have hnl := norm_len ((wo x ps).map fun p => (p.1, fr x size ps * p.2))
    rw [List.length_map] at hnl
    have hwl2 : (wo x ps).length ≤ ps.length := hwl
    have ha := added_eq (fr x size ps * n) 0 (norm ((wo x ps).map fun p => (p.1, fr x size ps * p.2))) [(x, sgn (tot x ps))] (by simp; omega)
    have e0 : fr x size ps * n + 0 = fr x size ps * n := by omega
    rw [e0] at ha
    have hsm : T.tup [.int 0, .tup [.tup [.str x, .int (sgn (tot x ps))]]] = smT 0 [(x, sgn (tot x ps))] := rfl
    cases k with
    | nought => exact absurd rfl hk
    | above => simp [F.enc, hsh, h0, hab, hd1, hd2, hw, ht, hsm, ha, EK.mul, strP]
    | goes z =>
      have hz := h3 z rfl
      have hm := mul_l (fr x size ps) z (by omega) (by omega)
      simp [F.enc, hsh, h0, hab, hd1, hd2, hw, ht, hsm, ha, EK.mul, strP, hm]
theorem stretched_eq {N : List Str} (hd : N.Nodup) (hN : N.length < 10) (x : Str) (size : Int) (hs : 0 < size) (hs2 : size < 1000) : ∀ (n : Nat) (f : F), f.dep ≤ n → f.str = true → f.wid ≤ 16777216 → f.all (Sm N 1000) → m_stretched n [.t f.enc, .t (.str x), .t (.int size)] = .ok (.t (f.stretch x size).enc)
  | 0, f, h, _, _, _ => by cases f <;> simp [F.dep] at h
  | n + 1, f, h, hst, hw, ha => by
    unfold m_stretched g_stretched
    rw [runDef_Rt]
    cases f with
    | e k y ps =>
      simp only [F.all] at ha
      cases k with
      | nought => simp [F.str] at hst
      | above =>
        have e := end_stretched_eq hd hN x size hs hs2 .above y ps (fun e => by cases e) ha
        simp only [F.enc] at e
        simp [F.enc, F.stretch, e]
      | goes z =>
        have e := end_stretched_eq hd hN x size hs hs2 (.goes z) y ps (fun e => by cases e) ha
        simp only [F.enc] at e
        simp [F.enc, F.stretch, e]
    | nt f =>
      cases f with
      | e k y ps =>
        simp only [F.all] at ha
        cases k with
        | nought => simp [F.str] at hst
        | above => simp [F.str] at hst
        | goes z =>
          have e := end_stretched_eq hd hN x size hs hs2 (.goes z) y ps (fun e => by cases e) ha
          simp only [F.enc] at e
          simp [F.enc, F.stretch, e]
      | _ => simp [F.str] at hst
    | qn b y f => simp [F.str] at hst
    | nd b fs =>
      simp only [F.dep, F.str, F.wid, F.all] at h hst hw ha
      have hl : ∀ ρ : Ev, (∀ z o, rdE 4 (ρ.set 4 (.d z o)) = .ok z) → (∀ z, rdE 1 (ρ.set 4 z) = .ok (.t (.str x))) → (∀ z, rdE 2 (ρ.set 4 z) = .ok (.t (.int size))) → lcR 4 yes (ap (m_stretched n) (cA (rdE 4) (cA (rdE 1) (cA (rdE 2) nA)))) ρ (F.encs fs) = .ok (F.encs (F.stretchs x size fs)) := by
        intro ρ h1 h2 h3
        rw [encs_map, encs_map, stretchs_map]
        have := lcR_map (j := 4) (c := yes) (el := ap (m_stretched n) (cA (rdE 4) (cA (rdE 1) (cA (rdE 2) nA)))) (ρ := ρ) F.enc (fun _ => true) (fun f => (f.stretch x size).enc) fs (fun f hf => ⟨rfl, fun _ => by
          have hdm := deps_mem hf
          have hw2 := wids_mem hf
          have := stretched_eq hd hN x size hs hs2 n f (by omega) (strs_mem hst hf) (by omega) (alls_mem ha hf)
          simp only [ap, cA, nA, h1, h2, h3, R.ok_bind, this]⟩)
        have ef : fs.filter (fun _ => true) = fs := by simp
        rw [ef] at this
        rw [this, List.map_map]; rfl
      have hl' := hl [.d (.t (F.enc (.nd b fs))) false, .d (.t (.str x)) false, .d (.t (.int size)) false, .d (.t (.str (bw b))) true, .un] (fun z o => rfl) (fun z => rfl) (fun z => rfl)
      have hlen : (F.encs fs).length ≤ 16777216 := by rw [encs_len]; omega
      simp only [F.enc] at hl'
      cases b <;> simp [F.enc, F.stretch, hlen] at hl' ⊢ <;> simp [hl']
end Pf

set_option Elab.async false
set_option linter.all false
set_option maxRecDepth 100000
set_option maxHeartbeats 4000000
namespace Pf
open PySem L2
/-! ## prepared -/
def szOf (x : Str) : Int → List F → Int
  | s, [] => s
  | s, .e _ _ ps :: r => szOf x (if tot x ps = 0 then s else lcmI s ((tot x ps).natAbs : Int)) r
  | s, _ :: r => szOf x s r
def stOf (x : Str) : Int → List F → Int
  | s, [] => s
  | s, .e (.goes h) _ ps :: r => stOf x (if tot x ps = 0 then s else lcmI s h) r
  | s, _ :: r => stOf x s r
theorem szOf_pos (x : Str) : ∀ (es : List F) (s : Int), 0 < s → 0 < szOf x s es
  | [], s, h => h
  | .e k n ps :: r, s, h => by
    unfold szOf
    split
    · exact szOf_pos x r s h
    · rename_i h0; exact szOf_pos x r _ (lcmI_pos h (by omega))
  | .nt _ :: r, s, h => by unfold szOf; exact szOf_pos x r s h
  | .nd _ _ :: r, s, h => by unfold szOf; exact szOf_pos x r s h
  | .qn _ _ _ :: r, s, h => by unfold szOf; exact szOf_pos x r s h
theorem stOf_pos (x : Str) : ∀ (es : List F) (s : Int), 0 < s → (∀ h n ps, .e (.goes h) n ps ∈ es → 1 ≤ h) → 0 < stOf x s es
  | [], s, h, _ => h
  | .e (.goes z) n ps :: r, s, h, hg => by
    have hz := hg z n ps (by simp)
    unfold stOf
    split
    · exact stOf_pos x r s h fun z n ps q => hg z n ps (List.mem_cons_of_mem _ q)
    · exact stOf_pos x r _ (lcmI_pos h (by omega)) fun z n ps q => hg z n ps (List.mem_cons_of_mem _ q)
  | .e .above _ _ :: r, s, h, hg => by unfold stOf; exact stOf_pos x r s h fun z n ps q => hg z n ps (List.mem_cons_of_mem _ q)
  | .e .nought _ _ :: r, s, h, hg => by unfold stOf; exact stOf_pos x r s h fun z n ps q => hg z n ps (List.mem_cons_of_mem _ q)
  | .nt _ :: r, s, h, hg => by unfold stOf; exact stOf_pos x r s h fun z n ps q => hg z n ps (List.mem_cons_of_mem _ q)
  | .nd _ _ :: r, s, h, hg => by unfold stOf; exact stOf_pos x r s h fun z n ps q => hg z n ps (List.mem_cons_of_mem _ q)
  | .qn _ _ _ :: r, s, h, hg => by unfold stOf; exact stOf_pos x r s h fun z n ps q => hg z n ps (List.mem_cons_of_mem _ q)
theorem szOf_dvd (x : Str) (Q : Int) : ∀ (es : List F) (s : Int), s ∣ Q → (∀ k n ps, .e k n ps ∈ es → tot x ps ≠ 0 → ((tot x ps).natAbs : Int) ∣ Q) → szOf x s es ∣ Q
  | [], s, h, _ => h
  | .e k n ps :: r, s, h, hg => by
    unfold szOf
    split
    · exact szOf_dvd x Q r s h fun k n ps q => hg k n ps (List.mem_cons_of_mem _ q)
    · rename_i h0; exact szOf_dvd x Q r _ (lcmI_dvd h (hg k n ps (by simp) h0)) fun k n ps q => hg k n ps (List.mem_cons_of_mem _ q)
  | .nt _ :: r, s, h, hg => by unfold szOf; exact szOf_dvd x Q r s h fun k n ps q => hg k n ps (List.mem_cons_of_mem _ q)
  | .nd _ _ :: r, s, h, hg => by unfold szOf; exact szOf_dvd x Q r s h fun k n ps q => hg k n ps (List.mem_cons_of_mem _ q)
  | .qn _ _ _ :: r, s, h, hg => by unfold szOf; exact szOf_dvd x Q r s h fun k n ps q => hg k n ps (List.mem_cons_of_mem _ q)
theorem stOf_dvd (x : Str) (Q : Int) : ∀ (es : List F) (s : Int), s ∣ Q → (∀ h n ps, .e (.goes h) n ps ∈ es → tot x ps ≠ 0 → h ∣ Q) → stOf x s es ∣ Q
  | [], s, h, _ => h
  | .e (.goes z) n ps :: r, s, h, hg => by
    unfold stOf
    split
    · exact stOf_dvd x Q r s h fun k n ps q => hg k n ps (List.mem_cons_of_mem _ q)
    · rename_i h0; exact stOf_dvd x Q r _ (lcmI_dvd h (hg z n ps (by simp) h0)) fun k n ps q => hg k n ps (List.mem_cons_of_mem _ q)
  | .e .above _ _ :: r, s, h, hg => by unfold stOf; exact stOf_dvd x Q r s h fun k n ps q => hg k n ps (List.mem_cons_of_mem _ q)
  | .e .nought _ _ :: r, s, h, hg => by unfold stOf; exact stOf_dvd x Q r s h fun k n ps q => hg k n ps (List.mem_cons_of_mem _ q)
  | .nt _ :: r, s, h, hg => by unfold stOf; exact stOf_dvd x Q r s h fun k n ps q => hg k n ps (List.mem_cons_of_mem _ q)
  | .nd _ _ :: r, s, h, hg => by unfold stOf; exact stOf_dvd x Q r s h fun k n ps q => hg k n ps (List.mem_cons_of_mem _ q)
  | .qn _ _ _ :: r, s, h, hg => by unfold stOf; exact stOf_dvd x Q r s h fun k n ps q => hg k n ps (List.mem_cons_of_mem _ q)
theorem szOf_base (x : Str) : ∀ (es : List F) (s : Int), s ∣ szOf x s es
  | [], s => Int.dvd_refl _
  | .e k n ps :: r, s => by
    unfold szOf
    split
    · exact szOf_base x r s
    · exact Int.dvd_trans (dvd_lcmI_l _ _) (szOf_base x r _)
  | .nt _ :: r, s => by unfold szOf; exact szOf_base x r s
  | .nd _ _ :: r, s => by unfold szOf; exact szOf_base x r s
  | .qn _ _ _ :: r, s => by unfold szOf; exact szOf_base x r s
theorem stOf_base (x : Str) : ∀ (es : List F) (s : Int), s ∣ stOf x s es
  | [], s => Int.dvd_refl _
  | .e (.goes z) n ps :: r, s => by
    unfold stOf
    split
    · exact stOf_base x r s
    · exact Int.dvd_trans (dvd_lcmI_l _ _) (stOf_base x r _)
  | .e .above _ _ :: r, s => by unfold stOf; exact stOf_base x r s
  | .e .nought _ _ :: r, s => by unfold stOf; exact stOf_base x r s
  | .nt _ :: r, s => by unfold stOf; exact stOf_base x r s
  | .nd _ _ :: r, s => by unfold stOf; exact stOf_base x r s
  | .qn _ _ _ :: r, s => by unfold stOf; exact stOf_base x r s
theorem szOf_all (x : Str) : ∀ (es : List F) (s : Int) (k : EK) (n : Int) (ps : Prs), .e k n ps ∈ es → tot x ps ≠ 0 → ((tot x ps).natAbs : Int) ∣ szOf x s es
  | .e k' n' ps' :: r, s, k, n, ps, hm, h0 => by
    unfold szOf
    rcases List.mem_cons.mp hm with q | q
    · cases q
      rw [if_neg h0]
      exact Int.dvd_trans (dvd_lcmI_r _ _) (szOf_base x r _)
    · exact szOf_all x r _ k n ps q h0
  | .nt _ :: r, s, k, n, ps, hm, h0 => by
    unfold szOf
    rcases List.mem_cons.mp hm with q | q
    · cases q
    · exact szOf_all x r _ k n ps q h0
  | .nd _ _ :: r, s, k, n, ps, hm, h0 => by
    unfold szOf
    rcases List.mem_cons.mp hm with q | q
    · cases q
    · exact szOf_all x r _ k n ps q h0
  | .qn _ _ _ :: r, s, k, n, ps, hm, h0 => by
    unfold szOf
    rcases List.mem_cons.mp hm with q | q
    · cases q
    · exact szOf_all x r _ k n ps q h0
theorem stOf_all (x : Str) : ∀ (es : List F) (s : Int) (h n : Int) (ps : Prs), .e (.goes h) n ps ∈ es → tot x ps ≠ 0 → h ∣ stOf x s es
  | .e (.goes z) n' ps' :: r, s, h, n, ps, hm, h0 => by
    unfold stOf
    rcases List.mem_cons.mp hm with q | q
    · cases q
      rw [if_neg h0]
      exact Int.dvd_trans (dvd_lcmI_r _ _) (stOf_base x r _)
    · exact stOf_all x r _ h n ps q h0
  | .e .above _ _ :: r, s, h, n, ps, hm, h0 => by
    unfold stOf
    rcases List.mem_cons.mp hm with q | q
    · cases q
    · exact stOf_all x r _ h n ps q h0
  | .e .nought _ _ :: r, s, h, n, ps, hm, h0 => by
    unfold stOf
    rcases List.mem_cons.mp hm with q | q
    · cases q
    · exact stOf_all x r _ h n ps q h0
  | .nt _ :: r, s, h, n, ps, hm, h0 => by
    unfold stOf
    rcases List.mem_cons.mp hm with q | q
    · cases q
    · exact stOf_all x r _ h n ps q h0
  | .nd _ _ :: r, s, h, n, ps, hm, h0 => by
    unfold stOf
    rcases List.mem_cons.mp hm with q | q
    · cases q
    · exact stOf_all x r _ h n ps q h0
  | .qn _ _ _ :: r, s, h, n, ps, hm, h0 => by
    unfold stOf
    rcases List.mem_cons.mp hm with q | q
    · cases q
    · exact stOf_all x r _ h n ps q h0
/-! ### what prepared tells -/
def F.size (x : Str) (f : F) : Int := szOf x 1 (f.turn true).ends
def F.lined (x : Str) (f : F) : F := if f.size x > 1 then .nd true [(f.turn true).stretch x (f.size x), .e (.goes (f.size x)) 0 [(x, 1)]] else (f.turn true).stretch x (f.size x)
def F.step (x : Str) (f : F) : Int := stOf x 1 (f.lined x).ends
/-- an end whose share can be told -/
def Tl (k : EK) (_ : Int) (ps : Prs) : Prop := (ps.map (·.1)).Nodup ∧ ∀ h, k = .goes h → 1 ≤ h ∧ h < 1000
theorem loop_size (x : Str) (a0 a1 a2 a5 : Sl) : ∀ (es : List F) (s : Int) (k4 k6 : Sl), 0 < s → (∀ g ∈ es, ∃ k n ps, g = .e k n ps ∧ k ≠ .nought ∧ (ps.map (·.1)).Nodup ∧ (tot x ps).natAbs < 1000) →
    ∃ k4' k6', forR 4 (seqO (setO 6 (ap m_share (cA (b2 ixD (rdE 4) (u1 negD (kI 1))) (cA (rdE 1) nA))))
    (ifO (tV (b2 neD (rdE 6) (kI 0))) (setO 3 (ap m_least_times (cA (rdE 3) (cA (ap absD (cA (rdE 6) nA)) nA)))) nxO)) (es.map F.enc) [a0, .d (.t (.str x)) false, a2, .d (.t (.int s)) true, k4, a5, k6] = .ok (.nx [a0, .d (.t (.str x)) false, a2, .d (.t (.int (szOf x s es))) true, k4', a5, k6'])
  | [], s, k4, k6, _, _ => ⟨k4, k6, by simp [szOf]⟩
  | g :: es, s, k4, k6, hs, hg => by
    obtain ⟨k, n, ps, rfl, hk, h1, h2⟩ := hg g (by simp)
    have hsh := share_eq n x ps
    rw [vl_tot h1] at hsh
    have hab : absD [.t (.int (tot x ps))] = .ok (.t (.int ((tot x ps).natAbs : Int))) := by
      simp only [absD]; congr 3; split <;> omega
    by_cases h0 : tot x ps = 0
    · obtain ⟨k4', k6', e⟩ := loop_size x a0 a1 a2 a5 es s (.d (.t (F.e k n ps).enc) true) (.d (.t (.int 0)) true) hs fun g q => hg g (List.mem_cons_of_mem _ q)
      refine ⟨k4', k6', ?_⟩
      rw [h0] at hsh
      unfold szOf
      rw [if_pos h0, ← e]
      cases k with
      | nought => exact absurd rfl hk
      | above => simp [forR, F.enc, hsh]
      | goes z => simp [forR, F.enc, hsh]
    · have hlt := least_times_eq s ((tot x ps).natAbs : Int) hs (by omega) (by omega)
      obtain ⟨k4', k6', e⟩ := loop_size x a0 a1 a2 a5 es (lcmI s ((tot x ps).natAbs : Int)) (.d (.t (F.e k n ps).enc) true) (.d (.t (.int (tot x ps))) true) (lcmI_pos hs (by omega)) fun g q => hg g (List.mem_cons_of_mem _ q)
      refine ⟨k4', k6', ?_⟩
      unfold szOf
      rw [if_neg h0, ← e]
      cases k with
      | nought => exact absurd rfl hk
      | above => simp [forR, F.enc, hsh, h0, hab, hlt]
      | goes z => simp [forR, F.enc, hsh, h0, hab, hlt]
theorem loop_step (x : Str) (a0 a1 a2 a3 a6 : Sl) : ∀ (es : List F) (s : Int) (k4 : Sl), 0 < s → (∀ g ∈ es, ∃ k n ps, g = .e k n ps ∧ k ≠ .nought ∧ Tl k n ps) →
    ∃ k4', forR 4 (ifO (tAnd2 (tV (b2 eqD (b2 ixD (rdE 4) (kI 0)) (kS "goes"))) (tV (b2 neD (ap m_share (cA (b2 ixD (rdE 4) (kI 2)) (cA (rdE 1) nA))) (kI 0)))) (setO 5 (ap m_least_times (cA (rdE 5) (cA (b2 ixD (rdE 4) (kI 1)) nA)))) nxO) (es.map F.enc) [a0, .d (.t (.str x)) false, a2, a3, k4, .d (.t (.int s)) true, a6] = .ok (.nx [a0, .d (.t (.str x)) false, a2, a3, k4', .d (.t (.int (stOf x s es))) true, a6])
  | [], s, k4, _, _ => ⟨k4, by simp [stOf]⟩
  | g :: es, s, k4, hs, hg => by
    obtain ⟨k, n, ps, rfl, hk, h1, h2⟩ := hg g (by simp)
    have hsh := share_eq n x ps
    rw [vl_tot h1] at hsh
    cases k with
    | nought => exact absurd rfl hk
    | above =>
      obtain ⟨k4', e⟩ := loop_step x a0 a1 a2 a3 a6 es s (.d (.t (F.e .above n ps).enc) true) hs fun g q => hg g (List.mem_cons_of_mem _ q)
      refine ⟨k4', ?_⟩
      unfold stOf
      rw [← e]
      simp [forR, F.enc]
    | goes z =>
      have hz := h2 z rfl
      by_cases h0 : tot x ps = 0
      · obtain ⟨k4', e⟩ := loop_step x a0 a1 a2 a3 a6 es s (.d (.t (F.e (.goes z) n ps).enc) true) hs fun g q => hg g (List.mem_cons_of_mem _ q)
        refine ⟨k4', ?_⟩
        rw [h0] at hsh
        unfold stOf
        rw [if_pos h0, ← e]
        simp [forR, F.enc, hsh]
      · have hlt := least_times_eq s z hs (by omega) (by omega)
        obtain ⟨k4', e⟩ := loop_step x a0 a1 a2 a3 a6 es (lcmI s z) (.d (.t (F.e (.goes z) n ps).enc) true) (lcmI_pos hs (by omega)) fun g q => hg g (List.mem_cons_of_mem _ q)
        refine ⟨k4', ?_⟩
        unfold stOf
        rw [if_neg h0, ← e]
        simp [forR, F.enc, hsh, h0, hlt]
theorem prepared_eq {N : List Str} (hd : N.Nodup) (hN : N.length < 10) (x : Str) (f : F) (h1 : f.dep ≤ 58) (h2 : f.plain = true) (h3 : f.wid ≤ 1000) (h4 : f.all (fun _ _ ps => ps.length < 40)) (h5 : (f.turn true).all (Sm N 900)) (h6 : f.size x < 1000) (h7 : (f.turn true).cnt ≤ 10000) (h8 : (f.lined x).str = true) (h9 : (f.lined x).cnt ≤ 20000) (h10 : (f.lined x).all Tl) (h11 : (f.lined x).dep ≤ 60) :
    m_prepared [.t f.enc, .t (.str x)] = .ok (.t (.tup [(f.lined x).enc, .int (f.size x), .int (f.step x)])) := by
  have ht := turned_eq 60 f true (by omega) h2 (by omega) h4
  have td := turn_dep f true
  have ts := turn_str f true h2
  have tw := turn_wid f true
  have he := ends_of_eq 60 (f.turn true) (by omega) ts (by omega)
  obtain ⟨k4, k6, l1⟩ := loop_size x (.d (.t f.enc) false) .un (.d (.t (f.turn true).enc) true) .un (f.turn true).ends 1 .un .un (by decide) (fun g hg => by
    obtain ⟨k, n, ps, e, hk, q⟩ := ends_all (f.turn true) ts h5 g hg
    exact ⟨k, n, ps, e, hk, q.1.nodup hd, by have := tot_le q.1 hd q.2.1 x; omega⟩)
  have hsp : 0 < f.size x := szOf_pos x _ 1 (by decide)
  have hst := stretched_eq hd hN x (f.size x) hsp h6 60 (f.turn true) (by omega) ts (by omega) (all_mono (fun k n ps q => ⟨q.1, fun p hp => by have := q.2.1 p hp; omega, fun z e => by have := q.2.2 z e; omega⟩) _ h5)
  have he2 := ends_of_eq 60 (f.lined x) h11 h8 (by omega)
  have l2 := fun (a3 k4 k6 : Sl) => loop_step x (.d (.t f.enc) false) .un (.d (.t (f.lined x).enc) true) a3 k6 (f.lined x).ends 1 k4 (by decide) (fun g hg => ends_all (f.lined x) h8 h10 g hg)
  have hsz : szOf x 1 (f.turn true).ends = f.size x := rfl
  rw [hsz] at l1
  have hstp : stOf x 1 (f.lined x).ends = f.step x := rfl
  unfold m_prepared g_prepared
  rw [runDef_Rt]
  refine (Rt_seq (by simp [ht]; rfl)).trans ?_
  refine (Rt_seq (by simp; rfl)).trans ?_
  refine (Rt_seq (by simp [he]; exact l1)).trans ?_
  refine (Rt_seq (by simp [hst]; rfl)).trans ?_
  by_cases q : f.size x > 1
  · have hl : (f.lined x).enc = T.tup [.str "and", .tup [((f.turn true).stretch x (f.size x)).enc, .tup [.str "goes", .int (f.size x), .tup [.int 0, .tup [.tup [.str x, .int 1]]]]]] := by
      unfold F.lined; rw [if_pos q]; rfl
    rw [hl] at he2 l2
    refine (Rt_seq (by simp [q]; rfl)).trans ?_
    refine (Rt_seq (by simp; rfl)).trans ?_
    obtain ⟨k4', e⟩ := l2 (.d (.t (.int (f.size x))) true) k4 k6
    refine (Rt_seq (by simp [he2]; exact e)).trans ?_
    simp [hstp, hl]
  · have hl : f.lined x = (f.turn true).stretch x (f.size x) := by unfold F.lined; rw [if_neg q]
    rw [hl] at he2 l2
    refine (Rt_seq (by simp [q]; rfl)).trans ?_
    refine (Rt_seq (by simp; rfl)).trans ?_
    obtain ⟨k4', e⟩ := l2 (.d (.t (.int (f.size x))) true) k4 k6
    refine (Rt_seq (by simp [he2]; exact e)).trans ?_
    rw [hl] at hstp
    simp [hstp, hl]
end Pf

set_option Elab.async false
set_option linter.all false
set_option maxRecDepth 100000
set_option maxHeartbeats 4000000
namespace Pf
open PySem L2
/-! ## what lined keeps -/
/-- ends of a statement that is handed in -/
def Ed (N : List Str) (W M : Nat) (L : Int) (x : Str) (Q : Int) (k : EK) (_ : Int) (ps : Prs) : Prop := Rg N ps ∧ (∀ p ∈ ps, p.2.natAbs ≤ W) ∧ (∀ h, k = .goes h → 1 ≤ h ∧ h ≤ M ∧ h ∣ L) ∧ (tot x ps ≠ 0 → ((tot x ps).natAbs : Int) ∣ Q)
theorem norm_val {qs : Prs} {p : Str × Int} (h : p ∈ norm qs) : p.2 = tot p.1 qs := by
  unfold norm at h
  obtain ⟨s, _, rfl⟩ := List.mem_map.mp h
  rfl
theorem rg_bk {N : List Str} {ps : Prs} (h : Rg N ps) (hd : N.Nodup) : Rg N (bk ps) := rg_norm hd (fun p hp => by
  obtain ⟨q, hq, rfl⟩ := List.mem_map.mp hp
  exact h.mem q hq)
theorem tot_bk (s : Str) (ps : Prs) : tot s (bk ps) = - tot s ps := by
  unfold bk; rw [tot_norm, tot_scale]; omega
theorem bk_le {N : List Str} {ps : Prs} {W : Nat} (h : Rg N ps) (hd : N.Nodup) (hw : ∀ p ∈ ps, p.2.natAbs ≤ W) : ∀ p ∈ bk ps, p.2.natAbs ≤ W := fun p hp => by
  have h1 : p.2 = tot p.1 (ps.map fun p => (p.1, -1 * p.2)) := norm_val hp
  rw [tot_scale] at h1
  have := tot_le h hd hw p.1
  omega
theorem tn_Ed {N : List Str} {W M : Nat} {L : Int} {x : Str} {Q : Int} (hd : N.Nodup) : Tn (Ed N W M L x Q) (Ed N W M L x Q) := by
  rintro k n ps ⟨h1, h2, h3, h4⟩
  have h5 : tot x (bk ps) ≠ 0 → ((tot x (bk ps)).natAbs : Int) ∣ Q := fun q => by
    rw [tot_bk] at q ⊢
    rw [Int.natAbs_neg]; exact h4 (by omega)
  have e1 := norm_rg h1 hd
  have b1 := rg_bk h1 hd
  have e2 := norm_rg b1 hd
  have b2 := bk_le h1 hd h2
  refine ⟨fun m => ⟨⟨h1, h2, fun z e => by (cases e), h4⟩, ⟨by rw [e1]; exact h1, by rw [e1]; exact h2, fun z e => by (cases e), by rw [e1]; exact h4⟩, ⟨b1, b2, fun z e => by (cases e), h5⟩, ⟨by rw [e2]; exact b1, by rw [e2]; exact b2, fun z e => by (cases e), by rw [e2]; exact h5⟩⟩, fun z e => ⟨h1, h2, fun z' e' => ?_, h4⟩⟩
  cases e'; exact h3 z e
mutual
theorem turn_cnt : ∀ (f : F) (y : Bool), (f.turn y).cnt ≤ 2 * f.cnt
  | .e .above n ps, true => by simp [F.turn, F.cnt]
  | .e .above n ps, false => by simp [F.turn, F.cnt]
  | .e .nought n ps, true => by simp [F.turn, F.cnt, F.cnts]
  | .e .nought n ps, false => by simp [F.turn, F.cnt, F.cnts]
  | .e (.goes h) n ps, true => by simp [F.turn, F.cnt]
  | .e (.goes h) n ps, false => by simp [F.turn, F.cnt]
  | .nt f, y => by have := turn_cnt f (!y); simp only [F.turn, F.cnt]; omega
  | .nd b fs, y => by have := turns_cnt fs y; simp only [F.turn, F.cnt]; omega
  | .qn b x f, y => by simp only [F.turn, F.cnt]; omega
theorem turns_cnt : ∀ (fs : List F) (y : Bool), F.cnts (F.turns y fs) ≤ 2 * F.cnts fs
  | [], y => by simp [F.turns, F.cnts]
  | f :: fs, y => by
    have h1 := turn_cnt f y
    have h2 := turns_cnt fs y
    simp only [F.turns, F.cnts]; omega
end
theorem strE_is (x : Str) (size : Int) (k : EK) (n : Int) (ps : Prs) : ∃ k' n' ps', F.strE x size k n ps = .e k' n' ps' ∧ (k ≠ .nought → k' ≠ .nought) ∧ (∀ h, k = .goes h → ∃ h', k' = .goes h') ∧ (k = .above → k' = .above) := by
  unfold F.strE
  split
  · exact ⟨_, _, _, rfl, id, fun h e => ⟨h, e⟩, id⟩
  · refine ⟨_, _, _, rfl, ?_, ?_, ?_⟩
    · intro h e
      cases k <;> simp [EK.mul] at e h
    · intro h e; subst e; exact ⟨_, rfl⟩
    · intro e; subst e; rfl
mutual
theorem stretch_shape (x : Str) (size : Int) : ∀ f : F, f.str = true → (f.stretch x size).str = true ∧ (f.stretch x size).dep = f.dep ∧ (f.stretch x size).cnt = f.cnt ∧ (f.stretch x size).wid = f.wid
  | .e .above n ps, _ => by
    obtain ⟨k', n', ps', e, _, _, h⟩ := strE_is x size .above n ps
    have := h rfl; subst this
    simp only [F.stretch, e]; exact ⟨rfl, rfl, rfl, rfl⟩
  | .e .nought _ _, hs => by simp [F.str] at hs
  | .e (.goes z) n ps, _ => by
    obtain ⟨k', n', ps', e, _, h, _⟩ := strE_is x size (.goes z) n ps
    obtain ⟨z', rfl⟩ := h z rfl
    simp only [F.stretch, e]; exact ⟨rfl, rfl, rfl, rfl⟩
  | .nt (.e (.goes z) n ps), _ => by
    obtain ⟨k', n', ps', e, _, h, _⟩ := strE_is x size (.goes z) n ps
    obtain ⟨z', rfl⟩ := h z rfl
    simp only [F.stretch, e]; exact ⟨rfl, rfl, rfl, rfl⟩
  | .nt (.e .above _ _), hs => by simp [F.str] at hs
  | .nt (.e .nought _ _), hs => by simp [F.str] at hs
  | .nt (.nt _), hs => by simp [F.str] at hs
  | .nt (.nd _ _), hs => by simp [F.str] at hs
  | .nt (.qn _ _ _), hs => by simp [F.str] at hs
  | .nd b fs, hs => by
    simp only [F.str] at hs
    obtain ⟨i1, i2, i3, i4⟩ := stretchs_shape x size fs hs
    have hl : (F.stretchs x size fs).length = fs.length := by rw [stretchs_map, List.length_map]
    simp only [F.stretch, F.str, F.dep, F.cnt, F.wid, i1, i2, i3, i4, hl]; exact ⟨trivial, trivial, trivial, trivial⟩
  | .qn _ _ _, hs => by simp [F.str] at hs
theorem stretchs_shape (x : Str) (size : Int) : ∀ fs : List F, F.strs fs = true → F.strs (F.stretchs x size fs) = true ∧ F.deps (F.stretchs x size fs) = F.deps fs ∧ F.cnts (F.stretchs x size fs) = F.cnts fs ∧ F.wids (F.stretchs x size fs) = F.wids fs
  | [], _ => ⟨rfl, rfl, rfl, rfl⟩
  | f :: fs, hs => by
    simp only [F.strs, Bool.and_eq_true] at hs
    obtain ⟨h1, h2, h3, h4⟩ := stretch_shape x size f hs.1
    obtain ⟨i1, i2, i3, i4⟩ := stretchs_shape x size fs hs.2
    simp only [F.stretchs, F.strs, F.deps, F.cnts, F.wids, h1, h2, h3, h4, i1, i2, i3, i4]; exact ⟨rfl, trivial, trivial, trivial⟩
end
mutual
theorem str_plain : ∀ f : F, f.str = true → f.plain = true
  | .e .above _ _, _ => rfl
  | .e .nought _ _, hs => by simp [F.str] at hs
  | .e (.goes _) _ _, _ => rfl
  | .nt (.e _ _ _), _ => rfl
  | .nt (.nt _), hs => by simp [F.str] at hs
  | .nt (.nd _ _), hs => by simp [F.str] at hs
  | .nt (.qn _ _ _), hs => by simp [F.str] at hs
  | .nd _ fs, hs => by simp only [F.str] at hs; simp only [F.plain]; exact strs_plain fs hs
  | .qn _ _ _, hs => by simp [F.str] at hs
theorem strs_plain : ∀ fs : List F, F.strs fs = true → F.plains fs = true
  | [], _ => rfl
  | f :: fs, hs => by
    simp only [F.strs, Bool.and_eq_true] at hs
    simp only [F.plains, str_plain f hs.1, strs_plain fs hs.2]; rfl
end
mutual
theorem stretch_all {P Q : EK → Int → Prs → Prop} (x : Str) (size : Int) (H0 : ∀ k n ps, P k n ps → tot x ps = 0 → Q k n ps) (H1 : ∀ k n ps, P k n ps → tot x ps ≠ 0 → Q (k.mul (fr x size ps)) (fr x size ps * n) (strP x (fr x size ps) ps)) : ∀ f : F, f.plain = true → f.all P → (f.stretch x size).all Q
  | .e k n ps, _, h => by
    simp only [F.all] at h
    simp only [F.stretch, F.strE]
    split
    · rename_i h0; simp only [F.all]; exact H0 k n ps h h0
    · rename_i h0; simp only [F.all]; exact H1 k n ps h h0
  | .nt f, hp, h => by simp only [F.all, F.plain, F.stretch] at hp h ⊢; exact stretch_all x size H0 H1 f hp h
  | .nd _ fs, hp, h => by simp only [F.all, F.plain, F.stretch] at hp h ⊢; exact stretchs_all x size H0 H1 fs hp h
  | .qn _ _ _, hp, _ => by simp [F.plain] at hp
theorem stretchs_all {P Q : EK → Int → Prs → Prop} (x : Str) (size : Int) (H0 : ∀ k n ps, P k n ps → tot x ps = 0 → Q k n ps) (H1 : ∀ k n ps, P k n ps → tot x ps ≠ 0 → Q (k.mul (fr x size ps)) (fr x size ps * n) (strP x (fr x size ps) ps)) : ∀ fs : List F, F.plains fs = true → F.alls P fs → F.alls Q (F.stretchs x size fs)
  | [], _, _ => trivial
  | f :: fs, hp, h => by
    simp only [F.plains, Bool.and_eq_true, F.alls, F.stretchs] at hp h ⊢
    exact ⟨stretch_all x size H0 H1 f hp.1 h.1, stretchs_all x size H0 H1 fs hp.2 h.2⟩
end
/-- ends behind the stretching -/
def Ln (N : List Str) (x : Str) (L : Int) (k : EK) (_ : Int) (ps : Prs) : Prop := Rg N ps ∧ (∀ p ∈ ps, p.2.natAbs ≤ 100001) ∧ (tot x ps = 0 ∨ tot x ps = 1 ∨ tot x ps = -1) ∧ ∀ h, k = .goes h → 1 ≤ h ∧ h < 1000 ∧ h ∣ L
theorem sgn_pm (i : Int) : sgn i = 1 ∨ sgn i = -1 := by unfold sgn; split <;> simp
theorem rg_strP {N : List Str} {x : Str} {far : Int} {ps : Prs} (h : Rg N ps) (hd : N.Nodup) (hx : x ∈ N) : Rg N (strP x far ps) := rg_norm hd (fun p hp => by
  rcases List.mem_append.mp hp with q | q
  · obtain ⟨r, r1, r2⟩ := List.mem_map.mp (norm_mem q)
    obtain ⟨r', r3, rfl⟩ := List.mem_map.mp r1
    rw [← r2]; exact h.mem r' (List.mem_filter.mp r3).1
  · simp at q; rw [q]; exact hx)
theorem tot_x_in {N : List Str} {x : Str} {ps : Prs} (h : Rg N ps) (h0 : tot x ps ≠ 0) : x ∈ N := by
  obtain ⟨p, hp, rfl⟩ := List.mem_map.mp (tot_mem h0)
  exact h.mem p hp
theorem strP_le {N : List Str} {x : Str} {far : Int} {ps : Prs} {W Z : Nat} (h : Rg N ps) (hd : N.Nodup) (hw : ∀ p ∈ ps, p.2.natAbs ≤ W) (hf : far.natAbs ≤ Z) : ∀ p ∈ strP x far ps, p.2.natAbs ≤ Z * W + 1 := fun p hp => by
  have h1 := norm_val hp
  rw [tot_app, tot_norm, tot_scale, tot_without] at h1
  have h2 := tot_le h hd hw p.1
  have h3 : (tot p.1 [(x, sgn (tot x ps))]).natAbs ≤ 1 := by
    have := sgn_pm (tot x ps)
    simp only [tot]; split <;> omega
  have h4 : (far * (if p.1 = x then 0 else tot p.1 ps)).natAbs ≤ Z * W := by
    rw [Int.natAbs_mul]
    refine Nat.mul_le_mul hf ?_
    split <;> omega
  rw [h1]; omega
structure PreOk (N : List Str) (W M : Nat) (Q L : Int) (x : Str) (f : F) : Prop where
  nd : N.Nodup
  len : N.length < 10
  plain : f.plain = true
  dep : f.dep ≤ 50
  wid : f.wid ≤ 100
  cnt : f.cnt ≤ 1000
  all : f.all (Ed N W M L x Q)
  q0 : 0 < Q
  q1 : Q < 900
  wb : W ≤ 100
  mb : M ≤ 900
  qm : Q * M < 1000
  qw : Q * W < 100000
  l0 : 0 < L
section
variable {N : List Str} {W M : Nat} {Q L : Int} {x : Str} {f : F}
theorem PreOk.ta (P : PreOk N W M Q L x f) : (f.turn true).all (Ed N W M L x Q) := turn_all (tn_Ed P.nd) f true P.plain P.all
theorem PreOk.ts (P : PreOk N W M Q L x f) : (f.turn true).str = true := turn_str f true P.plain
theorem PreOk.tp (P : PreOk N W M Q L x f) : (f.turn true).plain = true := turn_plain f true P.plain
theorem PreOk.dvQ (P : PreOk N W M Q L x f) : ∀ k n ps, .e k n ps ∈ (f.turn true).ends → tot x ps ≠ 0 → ((tot x ps).natAbs : Int) ∣ Q := fun k n ps he h0 => by
  obtain ⟨k', n', ps', e, _, h⟩ := ends_all (f.turn true) P.ts P.ta _ he
  cases e
  exact h.2.2.2 h0
theorem PreOk.size_dvd (P : PreOk N W M Q L x f) : f.size x ∣ Q := szOf_dvd x Q _ 1 (Int.one_dvd _) P.dvQ
theorem PreOk.size_pos (P : PreOk N W M Q L x f) : 0 < f.size x := szOf_pos x _ 1 (by decide)
theorem PreOk.size_le (P : PreOk N W M Q L x f) : f.size x ≤ Q := Int.le_of_dvd P.q0 P.size_dvd
theorem PreOk.dv (P : PreOk N W M Q L x f) : (f.turn true).all (fun k n ps => Ed N W M L x Q k n ps ∧ Dv x (f.size x) k n ps) := all_ends _ P.ts fun k n ps he => by
  obtain ⟨k', n', ps', e, _, h⟩ := ends_all (f.turn true) P.ts P.ta _ he
  cases e
  exact ⟨h, fun h0 => szOf_all x _ 1 k n ps he h0, fun z e => (h.2.2.1 z e).1⟩
theorem szOf_none (x : Str) : ∀ (es : List F) (s : Int), (∀ k n ps, .e k n ps ∈ es → tot x ps = 0) → szOf x s es = s
  | [], s, _ => rfl
  | .e k n ps :: r, s, h => by
    unfold szOf
    rw [if_pos (h k n ps (by simp))]
    exact szOf_none x r s fun k n ps q => h k n ps (List.mem_cons_of_mem _ q)
  | .nt _ :: r, s, h => by unfold szOf; exact szOf_none x r s fun k n ps q => h k n ps (List.mem_cons_of_mem _ q)
  | .nd _ _ :: r, s, h => by unfold szOf; exact szOf_none x r s fun k n ps q => h k n ps (List.mem_cons_of_mem _ q)
  | .qn _ _ _ :: r, s, h => by unfold szOf; exact szOf_none x r s fun k n ps q => h k n ps (List.mem_cons_of_mem _ q)
theorem PreOk.x_in (P : PreOk N W M Q L x f) (h : f.size x > 1) : x ∈ N := by
  apply Classical.byContradiction
  intro hx
  have : f.size x = 1 := szOf_none x _ 1 fun k n ps he => by
    obtain ⟨k', n', ps', e, _, h⟩ := ends_all (f.turn true) P.ts P.ta _ he
    cases e
    apply Classical.byContradiction
    intro h0
    exact hx (tot_x_in h.1 h0)
  omega
theorem far_dvd {x : Str} {size : Int} {ps : Prs} (h0 : tot x ps ≠ 0) (hd : ((tot x ps).natAbs : Int) ∣ size) : fr x size ps ∣ size := by
  obtain ⟨c, hc⟩ := hd
  have hn : ((tot x ps).natAbs : Int) ≠ 0 := by omega
  have hf : fr x size ps = c := by unfold fr; rw [hc, Int.mul_ediv_cancel_left _ hn]
  rw [hf, hc]; exact ⟨_, Int.mul_comm _ _⟩
theorem PreOk.lns (P : PreOk N W M Q L x f) : ((f.turn true).stretch x (f.size x)).all (Ln N x (Q * L)) := by
  have hsp := P.size_pos
  have hsl := P.size_le
  refine stretch_all x (f.size x) (fun k n ps h h0 => ?_) (fun k n ps h h0 => ?_) _ P.tp P.dv
  · obtain ⟨⟨h1, h2, h3, _⟩, _⟩ := h
    refine ⟨h1, fun p hp => by have := h2 p hp; have := P.wb; omega, .inl h0, fun z e => ?_⟩
    obtain ⟨a, b, c⟩ := h3 z e
    have := P.mb
    exact ⟨a, by omega, Int.dvd_trans c ⟨Q, Int.mul_comm _ _⟩⟩
  · obtain ⟨⟨h1, h2, h3, _⟩, hd, _⟩ := h
    have hd := hd h0
    have hfp := far_pos h0 hsp hd
    have hfd := far_dvd h0 hd
    have hfl : fr x (f.size x) ps ≤ Q := Int.le_trans (Int.le_of_dvd hsp hfd) hsl
    have q0 := P.q0
    refine ⟨rg_strP h1 P.nd (tot_x_in h1 h0), fun p hp => ?_, ?_, fun z e => ?_⟩
    · have h4 := strP_le (Z := Q.toNat) h1 P.nd h2 (by omega) p hp
      have h5 : ((Q.toNat * W : Nat) : Int) = Q * W := by rw [Int.natCast_mul, Int.toNat_of_nonneg (by omega)]
      have := P.qw
      omega
    · rw [tot_strP]; exact .inr (sgn_pm _)
    · cases k with
      | above => simp [EK.mul] at e
      | nought => simp [EK.mul] at e
      | goes y =>
        simp only [EK.mul, EK.goes.injEq] at e
        obtain ⟨a, b, c⟩ := h3 y rfl
        subst e
        refine ⟨?_, ?_, ?_⟩
        · have := Int.mul_pos hfp (show 0 < y by omega); omega
        · have h6 : fr x (f.size x) ps * y ≤ Q * M := Int.mul_le_mul hfl b (by omega) (by omega)
          have := P.qm; omega
        · exact Int.mul_dvd_mul (Int.dvd_trans hfd P.size_dvd) c
theorem rg_one {N : List Str} {x : Str} (hx : x ∈ N) (c : Int) (hc : c ≠ 0) : Rg N [(x, c)] := ⟨by
  rw [List.map_cons, List.map_nil, List.singleton_sublist]
  exact (srtS_perm N).mem_iff.mpr hx, fun p hp => by simp at hp; rw [hp]; exact hc⟩
theorem PreOk.ln (P : PreOk N W M Q L x f) : (f.lined x).all (Ln N x (Q * L)) := by
  unfold F.lined
  split
  · rename_i h
    have hx := P.x_in h
    simp only [F.all, F.alls]
    refine ⟨P.lns, ⟨rg_one hx 1 (by decide), fun p hp => by simp at hp; rw [hp]; simp, .inr (.inl (by simp [tot])), fun z e => ?_⟩, trivial⟩
    cases e
    have := P.size_le
    have := P.q1
    exact ⟨by omega, by omega, Int.dvd_trans P.size_dvd ⟨L, rfl⟩⟩
  · exact P.lns
theorem PreOk.str (P : PreOk N W M Q L x f) : (f.lined x).str = true := by
  have := (stretch_shape x (f.size x) (f.turn true) P.ts).1
  unfold F.lined
  split
  · simp only [F.str, F.strs, this]; rfl
  · exact this
theorem PreOk.ldep (P : PreOk N W M Q L x f) : (f.lined x).dep ≤ f.dep + 2 := by
  have h := (stretch_shape x (f.size x) (f.turn true) P.ts).2.1
  have t := turn_dep f true
  unfold F.lined
  split
  · simp only [F.dep, F.deps, h]; omega
  · omega
theorem PreOk.lcnt (P : PreOk N W M Q L x f) : (f.lined x).cnt ≤ 2 * f.cnt + 1 := by
  have h := (stretch_shape x (f.size x) (f.turn true) P.ts).2.2.1
  have t := turn_cnt f true
  unfold F.lined
  split
  · simp only [F.cnt, F.cnts, h]; omega
  · omega
theorem PreOk.lwid (P : PreOk N W M Q L x f) : (f.lined x).wid ≤ max 2 f.wid := by
  have h := (stretch_shape x (f.size x) (f.turn true) P.ts).2.2.2
  have t := turn_wid f true
  unfold F.lined
  split
  · simp only [F.wid, F.wids, h, List.length_cons, List.length_nil]; omega
  · omega
theorem PreOk.lends (P : PreOk N W M Q L x f) : ∀ g ∈ (f.lined x).ends, ∃ k n ps, g = .e k n ps ∧ k ≠ .nought ∧ Ln N x (Q * L) k n ps := ends_all _ P.str P.ln
theorem PreOk.step_pos (P : PreOk N W M Q L x f) : 0 < f.step x := stOf_pos x _ 1 (by decide) fun h n ps he => by
  obtain ⟨k', n', ps', e, _, q⟩ := P.lends _ he
  cases e
  exact (q.2.2.2 h rfl).1
theorem PreOk.step_dvd (P : PreOk N W M Q L x f) : f.step x ∣ Q * L := stOf_dvd x _ _ 1 (Int.one_dvd _) fun h n ps he _ => by
  obtain ⟨k', n', ps', e, _, q⟩ := P.lends _ he
  cases e
  exact (q.2.2.2 h rfl).2.2
theorem PreOk.step_le (P : PreOk N W M Q L x f) : f.step x ≤ Q * L := Int.le_of_dvd (Int.mul_pos P.q0 P.l0) P.step_dvd
theorem PreOk.one (P : PreOk N W M Q L x f) : (f.lined x).all (One x (f.step x)) := all_ends _ P.str fun k n ps he => by
  obtain ⟨k', n', ps', e, _, q⟩ := P.lends _ he
  cases e
  refine ⟨q.2.2.1, fun h e => ?_⟩
  subst e
  by_cases h0 : tot x ps = 0
  · exact .inl h0
  · exact .inr (stOf_all x _ 1 h n ps he h0)
theorem PreOk.eq (P : PreOk N W M Q L x f) : m_prepared [.t f.enc, .t (.str x)] = .ok (.t (.tup [(f.lined x).enc, .int (f.size x), .int (f.step x)])) := by
  have hl := P.len
  have hc := P.cnt
  have hs := P.size_le
  have q1 := P.q1
  have t := turn_cnt f true
  have lc := P.lcnt
  have ld := P.ldep
  have d := P.dep
  have wd := P.wid
  refine prepared_eq P.nd P.len x f (by omega) P.plain (by omega) (all_mono (fun k n ps q => by have := rg_len q.1; omega) f P.all) (all_mono (fun k n ps q => ⟨q.1, fun p hp => by have := q.2.1 p hp; have := P.wb; omega, fun z e => by have := q.2.2.1 z e; have := P.mb; omega⟩) _ P.ta) (by omega) (by omega) P.str (by omega) (all_mono (fun k n ps q => ⟨q.1.nodup P.nd, fun z e => by have := q.2.2.2 z e; omega⟩) _ P.ln) (by omega)
/-! ### the numbers of lined and of the statement -/
theorem PreOk.tv (P : PreOk N W M Q L x f) (v : Str → Int) (z : Int) : (f.lined x).tv (up v x (f.size x * z)) = f.tv (up v x z) := by
  have hsp := P.size_pos
  have h1 := stretch_tv v x (f.size x) z hsp (f.turn true) (all_mono (fun _ _ _ q => q.2) _ P.dv) P.tp
  rw [turn_tv _ f true P.plain] at h1
  unfold F.lined
  split
  · simp only [F.tv, F.tvA, h1, ek]
    have e : (0 : Int) + sv (up v x (f.size x * z)) [(x, 1)] = f.size x * z := by simp [sv, up]
    rw [e, Int.mul_emod_right]
    cases f.tv (up v x z) <;> rfl
  · rw [h1]; cases f.tv (up v x z) <;> rfl
theorem PreOk.dvd (P : PreOk N W M Q L x f) (v : Str → Int) (y : Int) (h : (f.lined x).tv (up v x y) = true) : f.size x ∣ y := by
  have hsp := P.size_pos
  unfold F.lined at h
  split at h
  · simp only [F.tv, F.tvA, ek, Bool.and_eq_true, decide_eq_true_eq] at h
    have e : (0 : Int) + sv (up v x y) [(x, 1)] = y := by simp [sv, up]
    rw [e] at h
    exact Int.dvd_of_emod_eq_zero h.2.1
  · rename_i q
    have : f.size x = 1 := by omega
    rw [this]; exact Int.one_dvd _
theorem PreOk.sound (P : PreOk N W M Q L x f) (v : Str → Int) (y : Int) (h : (f.lined x).tv (up v x y) = true) : f.tv (up v x (y / f.size x)) = true := by
  have hd := P.dvd v y h
  have := P.tv v (y / f.size x)
  rw [Int.mul_ediv_cancel' hd] at this
  rw [← this]; exact h
end
end Pf

set_option Elab.async false
set_option linter.all false
set_option maxRecDepth 100000
set_option maxHeartbeats 4000000
namespace Pf
open PySem L2
/-! ## bounds_of, tries_of -/
theorem keyNs_prs : ∀ (n : Nat) (ps : Prs), keyNs (n + 1) (ps.map prT) = true
  | n, [] => rfl
  | n, p :: ps => by
    rw [List.map_cons]; unfold keyNs
    rw [keyNs_prs n ps]; simp [prT, keyN, keyNs]
theorem keyT_sm (n : Int) (ps : Prs) : keyT (smT n ps) = true := by
  have := keyNs_prs 5 ps
  simp [smT, keyT, keyN, keyNs, this]
theorem prT_inj {p q : Str × Int} (h : prT p = prT q) : p = q := by
  simp only [prT, T.tup.injEq, List.cons.injEq, T.str.injEq, T.int.injEq, and_true] at h
  exact Prod.ext h.1 h.2
theorem prTs_inj : ∀ {ps qs : Prs}, ps.map prT = qs.map prT → ps = qs
  | [], [], _ => rfl
  | [], _ :: _, h => by simp at h
  | _ :: _, [], h => by simp at h
  | p :: ps, q :: qs, h => by
    simp only [List.map_cons, List.cons.injEq] at h
    rw [prT_inj h.1, prTs_inj h.2]
abbrev smP (q : Int × Prs) : T := smT q.1 q.2
theorem smP_inj {a b : Int × Prs} (h : smP a = smP b) : a = b := by
  simp only [smP, smT, T.tup.injEq, List.cons.injEq, T.int.injEq, and_true] at h
  exact Prod.ext h.1 (prTs_inj h.2)
def putQ (l : List (Int × Prs)) (a : Int × Prs) : List (Int × Prs) := if a ∈ l then l else l ++ [a]
theorem putT_sm (l : List (Int × Prs)) (a : Int × Prs) : putT (l.map smP) (smP a) = (putQ l a).map smP := by
  unfold putT putQ
  have h : smP a ∈ l.map smP ↔ a ∈ l := ⟨fun h => by
    obtain ⟨b, hb, e⟩ := List.mem_map.mp h
    rw [← smP_inj e]; exact hb, fun h => List.mem_map_of_mem h⟩
  by_cases q : a ∈ l
  · rw [if_pos q, if_pos (h.mpr q)]
  · rw [if_neg q, if_neg (fun r => q (h.mp r)), List.map_append]; rfl
/-- what x is to be above (sg 1), below (sg -1), by an end -/
def bP (x : Str) (sg n : Int) (ps : Prs) : Int × Prs := (-sg * n, norm ((wo x ps).map fun p => (p.1, -sg * p.2)))
def bnds (x : Str) (sg : Int) : List (Int × Prs) → List F → List (Int × Prs)
  | acc, [] => acc
  | acc, .e .above n ps :: r => bnds x sg (if tot x ps = sg then putQ acc (bP x sg n ps) else acc) r
  | acc, _ :: r => bnds x sg acc r
theorem putQ_mem (l : List (Int × Prs)) (a b : Int × Prs) : b ∈ putQ l a ↔ b ∈ l ∨ b = a := by
  unfold putQ
  split
  · exact ⟨.inl, fun q => q.elim id fun e => e ▸ ‹_›⟩
  · simp
theorem putQ_len (l : List (Int × Prs)) (a : Int × Prs) : (putQ l a).length ≤ l.length + 1 := by
  unfold putQ; split <;> simp
theorem bnds_len (x : Str) (sg : Int) : ∀ (es : List F) (acc : List (Int × Prs)), (bnds x sg acc es).length ≤ acc.length + es.length
  | [], acc => by simp [bnds]
  | .e .above n ps :: r, acc => by
    unfold bnds
    have h := bnds_len x sg r (if tot x ps = sg then putQ acc (bP x sg n ps) else acc)
    have h2 := putQ_len acc (bP x sg n ps)
    simp only [List.length_cons]
    split at h <;> split <;> omega
  | .e .nought _ _ :: r, acc => by unfold bnds; have := bnds_len x sg r acc; simp only [List.length_cons]; omega
  | .e (.goes _) _ _ :: r, acc => by unfold bnds; have := bnds_len x sg r acc; simp only [List.length_cons]; omega
  | .nt _ :: r, acc => by unfold bnds; have := bnds_len x sg r acc; simp only [List.length_cons]; omega
  | .nd _ _ :: r, acc => by unfold bnds; have := bnds_len x sg r acc; simp only [List.length_cons]; omega
  | .qn _ _ _ :: r, acc => by unfold bnds; have := bnds_len x sg r acc; simp only [List.length_cons]; omega
theorem bnds_mem (x : Str) (sg : Int) (b : Int × Prs) : ∀ (es : List F) (acc : List (Int × Prs)), b ∈ bnds x sg acc es ↔ b ∈ acc ∨ ∃ n ps, .e .above n ps ∈ es ∧ tot x ps = sg ∧ b = bP x sg n ps
  | [], acc => by simp [bnds]
  | .e .above n ps :: r, acc => by
    unfold bnds
    rw [bnds_mem x sg b r]
    constructor
    · rintro (h | ⟨n', ps', h1, h2, h3⟩)
      · split at h
        · rename_i q
          rcases (putQ_mem _ _ _).mp h with h | h
          · exact .inl h
          · exact .inr ⟨n, ps, by simp, q, h⟩
        · exact .inl h
      · exact .inr ⟨n', ps', List.mem_cons_of_mem _ h1, h2, h3⟩
    · rintro (h | ⟨n', ps', h1, h2, h3⟩)
      · left; split
        · exact (putQ_mem _ _ _).mpr (.inl h)
        · exact h
      · rcases List.mem_cons.mp h1 with q | q
        · cases q
          left; rw [if_pos h2]; exact (putQ_mem _ _ _).mpr (.inr h3)
        · exact .inr ⟨n', ps', q, h2, h3⟩
  | .e .nought n ps :: r, acc => by
    unfold bnds; rw [bnds_mem x sg b r]; simp
  | .e (.goes z) n ps :: r, acc => by
    unfold bnds; rw [bnds_mem x sg b r]; simp
  | .nt _ :: r, acc => by unfold bnds; rw [bnds_mem x sg b r]; simp
  | .nd _ _ :: r, acc => by unfold bnds; rw [bnds_mem x sg b r]; simp
  | .qn _ _ _ :: r, acc => by unfold bnds; rw [bnds_mem x sg b r]; simp
theorem loop_bnds (w : World) (x : Str) (sg : Int) (hsg : sg = 1 ∨ sg = -1) (a0 : Sl) : ∀ (es : List F) (acc : List (Int × Prs)) (k4 : Sl), acc.length + es.length < 16777216 → (∀ g ∈ es, ∃ k n ps, g = .e k n ps ∧ k ≠ .nought ∧ (ps.map (·.1)).Nodup ∧ ps.length < 30) →
    ∃ k4', forR 4 (ifO (tAnd2 (tV (b2 eqD (b2 ixD (rdE 4) (kI 0)) (kS "above"))) (tV (b2 eqD (ap m_share (cA (b2 ixD (rdE 4) (kI 1)) (cA (rdE 1) nA))) (rdE 2)))) (sputO w 3 (ap m_times (cA (u1 negD (rdE 2)) (cA (ap m_without (cA (b2 ixD (rdE 4) (kI 1)) (cA (rdE 1) nA))) nA))) (kB true)) nxO) (es.map F.enc) [a0, .d (.t (.str x)) false, .d (.t (.int sg)) false, .d (.sn w (acc.map smP)) true, k4] = .ok (.nx [a0, .d (.t (.str x)) false, .d (.t (.int sg)) false, .d (.sn w ((bnds x sg acc es).map smP)) true, k4'])
  | [], acc, k4, _, _ => ⟨k4, by simp [bnds]⟩
  | g :: es, acc, k4, hl, hg => by
    obtain ⟨k, n, ps, rfl, hk, h1, h2⟩ := hg g (by simp)
    have hsh := share_eq n x ps
    rw [vl_tot h1] at hsh
    simp only [List.length_cons] at hl
    cases k with
    | nought => exact absurd rfl hk
    | goes z =>
      obtain ⟨k4', e⟩ := loop_bnds w x sg hsg a0 es acc (.d (.t (F.e (.goes z) n ps).enc) true) (by omega) fun g q => hg g (List.mem_cons_of_mem _ q)
      exact ⟨k4', by unfold bnds; rw [← e]; simp [forR, F.enc]⟩
    | above =>
      by_cases h0 : tot x ps = sg
      · have hw := without_eq n x ps (by omega)
        have hwl : (wo x ps).length ≤ ps.length := List.length_filter_le _ _
        have ht := times_eq (-sg) n (wo x ps) (by omega) (mulOk_l (by omega) (by omega)) (fun p hp => mulOk_l (by omega) (by omega))
        have hp := putT_sm acc (bP x sg n ps)
        have hpl := putQ_len acc (bP x sg n ps)
        obtain ⟨k4', e⟩ := loop_bnds w x sg hsg a0 es (putQ acc (bP x sg n ps)) (.d (.t (F.e .above n ps).enc) true) (by omega) fun g q => hg g (List.mem_cons_of_mem _ q)
        refine ⟨k4', ?_⟩
        unfold bnds
        rw [if_pos h0, ← e, ← hp]
        have hkt := keyT_sm (-sg * n) (norm ((wo x ps).map fun p => (p.1, -sg * p.2)))
        have hal : acc.length < 16777216 := by omega
        rw [h0] at hsh
        simp [forR, F.enc, hsh, sputO, hw, ht, hkt, hal, smP, bP]
      · obtain ⟨k4', e⟩ := loop_bnds w x sg hsg a0 es acc (.d (.t (F.e .above n ps).enc) true) (by omega) fun g q => hg g (List.mem_cons_of_mem _ q)
        exact ⟨k4', by unfold bnds; rw [if_neg h0, ← e]; simp [forR, F.enc, hsh, h0]⟩
theorem bounds_of_eq (w : World) (x : Str) (sg : Int) (hsg : sg = 1 ∨ sg = -1) (f : F) (h1 : f.dep ≤ 60) (h2 : f.str = true) (h3 : f.cnt ≤ 100000) (h4 : f.all (fun _ _ ps => (ps.map (·.1)).Nodup ∧ ps.length < 30)) : m_bounds_of w [.t f.enc, .t (.str x), .t (.int sg)] = .ok (.lst ((bnds x sg [] f.ends).map smP)) := by
  have he := ends_of_eq 60 f h1 h2 (by omega)
  have hel := ends_len f h2
  obtain ⟨k4', e⟩ := loop_bnds w x sg hsg (.d (.t f.enc) false) f.ends [] .un (by simp; omega) (fun g hg => ends_all f h2 h4 g hg)
  simp only [List.map_nil] at e
  unfold m_bounds_of g_bounds_of
  rw [runDef_Rt]
  simp [kDs, he, e, listSn]
/-! ### tries -/
def triesL (st m0 : Int) (lows : List Int) : List Int := (List.range st.toNat).map (fun k : Nat => m0 - (k : Int)) ++ lows.flatMap fun b => (List.range st.toNat).map fun k : Nat => b + (1 + (k : Int))
theorem minI_le (d : Int) : ∀ l : List Int, ∀ b ∈ l, minI d l ≤ b := by
  have key : ∀ (ys : List Int) (y : Int), PySem.W.minOf y ys ≤ y ∧ ∀ b ∈ ys, PySem.W.minOf y ys ≤ b := by
    intro ys
    induction ys with
    | nil => intro y; exact ⟨Int.le_refl _, by simp⟩
    | cons z zs ih =>
      intro y
      have e : PySem.W.minOf y (z :: zs) = PySem.W.minOf (if decide (z < y) = true then z else y) zs := rfl
      rw [e]
      obtain ⟨i1, i2⟩ := ih (if decide (z < y) = true then z else y)
      by_cases q : z < y
      · rw [if_pos (by simpa using q)] at i1 i2 ⊢
        exact ⟨by omega, fun b hb => (List.mem_cons.mp hb).elim (fun e => by omega) (i2 b)⟩
      · rw [if_neg (by simpa using q)] at i1 i2 ⊢
        exact ⟨i1, fun b hb => (List.mem_cons.mp hb).elim (fun e => by omega) (i2 b)⟩
  intro l b hb
  cases l with
  | nil => simp at hb
  | cons y ys =>
    obtain ⟨k1, k2⟩ := key ys y
    rcases List.mem_cons.mp hb with e | e
    · rw [e]; exact k1
    · exact k2 b e
theorem tries_of_eq (w : World) (x : Str) (st : Int) (hst : 0 < st) (hst2 : st < 100000) (f : F) (h1 : f.dep ≤ 60) (h2 : f.str = true) (h3 : f.cnt ≤ 10000) (h4 : f.all (fun _ _ ps => (ps.map (·.1)).Nodup ∧ ps.length < 30)) (h5 : f.cnt * st.toNat ≤ 10000000) :
    m_tries_of w [.t f.enc, .t (.str x), .t (.int st)] = .ok (.lst ((triesL st (minI 0 ((bnds x 1 [] f.ends).map (·.1) ++ (bnds x (-1) [] f.ends).map (·.1)) - 1) ((bnds x 1 [] f.ends).map (·.1))).map T.int)) := by
  have bo1 := bounds_of_eq w x 1 (.inl rfl) f h1 h2 (by omega) h4
  have bo2 := bounds_of_eq w x (-1) (.inr rfl) f h1 h2 (by omega) h4
  have hel := ends_len f h2
  have l1 := bnds_len x 1 f.ends []
  have l2 := bnds_len x (-1) f.ends []
  simp only [List.length_nil, Nat.zero_add] at l1 l2
  generalize hB1 : bnds x 1 [] f.ends = B1 at bo1 l1
  generalize hB2 : bnds x (-1) [] f.ends = B2 at bo2 l2
  have lc : ∀ (B : List (Int × Prs)) (a0 a1 a2 a3 a4 a5 a6 a7 a8 : Sl), lcR 9 yes (b2 ixD (rdE 9) (kI 0)) [a0, a1, a2, a3, a4, a5, a6, a7, a8, .un] (B.map smP) = .ok ((B.map (·.1)).map T.int) := by
    intro B a0 a1 a2 a3 a4 a5 a6 a7 a8
    have := lcR_map (j := 9) (c := yes) (el := b2 ixD (rdE 9) (kI 0)) (ρ := [a0, a1, a2, a3, a4, a5, a6, a7, a8, .un]) smP (fun _ => true) (fun q => T.int q.1) B (fun q hq => ⟨rfl, fun _ => by simp [smP, smT]⟩)
    have ef : B.filter (fun _ => true) = B := by simp
    rw [ef] at this
    rw [this, List.map_map]; rfl
  obtain ⟨n, hn⟩ : ∃ n : Nat, st = n := ⟨st.toNat, by omega⟩
  subst hn
  have hmin : ∀ d : Int, mDefD minI d (.lst (((B1.map (·.1)) ++ (B2.map (·.1))).map T.int)) = .ok (.t (.int (minI d ((B1.map (·.1)) ++ (B2.map (·.1)))))) := fun d => by
    simp only [mDefD, asInts_map]
  have hadd : addD (.lst ((B1.map (·.1)).map T.int)) (.lst ((B2.map (·.1)).map T.int)) = .ok (.lst (((B1.map (·.1)) ++ (B2.map (·.1))).map T.int)) := by
    simp only [addD]; rw [if_pos (by simp only [List.length_map]; omega), List.map_append]
  generalize hm0 : minI 0 ((B1.map (·.1)) ++ (B2.map (·.1))) = m1 at *
  have lr : ∀ (a0 a1 a2 a3 a4 a6 a7 a9 : Sl), lcR 8 yes (b2 subD (rdE 5) (rdE 8)) [a0, a1, a2, a3, a4, .d (.t (.int (m1 - 1))) true, a6, a7, .un, a9] (rngT 0 n) = .ok (((List.range n).map fun k : Nat => m1 - 1 - (k : Int)).map T.int) := by
    intro a0 a1 a2 a3 a4 a6 a7 a9
    have := lcR_map (j := 8) (c := yes) (el := b2 subD (rdE 5) (rdE 8)) (ρ := [a0, a1, a2, a3, a4, .d (.t (.int (m1 - 1))) true, a6, a7, .un, a9]) (fun k : Nat => T.int (0 + (k : Int))) (fun _ => true) (fun k => T.int (m1 - 1 - (k : Int))) (List.range n) (fun q hq => ⟨rfl, fun _ => by simp⟩)
    have ef : (List.range n).filter (fun _ => true) = List.range n := by simp
    rw [ef] at this
    unfold rngT
    rw [this, List.map_map]; rfl
  -- the loops
  have inner : ∀ (b : Int) (acc : List Int) (a0 a1 a3 a4 a5 k8 a9 : Sl) (m : Nat), m ≤ n → acc.length + m ≤ 16000000 → ∃ k', forR 8 (appO 6 (b2 addD (rdE 7) (rdE 8))) (rngT 1 m) [a0, a1, .d (.t (.int n)) false, a3, a4, a5, .d (.lst (acc.map T.int)) true, .d (.t (.int b)) true, k8, a9] = .ok (.nx [a0, a1, .d (.t (.int n)) false, a3, a4, a5, .d (.lst ((acc ++ (List.range m).map fun k : Nat => b + (1 + (k : Int))).map T.int)) true, .d (.t (.int b)) true, k', a9]) := by
    intro b acc a0 a1 a3 a4 a5 k8 a9 m hm hl
    obtain ⟨ρ', e, k', rfl⟩ := forR_rng (j := 8) (lo := 1) (n := m) (body := appO 6 (b2 addD (rdE 7) (rdE 8))) (ρ := [a0, a1, .d (.t (.int n)) false, a3, a4, a5, .d (.lst (acc.map T.int)) true, .d (.t (.int b)) true, k8, a9])
      (fun i ρ => ∃ k', ρ = [a0, a1, .d (.t (.int n)) false, a3, a4, a5, .d (.lst ((acc ++ (List.range i).map fun k : Nat => b + (1 + (k : Int))).map T.int)) true, .d (.t (.int b)) true, k', a9])
      (fun i ρ hi ⟨k', e⟩ => by
        subst e
        have hlen : (acc ++ (List.range i).map fun k : Nat => b + (1 + (k : Int))).length < 16777216 := by simp; omega
        generalize hz : (acc ++ (List.range i).map fun k : Nat => b + (1 + (k : Int))) = Z at hlen
        refine ⟨_, by simp [appO, hlen]; rfl, .d (.t (.int (1 + (i : Int)))) true, ?_⟩
        have hz2 : acc ++ (List.range (i + 1)).map (fun k : Nat => b + (1 + (k : Int))) = Z ++ [b + (1 + (i : Int))] := by rw [List.range_succ, List.map_append, ← List.append_assoc, hz]; rfl
        rw [hz2]
        simp) ⟨k8, by simp⟩
    exact ⟨k', e⟩
  have outer : ∀ (bs : List Int) (acc : List Int) (a0 a1 a3 a4 a5 k7 k8 a9 : Sl), acc.length + bs.length * n ≤ 16000000 → ∃ k7' k8', forR 7 (forRO 8 (cA (kI 1) (cA (b2 addD (rdE 2) (kI 1)) nA)) rng2 (appO 6 (b2 addD (rdE 7) (rdE 8)))) (bs.map T.int) [a0, a1, .d (.t (.int n)) false, a3, a4, a5, .d (.lst (acc.map T.int)) true, k7, k8, a9] = .ok (.nx [a0, a1, .d (.t (.int n)) false, a3, a4, a5, .d (.lst ((acc ++ bs.flatMap fun b => (List.range n).map fun k : Nat => b + (1 + (k : Int))).map T.int)) true, k7', k8', a9]) := by
    intro bs
    induction bs with
    | nil => intro acc a0 a1 a3 a4 a5 k7 k8 a9 _; exact ⟨k7, k8, by simp⟩
    | cons b bs ih =>
      intro acc a0 a1 a3 a4 a5 k7 k8 a9 hl
      rw [List.length_cons, Nat.succ_mul] at hl
      obtain ⟨k8', e1⟩ := inner b acc a0 a1 a3 a4 a5 k8 a9 n (Nat.le_refl _) (by omega)
      obtain ⟨k7'', k8'', e2⟩ := ih (acc ++ (List.range n).map fun k : Nat => b + (1 + (k : Int))) a0 a1 a3 a4 a5 (.d (.t (.int b)) true) k8' a9 (by simp; omega)
      refine ⟨k7'', k8'', ?_⟩
      have hr : rng2 [.t (.int 1), .t (.int ((n : Int) + 1))] = .ok (1, n) := by
        simp only [rng2]; rw [if_pos ⟨by decide, by omega⟩]; congr 2; omega
      have hflat : (b :: bs).flatMap (fun b => (List.range n).map fun k : Nat => b + (1 + (k : Int))) = ((List.range n).map fun k : Nat => b + (1 + (k : Int))) ++ bs.flatMap fun b => (List.range n).map fun k : Nat => b + (1 + (k : Int)) := by simp
      rw [hflat, ← List.append_assoc, ← e2]
      simp only [List.map_cons, forR, List.set_cons_succ, List.set_cons_zero, forRO, cA, nA, kI, b2, rdE_0, rdE_s, R.ok_bind, add_ii, hr, e1]
  have hB1l : B1.length ≤ 16777216 := by omega
  have hB2l : B2.length ≤ 16777216 := by omega
  have hn4 : n < 4611686018427387904 := by omega
  have hn5 : n ≤ 16777216 := by omega
  unfold m_tries_of g_tries_of
  rw [runDef_Rt]
  refine (Rt_seq (by simp [bo1, lc, hB1l, -lcR_cons]; rfl)).trans ?_
  refine (Rt_seq (by simp [bo2, lc, hB2l, -lcR_cons]; rfl)).trans ?_
  have hadd' := hadd
  simp only [List.map_map] at hadd'
  refine (Rt_seq (ρ' := [.d (.t f.enc) false, .d (.t (.str x)) false, .d (.t (.int n)) false, .d (.lst ((B1.map (·.1)).map T.int)) true, .d (.lst ((B2.map (·.1)).map T.int)) true, .d (.t (.int (m1 - 1))) true, .un, .un, .un, .un]) (by
    simp only [setO, b2, u1, kI, rdE_0, rdE_s, R.ok_bind, List.map_map, hadd']
    have := hmin 0
    rw [hm0] at this
    simp only [List.map_map, List.map_append] at this
    simp [this])).trans ?_
  refine (Rt_seq (ρ' := [.d (.t f.enc) false, .d (.t (.str x)) false, .d (.t (.int n)) false, .d (.lst ((B1.map (·.1)).map T.int)) true, .d (.lst ((B2.map (·.1)).map T.int)) true, .d (.t (.int (m1 - 1))) true, .d (.lst (((List.range n).map fun k : Nat => m1 - 1 - (k : Int)).map T.int)) true, .un, .un, .un]) (by
    simp only [setO, lcRg_eq, cA, nA, rdE_0, rdE_s, R.ok_bind, rng1_n n hn4, if_pos hn5, List.set_cons_succ, List.set_cons_zero, lr, NR_ok])).trans ?_
  obtain ⟨k7, k8, e⟩ := outer (B1.map (·.1)) ((List.range n).map fun k : Nat => m1 - 1 - (k : Int)) (.d (.t f.enc) false) (.d (.t (.str x)) false) (.d (.lst ((B1.map (·.1)).map T.int)) false) (.d (.lst ((B2.map (·.1)).map T.int)) true) (.d (.t (.int (m1 - 1))) true) .un .un .un (by
    have : B1.length * n ≤ f.cnt * n := Nat.mul_le_mul_right _ (by omega)
    simp only [Int.toNat_natCast] at h5
    simp only [List.length_map, List.length_range]; omega)
  refine (Rt_seq (by simp only [forNO, List.getElem?_cons_succ, List.getElem?_cons_zero, List.set_cons_succ, List.set_cons_zero]; exact e)).trans ?_
  unfold triesL
  simp only [Int.toNat_natCast]
  simp [retN]
end Pf

set_option Elab.async false
set_option linter.all false
set_option maxRecDepth 100000
set_option maxHeartbeats 4000000
namespace Pf
open PySem L2
/-! ## told, holds -/
theorem left_eq (w : World) : ∀ (n : Nat) (f : F), f.dep ≤ n → f.plain = true → f.wid ≤ 16777216 → m_left w n [.t f.enc] = .ok (.t f.enc)
  | 0, f, h, _, _ => by cases f <;> simp [F.dep] at h
  | n + 1, f, h, hp, hw => by
    unfold m_left g_left
    rw [runDef_Rt]
    cases f with
    | e k y ps => cases k <;> simp [F.enc, retN]
    | nt f =>
      simp only [F.dep, F.plain, F.wid] at h hp hw
      have := left_eq w n f (by omega) hp hw
      simp [F.enc, this]
    | qn b y f => simp [F.plain] at hp
    | nd b fs =>
      simp only [F.dep, F.plain, F.wid] at h hp hw
      have hl : ∀ ρ : Ev, (∀ z o, rdE 2 (ρ.set 2 (.d z o)) = .ok z) → lcR 2 yes (ap (m_left w n) (cA (rdE 2) nA)) ρ (F.encs fs) = .ok (F.encs fs) := by
        intro ρ h1
        rw [encs_map]
        have := lcR_map (j := 2) (c := yes) (el := ap (m_left w n) (cA (rdE 2) nA)) (ρ := ρ) F.enc (fun _ => true) F.enc fs (fun f hf => ⟨rfl, fun _ => by
          have hdm := deps_mem hf
          have hw2 := wids_mem hf
          have := left_eq w n f (by omega) (plains_mem hp hf) (by omega)
          simp only [ap, cA, nA, h1, R.ok_bind, this]⟩)
        have ef : fs.filter (fun _ => true) = fs := by simp
        rw [ef] at this
        exact this
      have hl' := hl [.d (.t (F.enc (.nd b fs))) false, .d (.t (.str (bw b))) true, .un] (fun z o => rfl)
      have hlen : (F.encs fs).length ≤ 16777216 := by rw [encs_len]; omega
      simp only [F.enc] at hl'
      cases b <;> simp [F.enc, hlen] at hl' ⊢ <;> simp [hl']
mutual
theorem rep_cnt (g : Int → Prs → Int × Prs) : ∀ f : F, (f.rep g).cnt = f.cnt
  | .e _ _ _ => rfl
  | .nt f => by simp only [F.rep, F.cnt, rep_cnt g f]
  | .nd _ fs => by simp only [F.rep, F.cnt, reps_cnt g fs]
  | .qn _ _ f => by simp only [F.rep, F.cnt, rep_cnt g f]
theorem reps_cnt (g : Int → Prs → Int × Prs) : ∀ fs : List F, F.cnts (F.reps g fs) = F.cnts fs
  | [] => rfl
  | f :: fs => by simp only [F.reps, F.cnts, rep_cnt g f, reps_cnt g fs]
end
mutual
theorem rep_tv {P : EK → Int → Prs → Prop} {g : Int → Prs → Int × Prs} (u : Str → Int) (h : ∀ k n ps, P k n ps → (g n ps).1 + sv u (g n ps).2 = n + sv u ps) : ∀ f : F, f.all P → (f.rep g).tv u = f.tv u
  | .e k n ps, ha => by simp only [F.all] at ha; simp only [F.rep, F.tv, h k n ps ha]
  | .nt f, ha => by simp only [F.all] at ha; simp only [F.rep, F.tv, rep_tv u h f ha]
  | .nd true fs, ha => by simp only [F.all] at ha; simp only [F.rep, F.tv, (reps_tv u h fs ha).1]
  | .nd false fs, ha => by simp only [F.all] at ha; simp only [F.rep, F.tv, (reps_tv u h fs ha).2]
  | .qn _ _ _, ha => by simp only [F.rep, F.tv]
theorem reps_tv {P : EK → Int → Prs → Prop} {g : Int → Prs → Int × Prs} (u : Str → Int) (h : ∀ k n ps, P k n ps → (g n ps).1 + sv u (g n ps).2 = n + sv u ps) : ∀ fs : List F, F.alls P fs → F.tvA u (F.reps g fs) = F.tvA u fs ∧ F.tvO u (F.reps g fs) = F.tvO u fs
  | [], _ => ⟨rfl, rfl⟩
  | f :: fs, ha => by
    simp only [F.alls] at ha
    simp only [F.reps, F.tvA, F.tvO, rep_tv u h f ha.1, reps_tv u h fs ha.2]; exact ⟨trivial, trivial⟩
end
mutual
theorem tv_congr {u u' : Str → Int} : ∀ f : F, f.all (fun _ _ ps => ∀ p ∈ ps, u p.1 = u' p.1) → f.tv u = f.tv u'
  | .e k n ps, ha => by simp only [F.all] at ha; simp only [F.tv, sv_congr ps ha]
  | .nt f, ha => by simp only [F.all] at ha; simp only [F.tv, tv_congr f ha]
  | .nd true fs, ha => by simp only [F.all] at ha; simp only [F.tv, (tvs_congr fs ha).1]
  | .nd false fs, ha => by simp only [F.all] at ha; simp only [F.tv, (tvs_congr fs ha).2]
  | .qn _ _ _, ha => by simp only [F.tv]
theorem tvs_congr {u u' : Str → Int} : ∀ fs : List F, F.alls (fun _ _ ps => ∀ p ∈ ps, u p.1 = u' p.1) fs → F.tvA u fs = F.tvA u' fs ∧ F.tvO u fs = F.tvO u' fs
  | [], _ => ⟨rfl, rfl⟩
  | f :: fs, ha => by
    simp only [F.alls] at ha
    simp only [F.tvA, F.tvO, tv_congr f ha.1, tvs_congr fs ha.2]; exact ⟨trivial, trivial⟩
end
/-! ### the bounds -/
mutual
theorem lows_mem (v : Str → Int) (x : Str) (b : Int) : ∀ f : F, f.str = true → (b ∈ f.lows v x ↔ ∃ n ps, .e .above n ps ∈ f.ends ∧ tot x ps = 1 ∧ b = -rst v x n ps)
  | .e .above n ps, _ => by
    simp only [F.lows, F.ends]
    split
    · rename_i h
      simp only [List.mem_singleton, F.e.injEq, true_and]
      exact ⟨fun q => ⟨n, ps, ⟨rfl, rfl⟩, h, q⟩, fun ⟨n', ps', ⟨e1, e2⟩, _, q⟩ => by subst e1 e2; exact q⟩
    · rename_i h
      simp only [List.not_mem_nil, false_iff, List.mem_singleton, F.e.injEq, true_and]
      rintro ⟨n', ps', ⟨e1, e2⟩, q, _⟩
      subst e1 e2; exact h q
  | .e .nought _ _, hs => by simp [F.str] at hs
  | .e (.goes z) n ps, _ => by simp [F.lows, F.ends]
  | .nt (.e (.goes z) n ps), _ => by simp [F.lows, F.ends]
  | .nt (.e .above _ _), hs => by simp [F.str] at hs
  | .nt (.e .nought _ _), hs => by simp [F.str] at hs
  | .nt (.nt _), hs => by simp [F.str] at hs
  | .nt (.nd _ _), hs => by simp [F.str] at hs
  | .nt (.qn _ _ _), hs => by simp [F.str] at hs
  | .nd _ fs, hs => by simp only [F.str] at hs; simp only [F.lows, F.ends]; exact lowss_mem v x b fs hs
  | .qn _ _ _, hs => by simp [F.str] at hs
theorem lowss_mem (v : Str → Int) (x : Str) (b : Int) : ∀ fs : List F, F.strs fs = true → (b ∈ F.lowss v x fs ↔ ∃ n ps, .e .above n ps ∈ F.endss fs ∧ tot x ps = 1 ∧ b = -rst v x n ps)
  | [], _ => by simp [F.lowss, F.endss]
  | f :: fs, hs => by
    simp only [F.strs, Bool.and_eq_true] at hs
    simp only [F.lowss, F.endss, List.mem_append, lows_mem v x b f hs.1, lowss_mem v x b fs hs.2]
    constructor
    · rintro (⟨n, ps, h1, h2⟩ | ⟨n, ps, h1, h2⟩)
      · exact ⟨n, ps, .inl h1, h2⟩
      · exact ⟨n, ps, .inr h1, h2⟩
    · rintro ⟨n, ps, h1 | h1, h2⟩
      · exact .inl ⟨n, ps, h1, h2⟩
      · exact .inr ⟨n, ps, h1, h2⟩
end
mutual
theorem highs_mem (v : Str → Int) (x : Str) (b : Int) : ∀ f : F, f.str = true → (b ∈ f.highs v x ↔ ∃ n ps, .e .above n ps ∈ f.ends ∧ tot x ps = -1 ∧ b = rst v x n ps)
  | .e .above n ps, _ => by
    simp only [F.highs, F.ends]
    split
    · rename_i h
      simp only [List.mem_singleton, F.e.injEq, true_and]
      exact ⟨fun q => ⟨n, ps, ⟨rfl, rfl⟩, h, q⟩, fun ⟨n', ps', ⟨e1, e2⟩, _, q⟩ => by subst e1 e2; exact q⟩
    · rename_i h
      simp only [List.not_mem_nil, false_iff, List.mem_singleton, F.e.injEq, true_and]
      rintro ⟨n', ps', ⟨e1, e2⟩, q, _⟩
      subst e1 e2; exact h q
  | .e .nought _ _, hs => by simp [F.str] at hs
  | .e (.goes z) n ps, _ => by simp [F.highs, F.ends]
  | .nt (.e (.goes z) n ps), _ => by simp [F.highs, F.ends]
  | .nt (.e .above _ _), hs => by simp [F.str] at hs
  | .nt (.e .nought _ _), hs => by simp [F.str] at hs
  | .nt (.nt _), hs => by simp [F.str] at hs
  | .nt (.nd _ _), hs => by simp [F.str] at hs
  | .nt (.qn _ _ _), hs => by simp [F.str] at hs
  | .nd _ fs, hs => by simp only [F.str] at hs; simp only [F.highs, F.ends]; exact highss_mem v x b fs hs
  | .qn _ _ _, hs => by simp [F.str] at hs
theorem highss_mem (v : Str → Int) (x : Str) (b : Int) : ∀ fs : List F, F.strs fs = true → (b ∈ F.highss v x fs ↔ ∃ n ps, .e .above n ps ∈ F.endss fs ∧ tot x ps = -1 ∧ b = rst v x n ps)
  | [], _ => by simp [F.highss, F.endss]
  | f :: fs, hs => by
    simp only [F.strs, Bool.and_eq_true] at hs
    simp only [F.highss, F.endss, List.mem_append, highs_mem v x b f hs.1, highss_mem v x b fs hs.2]
    constructor
    · rintro (⟨n, ps, h1, h2⟩ | ⟨n, ps, h1, h2⟩)
      · exact ⟨n, ps, .inl h1, h2⟩
      · exact ⟨n, ps, .inr h1, h2⟩
    · rintro ⟨n, ps, h1 | h1, h2⟩
      · exact .inl ⟨n, ps, h1, h2⟩
      · exact .inr ⟨n, ps, h1, h2⟩
end
/-- no other name stands -/
def Ox (x : Str) (_ : EK) (_ : Int) (ps : Prs) : Prop := ∀ p ∈ ps, p.1 = x
theorem ox_norm {x : Str} {ps : Prs} (h : ∀ p ∈ ps, p.1 = x) : ∀ p ∈ norm ps, p.1 = x := fun p hp => by
  obtain ⟨q, q1, q2⟩ := List.mem_map.mp (norm_mem hp)
  rw [← q2]; exact h q q1
theorem ox_map {x : Str} {ps : Prs} (c : Int) (h : ∀ p ∈ ps, p.1 = x) : ∀ p ∈ ps.map (fun p => (p.1, c * p.2)), p.1 = x := fun p hp => by
  obtain ⟨q, hq, rfl⟩ := List.mem_map.mp hp
  exact h q hq
theorem tn_Ox (x : Str) : Tn (Ox x) (Ox x) := fun k n ps h => by
  have hb : ∀ p ∈ bk ps, p.1 = x := ox_norm (ox_map (-1) h)
  exact ⟨fun m => ⟨h, ox_norm h, hb, ox_norm hb⟩, fun z e => h⟩
theorem wo_ox {x : Str} {ps : Prs} (h : ∀ p ∈ ps, p.1 = x) : wo x ps = [] := by
  rw [List.filter_eq_nil_iff]
  intro p hp
  simp [h p hp]
theorem lined_ox {x : Str} {f : F} (hp : f.plain = true) (h : f.all (Ox x)) : (f.lined x).all (Ox x) := by
  have h1 := turn_all (tn_Ox x) f true hp h
  have h2 : ((f.turn true).stretch x (f.size x)).all (Ox x) := stretch_all x _ (fun k n ps h _ => h) (fun k n ps h _ => ox_norm fun p hp => by
    rcases List.mem_append.mp hp with q | q
    · exact ox_norm (ox_map _ (fun p hp => h p (List.mem_filter.mp hp).1)) p q
    · simp at q; rw [q]) _ (turn_plain f true hp) h1
  unfold F.lined
  split
  · simp only [F.all, F.alls]
    exact ⟨h2, fun p hp => by simp at hp; rw [hp], trivial⟩
  · exact h2
theorem mem_triesL {st m0 t : Int} {lows : List Int} : t ∈ triesL st m0 lows ↔ (∃ k : Nat, (k : Int) < st ∧ t = m0 - k) ∨ ∃ b ∈ lows, ∃ k : Int, 1 ≤ k ∧ k ≤ st ∧ t = b + k := by
  unfold triesL
  rw [List.mem_append, List.mem_map, List.mem_flatMap]
  constructor
  · rintro (⟨k, hk, e⟩ | ⟨b, hb, h⟩)
    · exact .inl ⟨k, by rw [List.mem_range] at hk; omega, e.symm⟩
    · obtain ⟨k, hk, e⟩ := List.mem_map.mp h
      rw [List.mem_range] at hk
      exact .inr ⟨b, hb, 1 + k, by omega, by omega, e.symm⟩
  · rintro (⟨k, hk, e⟩ | ⟨b, hb, k, h1, h2, e⟩)
    · exact .inl ⟨k, by rw [List.mem_range]; omega, e.symm⟩
    · refine .inr ⟨b, hb, List.mem_map.mpr ⟨(k - 1).toNat, by rw [List.mem_range]; omega, by omega⟩⟩
/-- the numbers that are tried of a statement of x alone -/
def tries (x : Str) (f : F) : List Int := triesL (f.step x) (minI 0 ((bnds x 1 [] (f.lined x).ends).map (·.1) ++ (bnds x (-1) [] (f.lined x).ends).map (·.1)) - 1) ((bnds x 1 [] (f.lined x).ends).map (·.1))
section
variable {N : List Str} {W M : Nat} {Q L : Int} {x : Str} {f : F}
theorem PreOk.found (P : PreOk N W M Q L x f) (ho : f.all (Ox x)) (v : Str → Int) (z : Int) (hz : f.tv (up v x z) = true) : ∃ t ∈ tries x f, (f.lined x).tv (up v x t) = true := by
  have hlo := lined_ox P.plain ho
  have hends : ∀ k n ps, .e k n ps ∈ (f.lined x).ends → wo x ps = [] := fun k n ps he => by
    obtain ⟨k', n', ps', e, _, q⟩ := ends_all _ P.str hlo _ he
    cases e
    exact wo_ox q
  have hl : ∀ b, b ∈ (f.lined x).lows v x ↔ b ∈ (bnds x 1 [] (f.lined x).ends).map (·.1) := fun b => by
    rw [lows_mem v x b _ P.str, List.mem_map]
    constructor
    · rintro ⟨n, ps, h1, h2, h3⟩
      refine ⟨bP x 1 n ps, (bnds_mem x 1 _ _ []).mpr (.inr ⟨n, ps, h1, h2, rfl⟩), ?_⟩
      rw [h3]; simp [bP, rst, hends _ _ _ h1, sv]
    · rintro ⟨q, h1, h2⟩
      rcases (bnds_mem x 1 _ _ []).mp h1 with h | ⟨n, ps, h3, h4, h5⟩
      · simp at h
      · refine ⟨n, ps, h3, h4, ?_⟩
        rw [← h2, h5]; simp [bP, rst, hends _ _ _ h3, sv]
  have hh : ∀ b, b ∈ (f.lined x).highs v x ↔ b ∈ (bnds x (-1) [] (f.lined x).ends).map (·.1) := fun b => by
    rw [highs_mem v x b _ P.str, List.mem_map]
    constructor
    · rintro ⟨n, ps, h1, h2, h3⟩
      refine ⟨bP x (-1) n ps, (bnds_mem x (-1) _ _ []).mpr (.inr ⟨n, ps, h1, h2, rfl⟩), ?_⟩
      rw [h3]; simp [bP, rst, hends _ _ _ h1, sv]
    · rintro ⟨q, h1, h2⟩
      rcases (bnds_mem x (-1) _ _ []).mp h1 with h | ⟨n, ps, h3, h4, h5⟩
      · simp at h
      · refine ⟨n, ps, h3, h4, ?_⟩
        rw [← h2, h5]; simp [bP, rst, hends _ _ _ h3, sv]
  have hmin := minI_le 0 ((bnds x 1 [] (f.lined x).ends).map (·.1) ++ (bnds x (-1) [] (f.lined x).ends).map (·.1))
  have hc := cooper v x (f.step x) (minI 0 ((bnds x 1 [] (f.lined x).ends).map (·.1) ++ (bnds x (-1) [] (f.lined x).ends).map (·.1)) - 1) P.step_pos (f.lined x) P.str P.one
    (fun b hb => by have := hmin b (List.mem_append_left _ ((hl b).mp hb)); omega)
    (fun b hb => by have := hmin b (List.mem_append_right _ ((hh b).mp hb)); omega)
    (f.size x * z) (by rw [P.tv]; exact hz)
  unfold tries
  rcases hc with ⟨k, hk, ht⟩ | ⟨b, hb, k, h1, h2, ht⟩
  · exact ⟨_, mem_triesL.mpr (.inl ⟨k, hk, rfl⟩), ht⟩
  · exact ⟨_, mem_triesL.mpr (.inr ⟨b, (hl b).mp hb, k, h1, h2, rfl⟩), ht⟩
end
end Pf

set_option Elab.async false
set_option linter.all false
set_option maxRecDepth 100000
set_option maxHeartbeats 4000000
namespace Pf
open PySem L2
/-! ## told as the program does it -/
def Pu (x : Str) (f : F) (done : List Str) (_ : EK) (_ : Int) (ps : Prs) : Prop := ∀ p ∈ ps, p.1 ∈ f.free [] ∧ (p.1 ≠ x → p.1 ∉ done)
theorem pin_nil {N : List Str} {ps : Prs} (h : Rg N ps) (hd : N.Nodup) (s : Str) (m n : Int) : pin s m [] n ps = (n + tot s ps * m, wo s ps) := by
  unfold pin
  have e : norm (List.map (fun p => (p.1, tot s ps * p.2)) ([] : Prs)) = [] := rfl
  rw [e, List.append_nil, norm_rg (rg_filter _ h) hd]
theorem tot_wo_ne {x s : Str} (h : x ≠ s) (ps : Prs) : tot x (wo s ps) = tot x ps := by
  have := tot_without x s ps
  rwa [if_neg h] at this
@[simp] theorem gN_0 (ρ : Ev) : gNames [] [] ρ = .ok ρ := id rfl
@[simp] theorem gN_s (i : Nat) (is : List Nat) (x : T) (xs : List T) (ρ : Ev) : gNames (i :: is) (x :: xs) ρ = gNames is xs (ρ.set i (.d (.t x) true)) := id rfl
theorem put_eq (x : Str) (m : Int) (qs : Prs) (hq : qs.length < 20) (f : F) (h : f.dep ≤ 60) (hp : f.plain = true) (hw : f.wid ≤ 16777216) (ha : f.all (PinOk m qs)) : m_put [.t f.enc, .t (.str x), .t (smT m qs)] = .ok (.t (f.rep (pin x m qs)).enc) := by
  have h1 := need_plain_eq f h
  rw [if_pos hp] at h1
  have h2 := replaced_eq x m qs hq 60 f h hp hw ha
  unfold m_put g_put
  rw [runDef_Rt]
  simp [h1, h2]
section
variable {N : List Str} {W M : Nat} {Q L : Int} {x : Str} {f : F}
theorem told_loop (P : PreOk N W M Q L x f) (kvs : Prs) (hv : ∀ s ∈ f.free [], s ≠ x → s ∈ kvs.map (·.1)) (a5 a6 a7 a8 : Sl) : ∀ (l : List Str) (done : List Str) (g : F) (k4 : Sl), (∀ s ∈ l, s ∈ f.free []) → PreOk N W M Q L x g → g.all (Pu x f done) → (∀ z, g.tv (up (vl kvs) x z) = f.tv (up (vl kvs) x z)) →
    ∃ (g' : F) (k4' : Sl), forR 4 (ifO (tV (b2 neD (rdE 4) (rdE 0))) (setO 3 (ap m_put (cA (rdE 3) (cA (rdE 4) (cA (ap mkTup (cA (b2 dgetD (rdE 2) (rdE 4)) (cA (ap mkTup nA) nA))) nA))))) nxO) (l.map T.str) [.d (.t (.str x)) false, .d (.t f.enc) false, .d (.dct kvs) false, .d (.t g.enc) true, k4, a5, a6, a7, a8] = .ok (.nx [.d (.t (.str x)) false, .d (.t f.enc) false, .d (.dct kvs) false, .d (.t g'.enc) true, k4', a5, a6, a7, a8]) ∧ PreOk N W M Q L x g' ∧ g'.all (Pu x f (done ++ l)) ∧ ∀ z, g'.tv (up (vl kvs) x z) = f.tv (up (vl kvs) x z)
  | [], done, g, k4, _, Pg, hu, ht => ⟨g, k4, by simp, Pg, by rw [List.append_nil]; exact hu, ht⟩
  | s :: l, done, g, k4, hl, Pg, hu, ht => by
    by_cases hx : s = x
    · obtain ⟨g', k4', e, h1, h2, h3⟩ := told_loop P kvs hv a5 a6 a7 a8 l (done ++ [s]) g (.d (.t (.str s)) true) (fun t q => hl t (List.mem_cons_of_mem _ q)) Pg (all_mono (fun k n ps q p hp => ⟨(q p hp).1, fun hne hm => by
        rcases List.mem_append.mp hm with r | r
        · exact (q p hp).2 hne r
        · simp at r; exact hne (r.trans hx)⟩) g hu) ht
      refine ⟨g', k4', ?_, h1, by rw [List.append_assoc] at h2; exact h2, h3⟩
      rw [← e]
      simp [forR, hx]
    · have hs := hv s (hl s (by simp)) hx
      have hd := dget_vl hs
      have hpu := put_eq s (vl kvs s) [] (by decide) g (by have := Pg.dep; omega) Pg.plain (by have := Pg.wid; omega) (all_mono (fun k n ps q => ⟨q.1.nodup Pg.nd, by have := rg_len q.1; have := Pg.len; omega, fun p hp => by have := q.2.1 p hp; have := Pg.wb; omega⟩) g Pg.all)
      have hsm : T.tup [.int (vl kvs s), .tup []] = smT (vl kvs s) [] := rfl
      have hall : (g.rep (pin s (vl kvs s) [])).all (fun k n ps => Ed N W M L x Q k n ps ∧ Pu x f (done ++ [s]) k n ps) := rep_all (P := fun k n ps => Ed N W M L x Q k n ps ∧ Pu x f done k n ps) (fun k n ps q => by
        rw [pin_nil q.1.1 Pg.nd]
        obtain ⟨⟨q1, q2, q3, q4⟩, q5⟩ := q
        refine ⟨⟨rg_filter _ q1, fun p hp => q2 p (List.mem_filter.mp hp).1, q3, fun h0 => ?_⟩, fun p hp => ?_⟩
        · have e := tot_wo_ne (Ne.symm hx) ps
          show ((tot x (wo s ps)).natAbs : Int) ∣ Q
          have h0' : tot x (wo s ps) ≠ 0 := h0
          rw [e] at h0' ⊢; exact q4 h0'
        · obtain ⟨h5, h6⟩ := List.mem_filter.mp hp
          refine ⟨(q5 p h5).1, fun hne hm => ?_⟩
          rcases List.mem_append.mp hm with r | r
          · exact (q5 p h5).2 hne r
          · simp at r h6; exact h6 r) g (all_and g Pg.all hu)
      have Pg' : PreOk N W M Q L x (g.rep (pin s (vl kvs s) [])) := { Pg with plain := by rw [rep_plain]; exact Pg.plain, dep := by rw [rep_dep]; exact Pg.dep, wid := by rw [rep_wid]; exact Pg.wid, cnt := by rw [rep_cnt]; exact Pg.cnt, all := all_mono (fun _ _ _ q => q.1) _ hall }
      have ht' : ∀ z, (g.rep (pin s (vl kvs s) [])).tv (up (vl kvs) x z) = f.tv (up (vl kvs) x z) := fun z => by
        rw [← ht z]
        refine rep_tv (P := Ed N W M L x Q) _ (fun k n ps q => ?_) g Pg.all
        rw [pin_nil q.1 Pg.nd]
        have h7 := sv_without (up (vl kvs) x z) s ps
        have h8 : up (vl kvs) x z s = vl kvs s := by unfold up; rw [if_neg hx]
        rw [h8] at h7
        show n + tot s ps * vl kvs s + sv (up (vl kvs) x z) (wo s ps) = _
        have h9 : sv (up (vl kvs) x z) (wo s ps) = sv (up (vl kvs) x z) ps - tot s ps * vl kvs s := h7
        rw [h9]; omega
      obtain ⟨g', k4', e, h1, h2, h3⟩ := told_loop P kvs hv a5 a6 a7 a8 l (done ++ [s]) (g.rep (pin s (vl kvs s) [])) (.d (.t (.str s)) true) (fun t q => hl t (List.mem_cons_of_mem _ q)) Pg' (all_mono (fun _ _ _ q => q.2) _ hall) ht'
      refine ⟨g', k4', ?_, h1, by rw [List.append_assoc] at h2; exact h2, h3⟩
      rw [← e]
      simp [forR, hx, hd, hsm, hpu]
theorem tries_loop (g : F) (x : Str) (size : Int) (hsz : 0 < size) (hsz2 : size < 1000) (h1 : g.dep ≤ 60) (h2 : g.plain = true) (h3 : g.all Rk) (h4 : g.all (Ox x)) (a0 : Sl) (a1 a2 a3 a4 a8 : Sl) : ∀ (ts : List Int) (k5 : Sl),
    (∃ t ∈ ts, g.tv (up (fun _ => 0) x t) = true ∧ Rt (seqO (forR 5 (ifO (tV (ap (m_truth 60) (cA (rdE 6) (cA (kD1 (rdE 0) (rdE 5)) nA)))) (retO (b2 divD (rdE 5) (rdE 7))) nxO) (ts.map T.int)) (retO kN) [.d (.t (.str x)) false, a1, a2, a3, a4, k5, .d (.t g.enc) true, .d (.t (.int size)) true, a8]) = .ok (.t (.int (t / size)))) ∨
    ((∀ t ∈ ts, g.tv (up (fun _ => 0) x t) = false) ∧ Rt (seqO (forR 5 (ifO (tV (ap (m_truth 60) (cA (rdE 6) (cA (kD1 (rdE 0) (rdE 5)) nA)))) (retO (b2 divD (rdE 5) (rdE 7))) nxO) (ts.map T.int)) (retO kN) [.d (.t (.str x)) false, a1, a2, a3, a4, k5, .d (.t g.enc) true, .d (.t (.int size)) true, a8]) = .ok (.t .non))
  | [], k5 => .inr ⟨by simp, by simp⟩
  | t :: ts, k5 => by
    have htr := truth_eq [(x, t)] 60 g h1 h2 h3 (all_mono (fun k n ps q p hp => by simp [q p hp]) g h4)
    have hc : g.tv (vl [(x, t)]) = g.tv (up (fun _ => 0) x t) := tv_congr g (all_mono (fun k n ps q p hp => by
      rw [q p hp]; simp [up, vl, getS]) g h4)
    rw [hc] at htr
    have hdv := div_ii t size hsz (by omega)
    cases hv : g.tv (up (fun _ => 0) x t) with
    | true =>
      rw [hv] at htr
      exact .inl ⟨t, by simp, hv, by simp [forR, kD1, htr, hdv]⟩
    | false =>
      rw [hv] at htr
      rcases tries_loop g x size hsz hsz2 h1 h2 h3 h4 a0 a1 a2 a3 a4 a8 ts (.d (.t (.int t)) true) with ⟨t', m1, m2, m3⟩ | ⟨m1, m2⟩
      · refine .inl ⟨t', List.mem_cons_of_mem _ m1, m2, ?_⟩
        rw [← m3]
        simp [forR, kD1, htr]
      · refine .inr ⟨fun t' q => (List.mem_cons.mp q).elim (fun e => by rw [e]; exact hv) (m1 t'), ?_⟩
        rw [← m2]
        simp [forR, kD1, htr]
/-- all that is told of a statement -/
structure ToOk (N : List Str) (W M : Nat) (Q L : Int) (x : Str) (f : F) : Prop extends PreOk N W M Q L x f where
  sz : f.sz < 4000
  ql : Q * L ≤ 1000
theorem ToOk.unk (P : ToOk N W M Q L x f) : m_unknowns [.t f.enc] = .ok (.lst ((srtS (onceS (f.free []))).map T.str)) :=
  unknowns_eq f N (by have := P.dep; omega) P.sz (all_mono (fun k n ps q => q.1.mem) f P.all) (by have := P.len; omega)
theorem need_others (P : ToOk N W M Q L x f) (kvs : Prs) (a2 : Sl) (a3 a5 a6 a7 a8 : Sl) : (exprO (ap m_need_values (cA (lcN 4 (ap m_unknowns (cA (rdE 1) nA)) selL (tV (b2 neD (rdE 4) (rdE 0))) (rdT 4)) (cA (rdE 2) nA)))) [.d (.t (.str x)) false, .d (.t f.enc) false, .d (.dct kvs) false, a3, .un, a5, a6, a7, a8] = if ∀ s ∈ f.free [], s ≠ x → s ∈ kvs.map (·.1) then .ok (.nx [.d (.t (.str x)) false, .d (.t f.enc) false, .d (.dct kvs) false, a3, .un, a5, a6, a7, a8]) else .raise 0 := by
  have hu := P.unk
  generalize hLL : srtS (onceS (f.free [])) = LL at hu
  have hmem : ∀ s, s ∈ LL ↔ s ∈ f.free [] := fun s => by rw [← hLL]; exact srtOnce_mem s _
  have hlc : lcR 4 (tV (b2 neD (rdE 4) (rdE 0))) (rdT 4) [.d (.t (.str x)) false, .d (.t f.enc) false, .d (.dct kvs) false, a3, .un, a5, a6, a7, a8] (LL.map T.str) = .ok ((LL.filter fun s => !decide (s = x)).map T.str) := by
    refine lcR_map T.str (fun s => !decide (s = x)) T.str LL fun s hs => ?_
    exact ⟨by simp, fun _ => by simp⟩
  have hLl : LL.length ≤ 16777216 := by
    rw [← hLL, (srtS_perm _).length_eq]
    have := once_len (f.free [])
    have := free_len f []
    have := P.sz; omega
  have hn := need_values_eq (LL.filter fun s => !decide (s = x)) kvs
  have hiff : (∀ s ∈ LL.filter (fun s => !decide (s = x)), s ∈ kvs.map (·.1)) ↔ (∀ s ∈ f.free [], s ≠ x → s ∈ kvs.map (·.1)) := by
    constructor
    · intro h s hs hx
      exact h s (List.mem_filter.mpr ⟨(hmem s).mpr hs, by simpa using hx⟩)
    · intro h s hs
      obtain ⟨h1, h2⟩ := List.mem_filter.mp hs
      exact h s ((hmem s).mp h1) (by simpa using h2)
  simp only [hiff] at hn
  by_cases hv : ∀ s ∈ f.free [], s ≠ x → s ∈ kvs.map (·.1)
  · rw [if_pos hv] at hn ⊢
    simp [hu, hlc, hLl, hn, -lcR_cons]
  · rw [if_neg hv] at hn ⊢
    simp [hu, hlc, hLl, hn, -lcR_cons]
theorem told_no (w : World) (P : ToOk N W M Q L x f) (kvs : Prs) (hv : ¬ ∀ s ∈ f.free [], s ≠ x → s ∈ kvs.map (·.1)) : m_told w [.t (.str x), .t f.enc, .dct kvs] = .raise 0 := by
  have h1 := need_others P kvs .un .un .un .un .un .un
  rw [if_neg hv] at h1
  unfold m_told g_told
  rw [runDef_Rt]
  simp only [List.map_cons, List.map_nil, List.cons_append, List.nil_append, un_s, un_0, seqO, h1, R.raise_bind, Rt]
theorem told_eq (w : World) (P : ToOk N W M Q L x f) (kvs : Prs) (hv : ∀ s ∈ f.free [], s ≠ x → s ∈ kvs.map (·.1)) :
    (∃ z, m_told w [.t (.str x), .t f.enc, .dct kvs] = .ok (.t (.int z)) ∧ f.tv (up (vl kvs) x z) = true) ∨ (m_told w [.t (.str x), .t f.enc, .dct kvs] = .ok (.t .non) ∧ ∀ z, f.tv (up (vl kvs) x z) = false) := by
  have h1 := need_others P kvs .un .un .un .un .un .un
  rw [if_pos hv] at h1
  have hle := left_eq w 60 f (by have := P.dep; omega) P.plain (by have := P.wid; omega)
  have hu := P.unk
  have hmem : ∀ s, s ∈ srtS (onceS (f.free [])) ↔ s ∈ f.free [] := fun s => srtOnce_mem s _
  obtain ⟨g, k4, e, Pg, hpu, htv⟩ := told_loop P.toPreOk kvs hv .un .un .un .un (srtS (onceS (f.free []))) [] f .un (fun s hs => (hmem s).mp hs) P.toPreOk (all_mono (fun k n ps q p hp => ⟨q p hp, fun _ h => by simp at h⟩) f (all_free (f.free []) f P.plain fun s hs => hs)) (fun z => rfl)
  have hox : g.all (Ox x) := all_mono (fun k n ps q p hp => by
    obtain ⟨q1, q2⟩ := q p hp
    apply Classical.byContradiction
    intro hne
    exact q2 hne (by simpa using (hmem _).mpr q1)) g hpu
  have hpr := Pg.eq
  have hst := Pg.step_le
  have hsp := Pg.step_pos
  have hql := P.ql
  have hlc := Pg.lcnt
  have hc := Pg.cnt
  have hld := Pg.ldep
  have hdp := Pg.dep
  have hsz := Pg.size_pos
  have hsl := Pg.size_le
  have hq1 := P.q1
  have htr := tries_of_eq w x (g.step x) hsp (by omega) (g.lined x) (by omega) Pg.str (by omega) (all_mono (fun k n ps q => ⟨q.1.nodup Pg.nd, by have := rg_len q.1; have := Pg.len; omega⟩) _ Pg.ln) (by
    have : (g.lined x).cnt * (g.step x).toNat ≤ 2001 * 1000 := Nat.mul_le_mul (by omega) (by omega)
    omega)
  have htl : triesL (g.step x) (minI 0 ((bnds x 1 [] (g.lined x).ends).map (·.1) ++ (bnds x (-1) [] (g.lined x).ends).map (·.1)) - 1) ((bnds x 1 [] (g.lined x).ends).map (·.1)) = tries x g := rfl
  rw [htl] at htr
  have hlo := tries_loop (g.lined x) x (g.size x) hsz (by omega) (by omega) (str_plain _ Pg.str) (all_mono (fun k n ps q => ⟨fun p hp => by have := q.2.1 p hp; omega, fun z e => (q.2.2.2 z e).1⟩) _ Pg.ln) (lined_ox Pg.plain hox) .un (.d (.t f.enc) false) (.d (.dct kvs) false) (.d (.t g.enc) true) k4 (.d (.t (.int (g.step x))) true) (tries x g) .un
  have hcong : ∀ t, (g.lined x).tv (up (fun _ => 0) x t) = (g.lined x).tv (up (vl kvs) x t) := fun t => tv_congr _ (all_mono (fun k n ps q p hp => by rw [q p hp]; simp [up]) _ (lined_ox Pg.plain hox))
  have run : ∀ r, Rt (seqO (forR 5 (ifO (tV (ap (m_truth 60) (cA (rdE 6) (cA (kD1 (rdE 0) (rdE 5)) nA)))) (retO (b2 divD (rdE 5) (rdE 7))) nxO) ((tries x g).map T.int)) (retO kN) [.d (.t (.str x)) false, .d (.t f.enc) false, .d (.dct kvs) false, .d (.t g.enc) true, k4, .un, .d (.t (g.lined x).enc) true, .d (.t (.int (g.size x))) true, .d (.t (.int (g.step x))) true]) = r → m_told w [.t (.str x), .t f.enc, .dct kvs] = r := by
    intro r hr
    unfold m_told g_told
    rw [runDef_Rt]
    simp only [List.map_cons, List.map_nil, List.cons_append, List.nil_append, un_s, un_0]
    refine (Rt_seq h1).trans ?_
    refine (Rt_seq (by simp [hle]; rfl)).trans ?_
    refine (Rt_seq (by simp [hu]; exact e)).trans ?_
    refine (Rt_seq (by simp [unpO, hpr]; rfl)).trans ?_
    rw [← hr]
    simp only [seqO, forLO, ap, cA, nA, rdE_0, rdE_s, R.ok_bind, htr]
  rcases hlo with ⟨t, m1, m2, m3⟩ | ⟨m1, m2⟩
  · left
    refine ⟨_, run _ m3, ?_⟩
    rw [← htv]
    exact Pg.sound (vl kvs) t (by rw [← hcong]; exact m2)
  · right
    refine ⟨run _ m2, fun z => ?_⟩
    cases hz : f.tv (up (vl kvs) x z) with
    | false => rfl
    | true =>
      obtain ⟨t, t1, t2⟩ := Pg.found hox (vl kvs) z (by rw [htv]; exact hz)
      rw [← hcong, m1 t t1] at t2; cases t2
theorem holds_eq (w : World) (f : F) (N : List Str) (kvs : Prs) (h1 : f.dep ≤ 60) (h2 : f.sz < 4000) (h3 : f.all (EOk N)) (h4 : N.length < 64) (h5 : f.plain = true) (h6 : f.wid ≤ 1000) (hv : ∀ s ∈ f.free [], s ∈ kvs.map (·.1)) : m_holds w [.t f.enc, .dct kvs] = .ok (.t (.bl (f.tv (vl kvs)))) := by
  have e1 := is_true_eq f N kvs h1 h2 h3 h4
  rw [h5, if_pos rfl, if_pos hv] at e1
  have e2 := unknowns_eq f N h1 h2 (all_mono (fun k n ps q => q.1.mem) f h3) h4
  have e3 := need_values_eq (srtS (onceS (f.free []))) kvs
  simp only [srtOnce_mem] at e3
  rw [if_pos hv] at e3
  have e4 := left_eq w 60 f h1 h5 (by omega)
  unfold m_holds g_holds
  rw [runDef_Rt]
  simp [e2, e3, e4, e1]
end
end Pf

set_option Elab.async false
set_option linter.all false
set_option maxRecDepth 100000
set_option maxHeartbeats 4000000
namespace Pf
open PySem L2
/-! ## the law's own tries -/
mutual
def F.lends : F → List F
  | .e k n ps => [.e k n ps]
  | .nt f => f.lends
  | .nd _ fs => F.lendss fs
  | .qn b x f => [.qn b x f]
def F.lendss : List F → List F
  | [] => []
  | f :: fs => f.lends ++ F.lendss fs
end
mutual
theorem lends_len : ∀ f : F, f.lends.length ≤ f.cnt + 0 ∨ f.plain = false
  | .e _ _ _ => .inl (by simp [F.lends, F.cnt])
  | .nt f => by simp only [F.lends, F.cnt, F.plain]; exact lends_len f
  | .nd _ fs => by simp only [F.lends, F.cnt, F.plain]; exact lendss_len fs
  | .qn _ _ _ => .inr rfl
theorem lendss_len : ∀ fs : List F, (F.lendss fs).length ≤ F.cnts fs + 0 ∨ F.plains fs = false
  | [] => .inl (by simp [F.lendss, F.cnts])
  | f :: fs => by
    rcases lends_len f with h | h
    · rcases lendss_len fs with h2 | h2
      · left; simp only [F.lendss, F.cnts, List.length_append]; omega
      · right; simp [F.plains, h2]
    · right; simp [F.plains, h]
end
mutual
theorem lends_all {P : EK → Int → Prs → Prop} : ∀ f : F, f.plain = true → f.all P → ∀ g ∈ f.lends, ∃ k n ps, g = .e k n ps ∧ P k n ps
  | .e k n ps, _, ha, g, hg => by simp only [F.all] at ha; simp [F.lends] at hg; exact ⟨_, _, _, hg, ha⟩
  | .nt f, hp, ha, g, hg => by simp only [F.plain, F.all, F.lends] at hp ha hg; exact lends_all f hp ha g hg
  | .nd _ fs, hp, ha, g, hg => by simp only [F.plain, F.all, F.lends] at hp ha hg; exact lendss_all fs hp ha g hg
  | .qn _ _ _, hp, _, _, _ => by simp [F.plain] at hp
theorem lendss_all {P : EK → Int → Prs → Prop} : ∀ fs : List F, F.plains fs = true → F.alls P fs → ∀ g ∈ F.lendss fs, ∃ k n ps, g = .e k n ps ∧ P k n ps
  | [], _, _, g, hg => by simp [F.lendss] at hg
  | f :: fs, hp, ha, g, hg => by
    simp only [F.plains, Bool.and_eq_true, F.alls, F.lendss, List.mem_append] at hp ha hg
    rcases hg with hg | hg
    · exact lends_all f hp.1 ha.1 g hg
    · exact lendss_all fs hp.2 ha.2 g hg
end
theorem law_ends_eq : ∀ (n : Nat) (f : F), f.dep ≤ n → f.plain = true → f.cnt ≤ 16777216 → m_law_ends n [.t f.enc] = .ok (.lst (f.lends.map F.enc))
  | 0, f, h, _, _ => by cases f <;> simp [F.dep] at h
  | n + 1, f, h, hs, hc => by
    unfold m_law_ends g_law_ends
    rw [runDef_Rt]
    cases f with
    | e k y ps => cases k <;> simp [F.enc, F.lends]
    | nt f =>
      simp only [F.dep, F.plain, F.cnt] at h hs hc
      have := law_ends_eq n f (by omega) hs hc
      simp [F.enc, F.lends, this]
    | qn b y f => simp [F.plain] at hs
    | nd b fs =>
      simp only [F.dep, F.plain, F.cnt] at h hs hc
      have key : ∀ (gs : List F) (acc : List F) (k3 : Sl), (∀ g ∈ gs, g ∈ fs) → acc.length + F.cnts gs ≤ 16777216 → ∃ k', forR 3 (extO 2 (ap (m_law_ends n) (cA (rdE 3) nA))) (F.encs gs) [.d (.t (F.enc (.nd b fs))) false, .d (.t (.str (bw b))) true, .d (.lst (acc.map F.enc)) true, k3] = .ok (.nx [.d (.t (F.enc (.nd b fs))) false, .d (.t (.str (bw b))) true, .d (.lst ((acc ++ F.lendss gs).map F.enc)) true, k']) := by
        intro gs
        induction gs with
        | nil => intro acc k3 _ _; exact ⟨k3, by simp [F.encs, F.lendss]⟩
        | cons g gs ih =>
          intro acc k3 hm hl
          have hg := hm g (by simp)
          have h1 := deps_mem hg
          have h2 := cnts_mem hg
          have hgs := plains_mem hs hg
          have hr := law_ends_eq n g (by omega) hgs (by omega)
          have hgl := lends_len g
          rw [hgs] at hgl
          simp at hgl
          simp only [F.cnts] at hl
          obtain ⟨k', e⟩ := ih (acc ++ g.lends) (.d (.t g.enc) true) (fun x hx => hm x (List.mem_cons_of_mem _ hx)) (by rw [List.length_append]; omega)
          have h3 : acc.length + g.lends.length ≤ 16777216 := by omega
          refine ⟨k', ?_⟩
          simp only [F.encs, F.lendss, forR, List.set_cons_succ, List.set_cons_zero, extO, ap, cA, nA, rdE_0, rdE_s, R.ok_bind, hr, List.getElem?_cons_succ, List.getElem?_cons_zero, List.length_map, if_pos h3, ← List.map_append, e, List.append_assoc]
      obtain ⟨k', e⟩ := key fs [] .un (fun g hg => hg) (by simp; exact hc)
      simp only [F.enc, List.map_nil, List.nil_append] at e
      cases b <;> simp [F.enc, F.lends, retN] at e ⊢ <;> simp [e]
/-- more and more times the step, until h goes into it -/
theorem more_loop (st h : Int) (hs : 0 < st) (hh : 0 < h) (a0 a1 a2 a4 a6 a7 a9 a10 a11 a12 : Sl) (n : Int) (ps : Prs) : ∀ (fuel : Nat) (m : Int), 0 < m → st ∣ m → m ≤ lcmI st h → lcmI st h < m + fuel * st → whR (tV (b2 neD (b2 modD (rdE 8) (b2 ixD (rdE 5) (kI 1))) (kI 0))) (setO 8 (b2 addD (rdE 8) (rdE 3))) fuel [a0, a1, a2, .d (.t (.int st)) true, a4, .d (.t (F.e (.goes h) n ps).enc) true, a6, a7, .d (.t (.int m)) true, a9, a10, a11, a12] = .ok (.nx [a0, a1, a2, .d (.t (.int st)) true, a4, .d (.t (F.e (.goes h) n ps).enc) true, a6, a7, .d (.t (.int (lcmI st h))) true, a9, a10, a11, a12])
  | 0, m, _, _, h1, h2 => by simp at h2; omega
  | fuel + 1, m, h0, hd, h1, h2 => by
    have hmod := mod_ii m h hh
    unfold whR
    by_cases hz : m % h = 0
    · have hl : lcmI st h ∣ m := lcmI_dvd hd (Int.dvd_of_emod_eq_zero hz)
      have : lcmI st h ≤ m := Int.le_of_dvd h0 hl
      have e : lcmI st h = m := by omega
      rw [e]
      simp [F.enc, hmod, hz]
    · have hlt : m < lcmI st h := by
        rcases Int.lt_or_le m (lcmI st h) with q | q
        · exact q
        · exfalso
          have e : m = lcmI st h := by omega
          rw [e] at hz
          exact hz (Int.emod_eq_zero_of_dvd (dvd_lcmI_r st h))
      have hle : m + st ≤ lcmI st h := by
        have : st ∣ lcmI st h - m := Int.dvd_sub (dvd_lcmI_l st h) hd
        have := Int.le_of_dvd (by omega) this
        omega
      have ih := more_loop st h hs hh a0 a1 a2 a4 a6 a7 a9 a10 a11 a12 n ps fuel (m + st) (by omega) (Int.dvd_add hd (Int.dvd_refl _)) hle (by
        have : ((fuel + 1 : Nat) : Int) * st = fuel * st + st := by rw [Int.natCast_add, Int.add_mul]; simp
        omega)
      have ih' := ih
      simp only [F.enc] at ih'
      simp [F.enc, hmod, hz, ih']
/-- an end of which the law tells where its sum comes to nought -/
def Le (x : Str) (kvs : Prs) (L : Int) (k : EK) (_ : Int) (ps : Prs) : Prop := (∀ p ∈ ps, p.2.natAbs ≤ 1000000) ∧ (∀ p ∈ ps, p.1 ≠ x → p.1 ∈ kvs.map (·.1)) ∧ (tot x ps).natAbs ≤ 1000000 ∧ ps.length ≤ 1000 ∧ ∀ h, k = .goes h → 1 ≤ h ∧ h ∣ L
theorem ends_loop (x : Str) (kvs : Prs) (L : Int) (hL : 0 < L) (hL2 : L ≤ 40) (a0 : Sl) : ∀ (es : List F) (st : Int) (ro : List Int) (a5 a6 a7 a8 a9 a10 a11 : Sl), 0 < st → st ∣ L → ro.length + es.length ≤ 100000 → (∀ g ∈ es, ∃ k n ps, g = .e k n ps ∧ Le x kvs L k n ps) →
    ∃ (st' : Int) (ro' : List Int) (b5 b8 b9 b10 : Sl), forR 5 (ifO (tV (b2 eqD (b2 ixD (rdE 5) (kI 0)) (kS "goes"))) (seqO (setO 8 (rdT 3))
      (seqO (whR (tV (b2 neD (b2 modD (rdE 8) (b2 ixD (rdE 5) (kI 1))) (kI 0))) (setO 8 (b2 addD (rdE 8) (rdE 3))) 1000)
      (setO 3 (rdT 8)))) (seqO (setO 9 (ap sumD (cA (lcN 12 (b2 ixD (b2 ixD (rdE 5) (u1 negD (kI 1))) (kI 1)) selT (tV (b2 eqD (b2 ixD (rdE 12) (kI 0)) (rdE 1))) (b2 ixD (rdE 12) (kI 1))) nA)))
      (seqO (setO 10 (b2 addD (b2 ixD (b2 ixD (rdE 5) (u1 negD (kI 1))) (kI 0)) (ap sumD (cA (lcN 12 (b2 ixD (b2 ixD (rdE 5) (u1 negD (kI 1))) (kI 1)) selT (tV (b2 neD (b2 ixD (rdE 12) (kI 0)) (rdE 1))) (b2 mulD (b2 ixD (rdE 12) (kI 1)) (b2 dgetD (rdE 2) (b2 ixD (rdE 12) (kI 0))))) nA))))
      (ifO (tV (b2 neD (rdE 9) (kI 0))) (appO 4 (b2 divD (b2 subD (kI 0) (rdE 10)) (rdE 9))) nxO)))) (es.map F.enc) [a0, .d (.t (.str x)) false, .d (.dct kvs) false, .d (.t (.int st)) true, .d (.lst (ro.map T.int)) true, a5, a6, a7, a8, a9, a10, a11, .un] = .ok (.nx [a0, .d (.t (.str x)) false, .d (.dct kvs) false, .d (.t (.int st')) true, .d (.lst (ro'.map T.int)) true, b5, a6, a7, b8, b9, b10, a11, .un]) ∧ 0 < st' ∧ st' ∣ L ∧ ro'.length ≤ ro.length + es.length
  | [], st, ro, a5, a6, a7, a8, a9, a10, a11, h0, h1, _, _ => ⟨st, ro, a5, a8, a9, a10, by simp, h0, h1, by simp⟩
  | g :: es, st, ro, a5, a6, a7, a8, a9, a10, a11, h0, h1, hl, hg => by
    obtain ⟨k, n, ps, rfl, q1, q2, q3, q4, q5⟩ := hg g (by simp)
    simp only [List.length_cons] at hl ⊢
    by_cases hk : ∃ z, k = .goes z
    · obtain ⟨z, rfl⟩ := hk
      obtain ⟨z1, z2⟩ := q5 z rfl
      have hlp := lcmI_pos h0 (show 0 < z by omega)
      have hld := lcmI_dvd h1 z2
      have hle : lcmI st z ≤ 40 := Int.le_trans (Int.le_of_dvd hL hld) hL2
      have hm := more_loop st z h0 (by omega) a0 (.d (.t (.str x)) false) (.d (.dct kvs) false) (.d (.lst (ro.map T.int)) true) a6 a7 a9 a10 a11 .un n ps 1000 st h0 (Int.dvd_refl _) (by
        have := Int.le_of_dvd hlp (dvd_lcmI_l st z); omega) (by omega)
      obtain ⟨st', ro', b5, b8, b9, b10, e, r1, r2, r3⟩ := ends_loop x kvs L hL hL2 a0 es (lcmI st z) ro (.d (.t (F.e (.goes z) n ps).enc) true) a6 a7 (.d (.t (.int (lcmI st z))) true) a9 a10 a11 hlp hld (by omega) fun g q => hg g (List.mem_cons_of_mem _ q)
      refine ⟨st', ro', b5, b8, b9, b10, ?_, r1, r2, by omega⟩
      rw [← e]
      simp only [F.enc] at hm
      simp [forR, F.enc, hm]
    · have hge : ∃ w : Str, (F.e k n ps).enc = .tup [.str w, smT n ps] ∧ (w = "goes") = False := by
        cases k with
        | above => exact ⟨"above", rfl, by simp⟩
        | nought => exact ⟨"nought", rfl, by simp⟩
        | goes z => exact absurd ⟨z, rfl⟩ hk
      obtain ⟨w, hw, hwg⟩ := hge
      have hlc : ∀ (c3 c4 c6 c7 c8 c9 c10 c11 : Sl), lcR 12 (tV (b2 eqD (b2 ixD (rdE 12) (kI 0)) (rdE 1))) (b2 ixD (rdE 12) (kI 1)) [a0, .d (.t (.str x)) false, .d (.dct kvs) false, c3, c4, .d (.t (.tup [.str w, smT n ps])) true, c6, c7, c8, c9, c10, c11, .un] (ps.map prT) = .ok ((ps.filter fun p => decide (p.1 = x)).map fun p => T.int p.2) := by
        intro c3 c4 c6 c7 c8 c9 c10 c11
        refine lcR_map prT (fun p => decide (p.1 = x)) _ ps fun p hp => ?_
        exact ⟨by simp [prT], fun _ => by simp [prT]⟩
      have hlc2 : ∀ (c3 c4 c6 c7 c8 c9 c10 c11 : Sl), lcR 12 (tV (b2 neD (b2 ixD (rdE 12) (kI 0)) (rdE 1))) (b2 mulD (b2 ixD (rdE 12) (kI 1)) (b2 dgetD (rdE 2) (b2 ixD (rdE 12) (kI 0)))) [a0, .d (.t (.str x)) false, .d (.dct kvs) false, c3, c4, .d (.t (.tup [.str w, smT n ps])) true, c6, c7, c8, c9, c10, c11, .un] (ps.map prT) = .ok ((wo x ps).map fun p => T.int (p.2 * vl kvs p.1)) := by
        intro c3 c4 c6 c7 c8 c9 c10 c11
        refine lcR_map prT (fun p => !decide (p.1 = x)) _ ps fun p hp => ?_
        refine ⟨by simp [prT], fun hne => ?_⟩
        have hne' : p.1 ≠ x := by simpa using hne
        have hd := dget_vl (q2 p hp hne')
        have hq : mulD (.t (.int p.2)) (.t (.int (vl kvs p.1))) = .ok (.t (.int (p.2 * vl kvs p.1))) := mul_l _ _ (by have := q1 p hp; omega) (by have := q1 p hp; omega)
        simp [prT, hd, hq]
      have hs1 : sumD [.lst ((ps.filter fun p => decide (p.1 = x)).map fun p => T.int p.2)] = .ok (.t (.int (tot x ps))) := by
        have := sum_ints ((ps.filter fun p => decide (p.1 = x)).map (·.2))
        rw [List.map_map] at this
        rw [← tot_sum]; exact this
      have hs2 : sumD [.lst ((wo x ps).map fun p => T.int (p.2 * vl kvs p.1))] = .ok (.t (.int ((wo x ps).map fun p => p.2 * vl kvs p.1).sum)) := by
        have := sum_ints ((wo x ps).map fun p => p.2 * vl kvs p.1)
        rw [List.map_map] at this
        exact this
      generalize ((wo x ps).map fun p => p.2 * vl kvs p.1).sum = sm at hs2
      have hpl : ps.length ≤ 16777216 := by omega
      by_cases ht : tot x ps = 0
      · obtain ⟨st', ro', b5, b8, b9, b10, e, r1, r2, r3⟩ := ends_loop x kvs L hL hL2 a0 es st ro (.d (.t (F.e k n ps).enc) true) a6 a7 a8 (.d (.t (.int 0)) true) (.d (.t (.int (n + sm))) true) a11 h0 h1 (by omega) fun g q => hg g (List.mem_cons_of_mem _ q)
        refine ⟨st', ro', b5, b8, b9, b10, ?_, r1, r2, by omega⟩
        rw [ht] at hs1
        rw [← e]
        simp [forR, hw, hwg, hlc, hlc2, hs1, hs2, hpl, -lcR_cons]
      · have hdv : divD (.t (.int (0 - (n + sm)))) (.t (.int (tot x ps))) = .ok (.t (.int ((0 - (n + sm)).fdiv (tot x ps)))) := by
          simp only [divD]; rw [if_pos]
          simp only [divOk, Bool.or_eq_true, Bool.and_eq_true, decide_eq_true_eq]; left; omega
        have hrl : ro.length < 16777216 := by omega
        obtain ⟨st', ro', b5, b8, b9, b10, e, r1, r2, r3⟩ := ends_loop x kvs L hL hL2 a0 es st (ro ++ [(0 - (n + sm)).fdiv (tot x ps)]) (.d (.t (F.e k n ps).enc) true) a6 a7 a8 (.d (.t (.int (tot x ps))) true) (.d (.t (.int (n + sm))) true) a11 h0 h1 (by simp; omega) fun g q => hg g (List.mem_cons_of_mem _ q)
        refine ⟨st', ro', b5, b8, b9, b10, ?_, r1, r2, by simp at r3; omega⟩
        rw [← e]
        simp [forR, hw, hwg, hlc, hlc2, hs1, hs2, hpl, ht, appO, hrl, hdv, -lcR_cons, -Int.zero_sub]
theorem law_tries_ex (x : Str) (kvs : Prs) (L : Int) (hL : 0 < L) (hL2 : L ≤ 40) (f : F) (h1 : f.dep ≤ 60) (h2 : f.plain = true) (h3 : f.all (Le x kvs L)) (h4 : f.cnt * (2 * L.toNat + 1) < 4000) (h5 : 2 * L.toNat + 1 < 4000) : ∃ ts : List Int, m_law_tries [.t f.enc, .t (.str x), .dct kvs] = .ok (.lst (ts.map T.int)) := by
  have hcl : f.cnt ≤ 4000 := by
    have : f.cnt * 1 ≤ f.cnt * (2 * L.toNat + 1) := Nat.mul_le_mul_left _ (by omega)
    omega
  have he := law_ends_eq 60 f h1 h2 (by omega)
  have hel := lends_len f
  rw [h2] at hel
  simp at hel
  obtain ⟨st, ro, b5, b8, b9, b10, e, r1, r2, r3⟩ := ends_loop x kvs L hL hL2 (.d (.t f.enc) false) f.lends 1 [] .un .un .un .un .un .un .un (by decide) (Int.one_dvd _) (by simp; omega) (fun g hg => lends_all f h2 h3 g hg)
  simp only [List.map_nil] at e
  simp only [List.length_nil, Nat.zero_add] at r3
  have hstl : st ≤ L := Int.le_of_dvd hL r2
  obtain ⟨m, hm⟩ : ∃ m : Nat, 2 * st + 1 = m := ⟨(2 * st + 1).toNat, by omega⟩
  have hml : m ≤ 2 * L.toNat + 1 := by omega
  -- the list of all tries
  have inner : ∀ (r : Int) (c4 c5 c6 c8 c9 c10 : Sl), lcR 11 yes (b2 subD (b2 addD (rdE 7) (rdE 11)) (rdE 3)) [.d (.t f.enc) false, .d (.t (.str x)) false, .d (.dct kvs) false, .d (.t (.int st)) true, c4, c5, c6, .d (.t (.int r)) true, c8, c9, c10, .un, .un] (rngT 0 m) = .ok (((List.range m).map fun k : Nat => r + (k : Int) - st).map T.int) := by
    intro r c4 c5 c6 c8 c9 c10
    have := lcR_map (j := 11) (c := yes) (el := b2 subD (b2 addD (rdE 7) (rdE 11)) (rdE 3)) (ρ := [.d (.t f.enc) false, .d (.t (.str x)) false, .d (.dct kvs) false, .d (.t (.int st)) true, c4, c5, c6, .d (.t (.int r)) true, c8, c9, c10, .un, .un]) (fun k : Nat => T.int (0 + (k : Int))) (fun _ => true) (fun k => T.int (r + (k : Int) - st)) (List.range m) (fun q hq => ⟨rfl, fun _ => by simp⟩)
    have ef : (List.range m).filter (fun _ => true) = List.range m := by simp
    rw [ef] at this
    unfold rngT
    rw [this, List.map_map]; rfl
  have hm4 : m < 4611686018427387904 := by omega
  have hm5 : m ≤ 16777216 := by omega
  have outer : ∀ (rs acc : List Int) (c4 c5 c7 c8 c9 c10 : Sl), acc.length + rs.length * m < 4000 → ∃ (acc' : List Int) (c7' : Sl), forR 7 (extO 6 (lcRg 11 (cA (b2 addD (b2 mulD (kI 2) (rdE 3)) (kI 1)) nA) rng1 yes (b2 subD (b2 addD (rdE 7) (rdE 11)) (rdE 3)))) (rs.map T.int) [.d (.t f.enc) false, .d (.t (.str x)) false, .d (.dct kvs) false, .d (.t (.int st)) true, c4, c5, .d (.lst (acc.map T.int)) true, c7, c8, c9, c10, .un, .un] = .ok (.nx [.d (.t f.enc) false, .d (.t (.str x)) false, .d (.dct kvs) false, .d (.t (.int st)) true, c4, c5, .d (.lst (acc'.map T.int)) true, c7', c8, c9, c10, .un, .un]) ∧ acc'.length < 4000 := by
    intro rs
    induction rs with
    | nil => intro acc c4 c5 c7 c8 c9 c10 hl; exact ⟨acc, c7, by simp, by simpa using hl⟩
    | cons r rs ih =>
      intro acc c4 c5 c7 c8 c9 c10 hl
      rw [List.length_cons, Nat.succ_mul] at hl
      obtain ⟨acc', c7', e1, e2⟩ := ih (acc ++ (List.range m).map fun k : Nat => r + (k : Int) - st) c4 c5 (.d (.t (.int r)) true) c8 c9 c10 (by simp; omega)
      refine ⟨acc', c7', ?_, e2⟩
      have hmul : mulD (.t (.int 2)) (.t (.int st)) = .ok (.t (.int (2 * st))) := mul_l _ _ (by decide) (by decide)
      have hal : acc.length + ((List.range m).map fun k : Nat => r + (k : Int) - st).length ≤ 16777216 := by simp; omega
      rw [← e1]
      simp only [List.map_cons, forR, List.set_cons_succ, List.set_cons_zero, extO, List.getElem?_cons_succ, List.getElem?_cons_zero, lcRg_eq, cA, nA, b2, kI, rdE_0, rdE_s, R.ok_bind, hmul, add_ii, hm, rng1_n m hm4, if_pos hm5, inner, NR_ok, List.length_map, List.map_append, if_pos hal]
      rw [List.length_map] at hal
      rw [if_pos hal]
      simp only [R.ok_bind]
  unfold m_law_tries g_law_tries
  rw [runDef_Rt]
  have fin : ∀ (acc' : List Int) (c4 c5 c7 c8 c9 c10 : Sl), acc'.length < 4000 → Rt (retO (u1 issetD (rdE 6)) [.d (.t f.enc) false, .d (.t (.str x)) false, .d (.dct kvs) false, .d (.t (.int st)) true, c4, c5, .d (.lst (acc'.map T.int)) true, c7, c8, c9, c10, .un, .un]) = .ok (.lst ((isetL acc').map T.int)) := by
    intro acc' c4 c5 c7 c8 c9 c10 hl
    simp [issetD, asInts_map, hl]
  simp only [List.map_cons, List.map_nil, List.cons_append, List.nil_append, un_s, un_0]
  by_cases hro : ro = []
  · subst hro
    obtain ⟨acc', c7', e1, e2⟩ := outer [0] [] (.d (.lst []) true) b5 .un b8 b9 b10 (by simp; omega)
    simp only [List.map_nil, List.map_cons] at e1
    refine ⟨isetL acc', ?_⟩
    refine (Rt_seq (by simp; rfl)).trans ?_
    refine (Rt_seq (by simp; rfl)).trans ?_
    refine (Rt_seq (by simp [he]; exact e)).trans ?_
    refine (Rt_seq (by simp; rfl)).trans ?_
    refine (Rt_seq (by simp [forOO]; exact e1)).trans ?_
    exact fin acc' _ _ _ _ _ _ e2
  · obtain ⟨acc', c7', e1, e2⟩ := outer ro [] (.d (.lst (ro.map T.int)) false) b5 .un b8 b9 b10 (by
      have h6 : ro.length * m ≤ f.cnt * (2 * L.toNat + 1) := Nat.mul_le_mul (by omega) hml
      simp; omega)
    simp only [List.map_nil] at e1
    refine ⟨isetL acc', ?_⟩
    refine (Rt_seq (by simp; rfl)).trans ?_
    refine (Rt_seq (by simp; rfl)).trans ?_
    refine (Rt_seq (by simp [he]; exact e)).trans ?_
    refine (Rt_seq (by simp; rfl)).trans ?_
    refine (Rt_seq (by simp [forOO, hro]; exact e1)).trans ?_
    exact fin acc' _ _ _ _ _ _ e2
end Pf

set_option Elab.async false
set_option linter.all false
set_option maxRecDepth 100000
set_option maxHeartbeats 4000000
namespace Pf
open PySem L2
/-! ## the law's shapes and boxes -/
theorem shape_ex (c : Int) : ∃ (n W M : Nat), m_law_shape [.t (.int c)] = .ok (.t (.tup [.int n, .int W, .int M])) ∧ 1 ≤ n ∧ n ≤ 4 ∧ 1 ≤ W ∧ W ≤ 3 ∧ 2 ≤ M ∧ (M ≤ 4 ∨ (n = 1 ∧ M = 40)) := by
  unfold m_law_shape g_law_shape
  rw [runDef_Rt]
  by_cases h5 : c % 6 = 5
  · refine ⟨(1 + c / 6 % 2).toNat, 3, 4, ?_, by omega, by omega, by omega, by omega, by omega, .inl (by omega)⟩
    have e : (((1 + c / 6 % 2).toNat : Nat) : Int) = 1 + c / 6 % 2 := by omega
    rw [e]
    simp [h5]
  by_cases h8 : c / 6 % 9 = 8
  · exact ⟨1, 1, 40, by simp [h5, h8], by omega, by omega, by omega, by omega, by omega, .inr ⟨rfl, rfl⟩⟩
  have h6 : c % 6 = 0 ∨ c % 6 = 1 ∨ c % 6 = 2 ∨ c % 6 = 3 ∨ c % 6 = 4 := by omega
  have e : (((1 + c / 6 % 4).toNat : Nat) : Int) = 1 + c / 6 % 4 := by omega
  obtain ⟨W, M, w1, w2, w3, w4, w5, w6⟩ : ∃ W M : Nat, 1 ≤ W ∧ W ≤ 3 ∧ 2 ≤ M ∧ M ≤ 4 ∧ ixD (.lst [.int 1, .int 1, .int 2, .int 2, .int 2]) (.t (.int (c % 6))) = .ok (.t (.int W)) ∧ ixD (.lst [.int 3, .int 3, .int 2, .int 4, .int 4]) (.t (.int (c % 6))) = .ok (.t (.int M)) := by
    rcases h6 with h | h | h | h | h
    · exact ⟨1, 3, by omega, by omega, by omega, by omega, by simp [h], by simp [h]⟩
    · exact ⟨1, 3, by omega, by omega, by omega, by omega, by simp [h], by simp [h]⟩
    · exact ⟨2, 2, by omega, by omega, by omega, by omega, by simp [h], by simp [h]⟩
    · exact ⟨2, 4, by omega, by omega, by omega, by omega, by simp [h], by simp [h]⟩
    · exact ⟨2, 4, by omega, by omega, by omega, by omega, by simp [h], by simp [h]⟩
  exact ⟨(1 + c / 6 % 4).toNat, W, M, by rw [e]; simp [h5, h8, w5, w6], by omega, by omega, w1, w2, w3, .inl w4⟩
theorem sub_srt {l N : List Str} (h1 : l.Pairwise fun a b => leS a b = true) (hd : l.Nodup) (hN : N.Nodup) (hs : ∀ s ∈ l, s ∈ N) : l.Sublist (srtS N) := by
  have pm : l.Perm ((srtS N).filter fun s => decide (s ∈ l)) := by
    rw [List.perm_ext_iff_of_nodup hd (((srtS_perm N).nodup_iff.mpr hN).filter _)]
    intro s
    rw [List.mem_filter, (srtS_perm N).mem_iff]
    exact ⟨fun q => ⟨hs s q, by simpa using q⟩, fun q => by simpa using q.2⟩
  rw [pm.eq_of_pairwise (fun a b _ _ h1 h2 => leS_antisymm h1 h2) h1 ((srtS_pw N).filter _)]
  exact List.filter_sublist
theorem leS_refl (a : Str) : leS a a = true := (leS_total a a).elim id id
theorem leP_iff (p q : Str × Int) : PySem.W.dataLe false pairPy p q = true ↔ leS p.1 q.1 = true ∧ (p.1 = q.1 → p.2 ≤ q.2) := by
  have e : PySem.W.dataLt (pairPy q) (pairPy p) = PySem.W.DatumOrd.lt q p := PySem.W.DatumOrd.lt_eq (α := Str × Int) q p
  have e2 : PySem.W.DatumOrd.lt q p = if q.1 = p.1 then decide (q.2 < p.2) else decide (q.1.cps.toList < p.1.cps.toList) := rfl
  rw [PySem.W.dataLe_eq]
  show (!PySem.W.dataLt (pairPy q) (pairPy p)) = true ↔ _
  rw [e, e2]
  by_cases h : q.1 = p.1
  · rw [if_pos h, h]
    simp [leS_refl]
  · rw [if_neg h]
    have h' : ¬ p.1 = q.1 := fun x => h x.symm
    simp [leS, h']
theorem srtP_pw (ps : Prs) : ((srtP ps).map (·.1)).Pairwise fun a b => leS a b = true := by
  refine List.pairwise_map.mpr ?_
  refine (List.pairwise_mergeSort (le := PySem.W.dataLe false pairPy) ?_ ?_ ps).imp fun {a b} h => ((leP_iff a b).mp h).1
  · intro a b c h1 h2
    rw [leP_iff] at h1 h2 ⊢
    refine ⟨leS_trans h1.1 h2.1, fun e => ?_⟩
    have e2 : a.1 = b.1 := leS_antisymm h1.1 (by rw [e]; exact h2.1)
    exact Int.le_trans (h1.2 e2) (h2.2 (e2.symm.trans e))
  · intro a b
    rw [Bool.or_eq_true, leP_iff, leP_iff]
    by_cases e : a.1 = b.1
    · rcases Int.le_total a.2 b.2 with h | h
      · exact .inl ⟨by rw [e]; exact leS_refl _, fun _ => h⟩
      · exact .inr ⟨by rw [e]; exact leS_refl _, fun _ => h⟩
    · rcases leS_total a.1 b.1 with h | h
      · exact .inl ⟨h, fun x => absurd x e⟩
      · exact .inr ⟨h, fun x => absurd x.symm e⟩
theorem rg_srtP {N : List Str} {ps : Prs} (hN : N.Nodup) (hd : (ps.map (·.1)).Nodup) (hs : ∀ p ∈ ps, p.1 ∈ N) (h0 : ∀ p ∈ ps, p.2 ≠ 0) : Rg N (srtP ps) := by
  have pm : (srtP ps).Perm ps := List.mergeSort_perm ps _
  refine ⟨sub_srt (srtP_pw ps) ((pm.map _).nodup_iff.mpr hd) hN fun s q => ?_, fun p hp => h0 p (pm.mem_iff.mp hp)⟩
  obtain ⟨p, hp, rfl⟩ := List.mem_map.mp q
  exact hs p (pm.mem_iff.mp hp)
theorem asPrs_map : ∀ ps : Prs, asPrs (ps.map prT) = some ps
  | [] => rfl
  | p :: r => by
    have := asPrs_map r
    simp [asPrs, prT, this]
@[simp] theorem sortPD_eq (ps : Prs) (h : ps.length < 1000) : sortPD [.lst (ps.map prT)] = .ok (.lst ((srtP ps).map prT)) := by
  simp only [sortPD, asPrs_map, if_pos h]; rfl
/-- an end with a bound for its shares and for the number that goes into -/
def BOk (N : List Str) (W M : Nat) (k : EK) (_ : Int) (ps : Prs) : Prop := Rg N ps ∧ (∀ p ∈ ps, p.2.natAbs ≤ W) ∧ ∀ h, k = .goes h → 1 ≤ h ∧ h ≤ M
theorem bok_of {N : List Str} {W M : Nat} {k : EK} {n : Int} {ps : Prs} (h : EndOk N W M k n ps) : BOk N W M k n ps :=
  ⟨rg_sum h.1, fun p hp => by have := h.1.2.2 p hp; omega, h.2⟩
def EK.gc : EK → Nat
  | .goes _ => 1
  | _ => 0
mutual
def F.gcn : F → Nat
  | .e k _ _ => k.gc
  | .nt f => f.gcn
  | .nd _ fs => F.gcns fs
  | .qn _ _ f => f.gcn
def F.gcns : List F → Nat
  | [] => 0
  | f :: fs => f.gcn + F.gcns fs
end
mutual
theorem gcn_le : ∀ f : F, f.gcn ≤ f.cnt
  | .e k _ _ => by cases k <;> simp [F.gcn, F.cnt, EK.gc]
  | .nt f => by simp only [F.gcn, F.cnt]; exact gcn_le f
  | .nd _ fs => by simp only [F.gcn, F.cnt]; exact gcns_le fs
  | .qn _ _ f => by simp only [F.gcn, F.cnt]; exact gcn_le f
theorem gcns_le : ∀ fs : List F, F.gcns fs ≤ F.cnts fs
  | [] => by simp [F.gcns]
  | f :: fs => by simp only [F.gcns, F.cnts]; exact Nat.add_le_add (gcn_le f) (gcns_le fs)
end
mutual
theorem gcn_0 {L : Int} : ∀ f : F, f.gcn = 0 → f.all (fun k _ _ => ∀ h, k = .goes h → h ∣ L)
  | .e k _ _, h => by simp only [F.gcn, F.all] at h ⊢; rintro z rfl; simp [EK.gc] at h
  | .nt f, h => by simp only [F.gcn, F.all] at h ⊢; exact gcn_0 f h
  | .nd _ fs, h => by simp only [F.gcn, F.all] at h ⊢; exact gcns_0 fs h
  | .qn _ _ f, h => by simp only [F.gcn, F.all] at h ⊢; exact gcn_0 f h
theorem gcns_0 {L : Int} : ∀ fs : List F, F.gcns fs = 0 → F.alls (fun k _ _ => ∀ h, k = .goes h → h ∣ L) fs
  | [], _ => by simp only [F.alls]
  | f :: fs, h => by simp only [F.gcns, F.alls] at h ⊢; exact ⟨gcn_0 f (by omega), gcns_0 fs (by omega)⟩
end
mutual
theorem gcn_1 {N : List Str} {W M : Nat} (hM : 1 ≤ M) : ∀ f : F, f.gcn ≤ 1 → f.all (BOk N W M) → ∃ L : Int, 1 ≤ L ∧ L ≤ M ∧ f.all (fun k _ _ => ∀ h, k = .goes h → h ∣ L)
  | .e k n ps, h, q => by
    simp only [F.all] at q ⊢
    cases k with
    | goes z =>
      obtain ⟨z1, z2⟩ := q.2.2 z rfl
      exact ⟨z, z1, z2, fun h e => by cases e; exact Int.dvd_refl _⟩
    | above => exact ⟨1, by omega, by omega, fun h e => by cases e⟩
    | nought => exact ⟨1, by omega, by omega, fun h e => by cases e⟩
  | .nt f, h, q => by simp only [F.gcn, F.all] at h q ⊢; exact gcn_1 hM f h q
  | .nd _ fs, h, q => by simp only [F.gcn, F.all] at h q ⊢; exact gcns_1 hM fs h q
  | .qn _ _ f, h, q => by simp only [F.gcn, F.all] at h q ⊢; exact gcn_1 hM f h q
theorem gcns_1 {N : List Str} {W M : Nat} (hM : 1 ≤ M) : ∀ fs : List F, F.gcns fs ≤ 1 → F.alls (BOk N W M) fs → ∃ L : Int, 1 ≤ L ∧ L ≤ M ∧ F.alls (fun k _ _ => ∀ h, k = .goes h → h ∣ L) fs
  | [], _, _ => ⟨1, by omega, by omega, by simp only [F.alls]⟩
  | f :: fs, h, q => by
    simp only [F.gcns, F.alls] at h q ⊢
    by_cases h0 : f.gcn = 0
    · obtain ⟨L, l1, l2, l3⟩ := gcns_1 hM fs (by omega) q.2
      exact ⟨L, l1, l2, gcn_0 f h0, l3⟩
    · obtain ⟨L, l1, l2, l3⟩ := gcn_1 hM f (by omega) q.1
      exact ⟨L, l1, l2, l3, gcns_0 fs (by omega)⟩
end
theorem gcns_app (a b : List F) : F.gcns (a ++ b) = F.gcns a + F.gcns b := by
  induction a with
  | nil => simp [F.gcns]
  | cons f r ih => simp only [List.cons_append, F.gcns, ih]; omega
/-- an end of a box -/
structure Bx (N : List Str) (W M : Nat) (f : F) : Prop where
  all : f.all (BOk N W M)
  plain : f.plain = true
  dep : f.dep ≤ 2
  wid : f.wid = 0
  cnt : f.cnt = 1
  sz : f.sz ≤ N.length
theorem bx_fold {N : List Str} {W M : Nat} : ∀ fs : List F, (∀ f ∈ fs, Bx N W M f) → F.alls (BOk N W M) fs ∧ F.plains fs = true ∧ F.deps fs ≤ 2 ∧ F.wids fs = 0 ∧ F.cnts fs = fs.length ∧ F.szs fs ≤ fs.length * N.length
  | [], _ => by simp [F.alls, F.plains, F.deps, F.wids, F.cnts, F.szs]
  | f :: fs, h => by
    obtain ⟨a1, a2, a3, a4, a5, a6⟩ := bx_fold fs fun g hg => h g (List.mem_cons_of_mem _ hg)
    obtain ⟨b1, b2, b3, b4, b5, b6⟩ := h f (by simp)
    refine ⟨by simp only [F.alls]; exact ⟨b1, a1⟩, by simp [F.plains, a2, b2], by simp only [F.deps]; omega, by simp only [F.wids, a4, b4]; rfl, by simp only [F.cnts, List.length_cons]; omega, ?_⟩
    simp only [F.szs, List.length_cons, Nat.succ_mul]; omega
end Pf

set_option Elab.async false
set_option linter.all false
set_option maxRecDepth 100000
set_option maxHeartbeats 4000000
namespace Pf
open PySem L2
theorem box_step {ns : List Int} {a n i : Nat} {x : Str} {r : List Str} {W M : Nat} (hN : (x :: r).Nodup) (hl : r.length < 10) (hW : 1 ≤ W) (hW2 : W < 1000) (hM : 1 ≤ M) (hi : i < 1000) (fs : List F) (hfs : fs.length < 1000) (k8 k9 k10 : Sl) :
    ∃ (f : F) (l8 l9 l10 : Sl), (seqO (setO 8 (b2 addD (ap m_law_cell_at (cA (rdE 0) (cA (b2 addD (rdE 1) (rdE 7)) nA))) (b2 mulD (kI 104729) (rdE 7))))
    (seqO (setO 9 (ap m_law_sum_by (cA (b2 divD (rdE 8) (kI 12)) (cA (sl3 (rdE 3) (sS (kI 1)) sN) (cA (rdE 4) nA)))))
    (seqO (setO 10 (b2 mulD (b2 ixD (ap mkLst (cA (kI 1) (cA (u1 negD (kI 1)) nA))) (b2 modD (rdE 7) (kI 2))) (b2 addD (kI 1) (b2 modD (b2 divD (rdE 8) (kI 3)) (rdE 4)))))
    (seqO (setO 9 (ap mkTup (cA (b2 ixD (rdE 9) (kI 0)) (cA (ap tupleD (cA (ap sortPD (cA (b2 addD (ap listD (cA (b2 ixD (rdE 9) (kI 1)) nA)) (ap mkLst (cA (ap mkTup (cA (b2 ixD (rdE 3) (kI 0)) (cA (rdE 10) nA))) nA))) nA)) nA)) nA))))
    (ifO (tOr2 (tAnd2 (tV (b2 eqD (rdE 7) (kI 2))) (tV (b2 eqD (b2 modD (rdE 8) (kI 2)) (kI 0)))) (tAnd2 (tV (b2 eqD (b2 modD (rdE 8) (kI 3)) (kI 2))) (tV (b2 gtD (rdE 7) (kI 0))))) (appO 6 (ap mkTup (cA (kS "goes") (cA (b2 addD (kI 1) (b2 modD (b2 divD (rdE 8) (kI 4)) (rdE 5))) (cA (rdE 9) nA))))) (ifO (tAnd2 (tV (b2 eqD (b2 modD (rdE 8) (kI 3)) (kI 1))) (tV (b2 gtD (rdE 7) (kI 2)))) (appO 6 (ap mkTup (cA (kS "not") (cA (ap mkTup (cA (kS "nought") (cA (rdE 9) nA))) nA)))) (appO 6 (ap mkTup (cA (kS "above") (cA (rdE 9) nA)))))))))) [.d (.scr ns) false, .d (.t (.int (a : Nat))) false, .d (.t (.int (n : Nat))) false, .d (.lst ((x :: r).map T.str)) false, .d (.t (.int (W : Nat))) false, .d (.t (.int (M : Nat))) false, .d (.lst (fs.map F.enc)) true, .d (.t (.int (i : Nat))) true, k8, k9, k10] = .ok (.nx [.d (.scr ns) false, .d (.t (.int (a : Nat))) false, .d (.t (.int (n : Nat))) false, .d (.lst ((x :: r).map T.str)) false, .d (.t (.int (W : Nat))) false, .d (.t (.int (M : Nat))) false, .d (.lst ((fs ++ [f]).map F.enc)) true, .d (.t (.int (i : Nat))) true, l8, l9, l10]) ∧ Bx (x :: r) W M f ∧ f.gcn ≤ 1 ∧ (i = 0 → f.gcn = 0) := by
  have hc : m_law_cell_at [.scr ns, .t (.int ((a : Int) + (i : Int)))] = .ok (.t (.int (cell ns (a + i)))) := cell_at (k := a + i)
  generalize hz : cell ns (a + i) + 104729 * (i : Int) = z
  obtain ⟨m, ps, h1, h2⟩ := sum_by_ex (z / 12) r W (by omega) (by omega) (by omega)
  obtain ⟨hx, hr⟩ := List.nodup_cons.mp hN
  obtain ⟨s, hs, hsx⟩ : ∃ s : Int, (s = 1 ∨ s = -1) ∧ ixD (.lst [.int 1, .int (-1)]) (.t (.int ((i : Int) % 2))) = .ok (.t (.int s)) := by
    have h2 : (i : Int) % 2 = 0 ∨ (i : Int) % 2 = 1 := by omega
    rcases h2 with h | h
    · exact ⟨1, .inl rfl, by simp [h]⟩
    · exact ⟨-1, .inr rfl, by simp [h]⟩
  have hWm : ∀ y : Int, modD (.t (.int y)) (.t (.int (W : Int))) = .ok (.t (.int (y % W))) := fun y => mod_ii _ _ (by omega)
  have hMm : ∀ y : Int, modD (.t (.int y)) (.t (.int (M : Int))) = .ok (.t (.int (y % M))) := fun y => mod_ii _ _ (by omega)
  have uu1 := Int.emod_nonneg (z / 3) (show (W : Int) ≠ 0 by omega)
  have uu2 := Int.emod_lt_of_pos (z / 3) (show (0 : Int) < W by omega)
  have v1 := Int.emod_nonneg (z / 4) (show (M : Int) ≠ 0 by omega)
  have v2 := Int.emod_lt_of_pos (z / 4) (show (0 : Int) < M by omega)
  have hmul : mulD (.t (.int s)) (.t (.int (1 + z / 3 % W))) = .ok (.t (.int (s * (1 + z / 3 % W)))) := mul_l _ _ (by omega) (by omega)
  have hb : s * (1 + z / 3 % W) ≠ 0 ∧ (s * (1 + z / 3 % W)).natAbs ≤ W := by
    rcases hs with rfl | rfl <;> omega
  generalize s * (1 + z / 3 % W) = b at hmul hb
  have hq1 : Rg r ps := rg_sum h1
  have hpl : ps.length ≤ r.length := by
    have := h1.1.length_le
    rwa [List.length_map, (srtS_perm r).length_eq] at this
  have hrg : Rg (x :: r) (srtP (ps ++ [(x, b)])) := by
    refine rg_srtP hN ?_ ?_ ?_
    · rw [List.map_append, List.map_cons, List.map_nil, List.nodup_append]
      refine ⟨hq1.nodup hr, by simp, ?_⟩
      intro a ha c hc e
      simp at hc
      obtain ⟨p, hp, rfl⟩ := List.mem_map.mp ha
      exact hx (by rw [← hc, ← e]; exact hq1.mem p hp)
    · intro p hp
      rcases List.mem_append.mp hp with q | q
      · exact List.mem_cons_of_mem _ (hq1.mem p q)
      · simp at q; simp [q]
    · intro p hp
      rcases List.mem_append.mp hp with q | q
      · exact hq1.ne p q
      · simp at q; rw [q]; exact hb.1
  have hle : ∀ p ∈ srtP (ps ++ [(x, b)]), p.2.natAbs ≤ W := fun p hp => by
    have hp' : p ∈ ps ++ [(x, b)] := (List.mergeSort_perm (ps ++ [(x, b)]) (PySem.W.dataLe false pairPy)).mem_iff.mp hp
    rcases List.mem_append.mp hp' with q | q
    · have := h1.2.2 p q; omega
    · simp at q; rw [q]; exact hb.2
  have hsl : (srtP (ps ++ [(x, b)])).length ≤ r.length + 1 := by
    have : (srtP (ps ++ [(x, b)])).length = (ps ++ [(x, b)]).length := (List.mergeSort_perm (ps ++ [(x, b)]) _).length_eq
    rw [this, List.length_append, List.length_cons, List.length_nil]; omega
  have hso := sortPD_eq (ps ++ [(x, b)]) (by rw [List.length_append, List.length_cons, List.length_nil]; omega)
  have hmp : (ps ++ [(x, b)]).map prT = ps.map prT ++ [.tup [.str x, .int b]] := by simp [prT]
  rw [hmp] at hso
  generalize srtP (ps ++ [(x, b)]) = qs at hso hrg hle hsl
  have hsm : smT m ps = .tup [.int m, .tup (ps.map prT)] := rfl
  have hsm2 : T.tup [.int m, .tup (qs.map prT)] = smT m qs := rfl
  have hdr : slD (.lst (T.str x :: r.map T.str)) (some 1) none = .ok (.lst (r.map T.str)) := by
    rw [drop_l]; rfl
  have hal : ps.length + 1 ≤ 16777216 := by omega
  have hql : qs.length ≤ 16777216 := by omega
  have hfl : fs.length < 16777216 := by omega
  have hbok : ∀ k : EK, (∀ h, k = .goes h → 1 ≤ h ∧ h ≤ M) → BOk (x :: r) W M k m qs := fun k hk => ⟨hrg, hle, hk⟩
  have st : ∀ (A T : Ev → R Out) (ρ ρ' : Ev) (r : R Out), A ρ = .ok (.nx ρ') → T ρ' = r → seqO A T ρ = r := fun A T ρ ρ' r e1 e2 => by simp only [seqO, e1, R.ok_bind, e2]
  have s1 : ∀ k8 k9 k10 : Sl, (setO 8 (b2 addD (ap m_law_cell_at (cA (rdE 0) (cA (b2 addD (rdE 1) (rdE 7)) nA))) (b2 mulD (kI 104729) (rdE 7)))) [.d (.scr ns) false, .d (.t (.int (a : Nat))) false, .d (.t (.int (n : Nat))) false, .d (.lst ((x :: r).map T.str)) false, .d (.t (.int (W : Nat))) false, .d (.t (.int (M : Nat))) false, .d (.lst (fs.map F.enc)) true, .d (.t (.int (i : Nat))) true, k8, k9, k10] = .ok (.nx [.d (.scr ns) false, .d (.t (.int (a : Nat))) false, .d (.t (.int (n : Nat))) false, .d (.lst ((x :: r).map T.str)) false, .d (.t (.int (W : Nat))) false, .d (.t (.int (M : Nat))) false, .d (.lst (fs.map F.enc)) true, .d (.t (.int (i : Nat))) true, .d (.t (.int z)) true, k9, k10]) := fun k8 k9 k10 => by
    simp [hc, hz]
  have s2 : ∀ k9 k10 : Sl, (setO 9 (ap m_law_sum_by (cA (b2 divD (rdE 8) (kI 12)) (cA (sl3 (rdE 3) (sS (kI 1)) sN) (cA (rdE 4) nA))))) [.d (.scr ns) false, .d (.t (.int (a : Nat))) false, .d (.t (.int (n : Nat))) false, .d (.lst ((x :: r).map T.str)) false, .d (.t (.int (W : Nat))) false, .d (.t (.int (M : Nat))) false, .d (.lst (fs.map F.enc)) true, .d (.t (.int (i : Nat))) true, .d (.t (.int z)) true, k9, k10] = .ok (.nx [.d (.scr ns) false, .d (.t (.int (a : Nat))) false, .d (.t (.int (n : Nat))) false, .d (.lst ((x :: r).map T.str)) false, .d (.t (.int (W : Nat))) false, .d (.t (.int (M : Nat))) false, .d (.lst (fs.map F.enc)) true, .d (.t (.int (i : Nat))) true, .d (.t (.int z)) true, .d (.t (smT m ps)) true, k10]) := fun k9 k10 => by
    simp [hdr, h2]
  have s3 : ∀ k9 k10 : Sl, (setO 10 (b2 mulD (b2 ixD (ap mkLst (cA (kI 1) (cA (u1 negD (kI 1)) nA))) (b2 modD (rdE 7) (kI 2))) (b2 addD (kI 1) (b2 modD (b2 divD (rdE 8) (kI 3)) (rdE 4))))) [.d (.scr ns) false, .d (.t (.int (a : Nat))) false, .d (.t (.int (n : Nat))) false, .d (.lst ((x :: r).map T.str)) false, .d (.t (.int (W : Nat))) false, .d (.t (.int (M : Nat))) false, .d (.lst (fs.map F.enc)) true, .d (.t (.int (i : Nat))) true, .d (.t (.int z)) true, k9, k10] = .ok (.nx [.d (.scr ns) false, .d (.t (.int (a : Nat))) false, .d (.t (.int (n : Nat))) false, .d (.lst ((x :: r).map T.str)) false, .d (.t (.int (W : Nat))) false, .d (.t (.int (M : Nat))) false, .d (.lst (fs.map F.enc)) true, .d (.t (.int (i : Nat))) true, .d (.t (.int z)) true, k9, .d (.t (.int b)) true]) := fun k9 k10 => by
    simp [hsx, hWm, hmul]
  have s4 : ∀ k9 : Sl, (setO 9 (ap mkTup (cA (b2 ixD (rdE 9) (kI 0)) (cA (ap tupleD (cA (ap sortPD (cA (b2 addD (ap listD (cA (b2 ixD (rdE 9) (kI 1)) nA)) (ap mkLst (cA (ap mkTup (cA (b2 ixD (rdE 3) (kI 0)) (cA (rdE 10) nA))) nA))) nA)) nA)) nA)))) [.d (.scr ns) false, .d (.t (.int (a : Nat))) false, .d (.t (.int (n : Nat))) false, .d (.lst ((x :: r).map T.str)) false, .d (.t (.int (W : Nat))) false, .d (.t (.int (M : Nat))) false, .d (.lst (fs.map F.enc)) true, .d (.t (.int (i : Nat))) true, .d (.t (.int z)) true, .d (.t (smT m ps)) true, .d (.t (.int b)) true] = .ok (.nx [.d (.scr ns) false, .d (.t (.int (a : Nat))) false, .d (.t (.int (n : Nat))) false, .d (.lst ((x :: r).map T.str)) false, .d (.t (.int (W : Nat))) false, .d (.t (.int (M : Nat))) false, .d (.lst (fs.map F.enc)) true, .d (.t (.int (i : Nat))) true, .d (.t (.int z)) true, .d (.t (smT m qs)) true, .d (.t (.int b)) true]) := fun k9 => by
    have hadd : addD (.lst (ps.map prT)) (.lst [T.tup [T.str x, T.int b]]) = .ok (.lst (ps.map prT ++ [.tup [.str x, .int b]])) := by
      simp only [addD]; rw [if_pos (by simp; omega)]
    simp [hadd, hso, hal, hql, hsm2]
  have fin : ∀ f : F, (ifO (tOr2 (tAnd2 (tV (b2 eqD (rdE 7) (kI 2))) (tV (b2 eqD (b2 modD (rdE 8) (kI 2)) (kI 0)))) (tAnd2 (tV (b2 eqD (b2 modD (rdE 8) (kI 3)) (kI 2))) (tV (b2 gtD (rdE 7) (kI 0))))) (appO 6 (ap mkTup (cA (kS "goes") (cA (b2 addD (kI 1) (b2 modD (b2 divD (rdE 8) (kI 4)) (rdE 5))) (cA (rdE 9) nA))))) (ifO (tAnd2 (tV (b2 eqD (b2 modD (rdE 8) (kI 3)) (kI 1))) (tV (b2 gtD (rdE 7) (kI 2)))) (appO 6 (ap mkTup (cA (kS "not") (cA (ap mkTup (cA (kS "nought") (cA (rdE 9) nA))) nA)))) (appO 6 (ap mkTup (cA (kS "above") (cA (rdE 9) nA)))))) [.d (.scr ns) false, .d (.t (.int (a : Nat))) false, .d (.t (.int (n : Nat))) false, .d (.lst ((x :: r).map T.str)) false, .d (.t (.int (W : Nat))) false, .d (.t (.int (M : Nat))) false, .d (.lst (fs.map F.enc)) true, .d (.t (.int (i : Nat))) true, .d (.t (.int z)) true, .d (.t (smT m qs)) true, .d (.t (.int b)) true] = .ok (.nx [.d (.scr ns) false, .d (.t (.int (a : Nat))) false, .d (.t (.int (n : Nat))) false, .d (.lst ((x :: r).map T.str)) false, .d (.t (.int (W : Nat))) false, .d (.t (.int (M : Nat))) false, .d (.lst ((fs ++ [f]).map F.enc)) true, .d (.t (.int (i : Nat))) true, .d (.t (.int z)) true, .d (.t (smT m qs)) true, .d (.t (.int b)) true]) → (seqO (setO 8 (b2 addD (ap m_law_cell_at (cA (rdE 0) (cA (b2 addD (rdE 1) (rdE 7)) nA))) (b2 mulD (kI 104729) (rdE 7))))
    (seqO (setO 9 (ap m_law_sum_by (cA (b2 divD (rdE 8) (kI 12)) (cA (sl3 (rdE 3) (sS (kI 1)) sN) (cA (rdE 4) nA)))))
    (seqO (setO 10 (b2 mulD (b2 ixD (ap mkLst (cA (kI 1) (cA (u1 negD (kI 1)) nA))) (b2 modD (rdE 7) (kI 2))) (b2 addD (kI 1) (b2 modD (b2 divD (rdE 8) (kI 3)) (rdE 4)))))
    (seqO (setO 9 (ap mkTup (cA (b2 ixD (rdE 9) (kI 0)) (cA (ap tupleD (cA (ap sortPD (cA (b2 addD (ap listD (cA (b2 ixD (rdE 9) (kI 1)) nA)) (ap mkLst (cA (ap mkTup (cA (b2 ixD (rdE 3) (kI 0)) (cA (rdE 10) nA))) nA))) nA)) nA)) nA))))
    (ifO (tOr2 (tAnd2 (tV (b2 eqD (rdE 7) (kI 2))) (tV (b2 eqD (b2 modD (rdE 8) (kI 2)) (kI 0)))) (tAnd2 (tV (b2 eqD (b2 modD (rdE 8) (kI 3)) (kI 2))) (tV (b2 gtD (rdE 7) (kI 0))))) (appO 6 (ap mkTup (cA (kS "goes") (cA (b2 addD (kI 1) (b2 modD (b2 divD (rdE 8) (kI 4)) (rdE 5))) (cA (rdE 9) nA))))) (ifO (tAnd2 (tV (b2 eqD (b2 modD (rdE 8) (kI 3)) (kI 1))) (tV (b2 gtD (rdE 7) (kI 2)))) (appO 6 (ap mkTup (cA (kS "not") (cA (ap mkTup (cA (kS "nought") (cA (rdE 9) nA))) nA)))) (appO 6 (ap mkTup (cA (kS "above") (cA (rdE 9) nA)))))))))) [.d (.scr ns) false, .d (.t (.int (a : Nat))) false, .d (.t (.int (n : Nat))) false, .d (.lst ((x :: r).map T.str)) false, .d (.t (.int (W : Nat))) false, .d (.t (.int (M : Nat))) false, .d (.lst (fs.map F.enc)) true, .d (.t (.int (i : Nat))) true, k8, k9, k10] = .ok (.nx [.d (.scr ns) false, .d (.t (.int (a : Nat))) false, .d (.t (.int (n : Nat))) false, .d (.lst ((x :: r).map T.str)) false, .d (.t (.int (W : Nat))) false, .d (.t (.int (M : Nat))) false, .d (.lst ((fs ++ [f]).map F.enc)) true, .d (.t (.int (i : Nat))) true, .d (.t (.int z)) true, .d (.t (smT m qs)) true, .d (.t (.int b)) true]) := fun f e =>
    st _ _ _ _ _ (s1 k8 k9 k10) (st _ _ _ _ _ (s2 k9 k10) (st _ _ _ _ _ (s3 (.d (.t (smT m ps)) true) k10) (st _ _ _ _ _ (s4 (.d (.t (smT m ps)) true)) e)))
  by_cases hA : ((i : Int) = 2 ∧ z % 2 = 0) ∨ (z % 3 = 2 ∧ (0 : Int) < i)
  · refine ⟨.e (.goes (1 + z / 4 % M)) m qs, .d (.t (.int z)) true, .d (.t (smT m qs)) true, .d (.t (.int b)) true, fin _ ?_, ⟨?_, rfl, by simp [F.dep], by simp [F.wid], by simp [F.cnt], by simp only [F.sz, List.length_cons]; exact hsl⟩, by simp [F.gcn, EK.gc], fun e => ?_⟩
    · rcases hA with ⟨g1, g2⟩ | ⟨g1, g2⟩
      · simp [hMm, hfl, g1, g2, F.enc, appO]
      · have g2' : 0 < i := by omega
        by_cases g3 : (i : Int) = 2 <;> by_cases g4 : z % 2 = 0 <;> simp [hMm, hfl, g1, g2, g2', g3, g4, F.enc, appO]
    · simp only [F.all]
      exact hbok _ fun h e => by cases e; omega
    · omega
  · have hA' : tOr2 (tAnd2 (tV (b2 eqD (rdE 7) (kI 2))) (tV (b2 eqD (b2 modD (rdE 8) (kI 2)) (kI 0)))) (tAnd2 (tV (b2 eqD (b2 modD (rdE 8) (kI 3)) (kI 2))) (tV (b2 gtD (rdE 7) (kI 0)))) [.d (.scr ns) false, .d (.t (.int (a : Nat))) false, .d (.t (.int (n : Nat))) false, .d (.lst ((x :: r).map T.str)) false, .d (.t (.int (W : Nat))) false, .d (.t (.int (M : Nat))) false, .d (.lst (fs.map F.enc)) true, .d (.t (.int (i : Nat))) true, .d (.t (.int z)) true, .d (.t (smT m qs)) true, .d (.t (.int b)) true] = .ok false := by
      by_cases g1 : (i : Int) = 2
      · have g2 : ¬ z % 2 = 0 := fun q => hA (.inl ⟨g1, q⟩)
        have g3 : ¬ z % 3 = 2 := fun q => hA (.inr ⟨q, by omega⟩)
        simp [g1, g2, g3]
      · by_cases g3 : z % 3 = 2
        · have g4 : i = 0 := by
            have : ¬ (0 : Int) < i := fun q => hA (.inr ⟨g3, q⟩)
            omega
          simp [g1, g3, g4]
        · simp [g1, g3]
    by_cases hC : z % 3 = 1 ∧ (2 : Int) < i
    · refine ⟨.nt (.e .nought m qs), .d (.t (.int z)) true, .d (.t (smT m qs)) true, .d (.t (.int b)) true, fin _ ?_, ⟨?_, rfl, by simp [F.dep], by simp [F.wid], by simp [F.cnt], by simp only [F.sz, List.length_cons]; exact hsl⟩, by simp [F.gcn, EK.gc], fun e => by simp [F.gcn, EK.gc]⟩
      · obtain ⟨g1, g2⟩ := hC
        have g2' : 2 < i := by omega
        unfold ifO
        rw [hA']
        simp [hfl, g1, g2, g2', F.enc, appO]
      · simp only [F.all]
        exact hbok _ fun h e => by cases e
    · refine ⟨.e .above m qs, .d (.t (.int z)) true, .d (.t (smT m qs)) true, .d (.t (.int b)) true, fin _ ?_, ⟨?_, rfl, by simp [F.dep], by simp [F.wid], by simp [F.cnt], by simp only [F.sz, List.length_cons]; exact hsl⟩, by simp [F.gcn, EK.gc], fun e => by simp [F.gcn, EK.gc]⟩
      · unfold ifO
        rw [hA']
        by_cases g1 : z % 3 = 1
        · have g2 : ¬ (2 : Int) < i := fun q => hC ⟨g1, q⟩
          have g2' : ¬ 2 < i := by omega
          simp [hfl, g1, g2, g2', F.enc, appO]
        · simp [hfl, g1, F.enc, appO]
      · simp only [F.all]
        exact hbok _ fun h e => by cases e
theorem box_by_ex (ns : List Int) (a n : Nat) (x : Str) (r : List Str) (W M : Nat) (hN : (x :: r).Nodup) (hl : r.length < 10) (hW : 1 ≤ W) (hW2 : W < 1000) (hM : 1 ≤ M) (hn : n < 900) :
    ∃ f : F, m_law_box_by [.scr ns, .t (.int a), .t (.int n), .lst ((x :: r).map T.str), .t (.int W), .t (.int M)] = .ok (.t f.enc) ∧ f.plain = true ∧ f.dep ≤ 3 ∧ f.wid ≤ n + 1 ∧ f.cnt ≤ n + 1 ∧ f.sz ≤ (n + 1) * (r.length + 1) ∧ f.all (BOk (x :: r) W M) ∧ f.gcn ≤ n := by
  unfold m_law_box_by g_law_box_by
  rw [runDef_Rt]
  obtain ⟨ρ', e, fs, k7, k8, k9, k10, rfl, h1, h2, h3⟩ := forR_rng (j := 7) (lo := 0) (n := n + 1) (body := (seqO (setO 8 (b2 addD (ap m_law_cell_at (cA (rdE 0) (cA (b2 addD (rdE 1) (rdE 7)) nA))) (b2 mulD (kI 104729) (rdE 7))))
    (seqO (setO 9 (ap m_law_sum_by (cA (b2 divD (rdE 8) (kI 12)) (cA (sl3 (rdE 3) (sS (kI 1)) sN) (cA (rdE 4) nA)))))
    (seqO (setO 10 (b2 mulD (b2 ixD (ap mkLst (cA (kI 1) (cA (u1 negD (kI 1)) nA))) (b2 modD (rdE 7) (kI 2))) (b2 addD (kI 1) (b2 modD (b2 divD (rdE 8) (kI 3)) (rdE 4)))))
    (seqO (setO 9 (ap mkTup (cA (b2 ixD (rdE 9) (kI 0)) (cA (ap tupleD (cA (ap sortPD (cA (b2 addD (ap listD (cA (b2 ixD (rdE 9) (kI 1)) nA)) (ap mkLst (cA (ap mkTup (cA (b2 ixD (rdE 3) (kI 0)) (cA (rdE 10) nA))) nA))) nA)) nA)) nA))))
    (ifO (tOr2 (tAnd2 (tV (b2 eqD (rdE 7) (kI 2))) (tV (b2 eqD (b2 modD (rdE 8) (kI 2)) (kI 0)))) (tAnd2 (tV (b2 eqD (b2 modD (rdE 8) (kI 3)) (kI 2))) (tV (b2 gtD (rdE 7) (kI 0))))) (appO 6 (ap mkTup (cA (kS "goes") (cA (b2 addD (kI 1) (b2 modD (b2 divD (rdE 8) (kI 4)) (rdE 5))) (cA (rdE 9) nA))))) (ifO (tAnd2 (tV (b2 eqD (b2 modD (rdE 8) (kI 3)) (kI 1))) (tV (b2 gtD (rdE 7) (kI 2)))) (appO 6 (ap mkTup (cA (kS "not") (cA (ap mkTup (cA (kS "nought") (cA (rdE 9) nA))) nA)))) (appO 6 (ap mkTup (cA (kS "above") (cA (rdE 9) nA)))))))))))
    (ρ := [.d (.scr ns) false, .d (.t (.int (a : Nat))) false, .d (.t (.int (n : Nat))) false, .d (.lst ((x :: r).map T.str)) false, .d (.t (.int (W : Nat))) false, .d (.t (.int (M : Nat))) false, .d (.lst []) true, .un, .un, .un, .un])
    (fun i ρ => ∃ (fs : List F) (k7 k8 k9 k10 : Sl), ρ = [.d (.scr ns) false, .d (.t (.int (a : Nat))) false, .d (.t (.int (n : Nat))) false, .d (.lst ((x :: r).map T.str)) false, .d (.t (.int (W : Nat))) false, .d (.t (.int (M : Nat))) false, .d (.lst (fs.map F.enc)) true, k7, k8, k9, k10] ∧ (∀ f ∈ fs, Bx (x :: r) W M f) ∧ fs.length = i ∧ F.gcns fs ≤ i - 1)
    (fun i ρ hi ⟨fs, k7, k8, k9, k10, e, g1, g2, g3⟩ => by
      subst e
      obtain ⟨f, l8, l9, l10, q1, q2, q3, q4⟩ := box_step (ns := ns) (a := a) (n := n) (i := i) (M := M) hN hl hW hW2 hM (by omega) fs (by omega) k8 k9 k10
      refine ⟨_, ?_, fs ++ [f], .d (.t (.int ((i : Nat) : Int))) true, l8, l9, l10, rfl, ?_, ?_, ?_⟩
      · rw [Int.zero_add]; exact q1
      · intro g hg
        rcases List.mem_append.mp hg with u | u
        · exact g1 g u
        · simp at u; rw [u]; exact q2
      · rw [List.length_append, List.length_cons, List.length_nil, g2]
      · rw [gcns_app]
        simp only [F.gcns]
        by_cases h0 : i = 0
        · have := q4 h0; omega
        · omega) ⟨[], .un, .un, .un, .un, rfl, by simp, rfl, by simp [F.gcns]⟩
  obtain ⟨a1, a2, a3, a4, a5, a6⟩ := bx_fold fs h1
  have hnr : rng1 [.t (.int ((n : Int) + 1))] = .ok (0, n + 1) := rng1_n (n + 1) (by omega)
  have hfl : fs.length ≤ 16777216 := by omega
  refine ⟨.nd true fs, ?_, a2, by simp only [F.dep]; omega, by simp only [F.wid]; omega, by simp only [F.cnt]; omega, by simp only [F.sz]; rw [h2] at a6; simpa using a6, by simp only [F.all]; exact a1, by simp only [F.gcn]; omega⟩
  refine (Rt_seq (by simp; rfl)).trans ?_
  refine (Rt_seq (by simp only [forRO, cA, nA, kI, b2, rdE_0, rdE_s, R.ok_bind, add_ii, hnr]; exact e)).trans ?_
  simp [F.enc, encs_map, hfl]
theorem any_by_ex (ns : List Int) (a n : Nat) (x : Str) (r : List Str) (W M : Nat) (hN : (x :: r).Nodup) (hl : r.length = 2) (hW : 1 ≤ W) (hW2 : W ≤ 3) (hM : 1 ≤ M) (hn : 1 ≤ n) (hn4 : n ≤ 4) :
    ∃ f : F, m_law_any_by [.scr ns, .t (.int a), .t (.int n), .lst ((x :: r).map T.str), .t (.int W), .t (.int M)] = .ok (.t f.enc) ∧ f.plain = true ∧ f.dep ≤ 20 ∧ f.wid ≤ 21 ∧ f.cnt ≤ 61 ∧ f.sz ≤ 400 ∧ f.all (BOk (x :: r) W M) ∧ (n = 1 → f.gcn ≤ 1 ∧ f.cnt ≤ 2) := by
  obtain ⟨f, ⟨f1, f2, f3, f4, f5, f6⟩, hf⟩ := plain_by_ex ns a n (x :: r) W M hn (by omega) (by simp; omega) (by omega) (by omega) (by omega)
  obtain ⟨g, hg, g1, g2, g3, g4, g5, g6, g7⟩ := box_by_ex ns a n x r W M hN (by omega) hW (by omega) hM (by omega)
  have hc : m_law_cell_at [.scr ns, .t (.int (a : Int))] = .ok (.t (.int (cell ns a))) := cell_at (k := a)
  unfold m_law_any_by g_law_any_by
  rw [runDef_Rt]
  have h4 : cell ns a / 5 % 4 = 0 ∨ cell ns a / 5 % 4 = 1 ∨ cell ns a / 5 % 4 = 2 ∨ cell ns a / 5 % 4 = 3 := by omega
  have hg5 : g.sz ≤ 15 := by
    have : (n + 1) * (r.length + 1) ≤ 5 * 3 := Nat.mul_le_mul (by omega) (by omega)
    omega
  have hf3 : f.sz ≤ 183 := by
    have : (x :: r).length * (1 + 20 * (n - 1)) ≤ 3 * 61 := Nat.mul_le_mul (by simp; omega) (by omega)
    omega
  have hff : f.gcn ≤ f.cnt := gcn_le f
  have hF : f.plain = true ∧ f.dep ≤ 20 ∧ f.wid ≤ 21 ∧ f.cnt ≤ 61 ∧ f.sz ≤ 400 ∧ f.all (BOk (x :: r) W M) ∧ (n = 1 → f.gcn ≤ 1 ∧ f.cnt ≤ 2) := ⟨f4, by omega, f5, by omega, by omega, all_mono (fun k n ps q => bok_of q) f f1, fun e => by omega⟩
  simp only [List.map_cons] at hf hg
  rcases h4 with h | h | h | h
  · exact ⟨f, by simp [hc, h, hf], hF⟩
  · exact ⟨f, by simp [hc, h, hf], hF⟩
  · exact ⟨g, by simp [hc, h, hg], g1, by omega, by omega, by omega, by omega, g6, fun e => by omega⟩
  · refine ⟨.nt g, by simp [hc, h, hg, F.enc], ?_, ?_, ?_, ?_, ?_, ?_, ?_⟩
    · simp only [F.plain]; exact g1
    · simp only [F.dep]; omega
    · simp only [F.wid]; omega
    · simp only [F.cnt]; omega
    · simp only [F.sz]; omega
    · simp only [F.all]; exact g6
    · simp only [F.gcn, F.cnt]; intro e; omega
end Pf

set_option Elab.async false
set_option linter.all false
set_option maxRecDepth 100000
set_option maxHeartbeats 4000000
namespace Pf
open PySem L2
theorem mem_put (kvs : Prs) (k : Str) (v : Int) (s : Str) : s ∈ (putL kvs k v).map (·.1) ↔ s ∈ kvs.map (·.1) ∨ s = k := by
  rw [keys_put]
  split
  · rename_i h
    exact ⟨.inl, fun q => q.elim id fun e => e ▸ h⟩
  · rw [List.mem_append, List.mem_cons]; simp
theorem nd_put {kvs : Prs} (h : (kvs.map (·.1)).Nodup) (k : Str) (v : Int) : ((putL kvs k v).map (·.1)).Nodup := by
  rw [keys_put]; split
  · exact h
  · rename_i hk
    rw [List.nodup_append]
    refine ⟨h, by simp, ?_⟩
    intro a ha b hb e
    simp at hb
    exact hk (by rw [← hb, ← e]; exact ha)
theorem len_put (kvs : Prs) (k : Str) (v : Int) : (putL kvs k v).length = if k ∈ kvs.map (·.1) then kvs.length else kvs.length + 1 := by
  have := congrArg List.length (keys_put kvs k v)
  rw [List.length_map] at this
  rw [this]; split <;> simp
theorem vl_up (kvs : Prs) (x : Str) (z : Int) : vl (putL kvs x z) = up (vl kvs) x z := by
  funext s; rw [vl_put]; rfl
/-- the law finds no number -/
theorem some_loop (f : F) (x : Str) (kvs : Prs) (h1 : f.dep ≤ 60) (h2 : f.plain = true) (h3 : f.all Rk) (h4 : f.all (fun _ _ ps => ∀ p ∈ ps, p.1 ≠ x → p.1 ∈ kvs.map (·.1))) (h5 : ∀ z, f.tv (up (vl kvs) x z) = false) : ∀ (ts : List Int) (kv : Prs) (k4 : Sl), (∀ s, s ≠ x → vl kv s = vl kvs s) → (∀ s ∈ kvs.map (·.1), s ∈ kv.map (·.1)) → (putL kv x 0).length ≤ 100 →
    ∃ (kv' : Prs) (k4' : Sl), forR 4 (seqO (dputO 3 (rdE 1) (rdE 4))
    (ifO (tV (ap (m_law_true 60) (cA (rdE 0) (cA (rdE 3) nA)))) (retO (kB true)) nxO)) (ts.map T.int) [.d (.t f.enc) false, .d (.t (.str x)) false, .d (.dct kvs) false, .d (.dct kv) true, k4] = .ok (.nx [.d (.t f.enc) false, .d (.t (.str x)) false, .d (.dct kvs) false, .d (.dct kv') true, k4'])
  | [], kv, k4, _, _, _ => ⟨kv, k4, by simp⟩
  | t :: ts, kv, k4, q1, q2, q3 => by
    have hl := len_put kv x 0
    have hkl : kv.length < 16777216 := by split at hl <;> omega
    have hup : vl (putL kv x t) = up (vl kvs) x t := by
      funext s; rw [vl_put]; unfold up
      by_cases e : s = x
      · simp [e]
      · simp [e, q1 s e]
    have ht := ltrue_eq (putL kv x t) 60 f h1 h2 h3 (all_mono (fun k n ps q p hp => by
      rw [mem_put]
      by_cases e : p.1 = x
      · exact .inr e
      · exact .inl (q2 _ (q p hp e))) f h4)
    rw [hup, h5] at ht
    obtain ⟨kv', k4', e⟩ := some_loop f x kvs h1 h2 h3 h4 h5 ts (putL kv x t) (.d (.t (.int t)) true) (fun s hs => by rw [hup]; unfold up; rw [if_neg hs]) (fun s hs => (mem_put kv x t s).mpr (.inl (q2 s hs))) (by
      rw [len_put, if_pos ((mem_put kv x t x).mpr (.inr rfl)), len_put]
      rw [len_put] at q3; exact q3)
    refine ⟨kv', k4', ?_⟩
    rw [← e]
    simp [forR, dputO, hkl, ht]
theorem law_some_no (f : F) (x : Str) (kvs : Prs) (L : Int) (hL : 0 < L) (hL2 : L ≤ 40) (h1 : f.dep ≤ 60) (h2 : f.plain = true) (h3 : f.all Rk) (h3' : f.all (Le x kvs L)) (h4 : f.cnt * (2 * L.toNat + 1) < 4000) (hk : kvs.length ≤ 50) (h5 : ∀ z, f.tv (up (vl kvs) x z) = false) : m_law_some [.t f.enc, .t (.str x), .dct kvs] = .ok (.t (.bl false)) := by
  obtain ⟨ts, ht⟩ := law_tries_ex x kvs L hL hL2 f h1 h2 h3' h4 (by omega)
  obtain ⟨kv', k4', e⟩ := some_loop f x kvs h1 h2 h3 (all_mono (fun k n ps q => q.2.1) f h3') h5 ts kvs .un (fun s _ => rfl) (fun s h => h) (by rw [len_put]; split <;> omega)
  unfold m_law_some g_law_some
  rw [runDef_Rt]
  refine (Rt_seq (by simp; rfl)).trans ?_
  refine (Rt_seq (by simp [ht]; exact e)).trans ?_
  simp
/-- a step for all numbers that go into -/
theorem step_ex {N : List Str} {n W M : Nat} {f : F} (hM : M ≤ 4 ∨ (n = 1 ∧ M = 40)) (hM2 : 2 ≤ M) (h1 : f.all (BOk N W M)) (h2 : f.cnt ≤ 61) (h3 : n = 1 → f.gcn ≤ 1 ∧ f.cnt ≤ 2) : ∃ L : Int, 1 ≤ L ∧ L ≤ 40 ∧ f.all (fun k _ _ => ∀ h, k = .goes h → h ∣ L) ∧ f.cnt * (2 * L.toNat + 1) < 4000 := by
  rcases hM with h | ⟨h, h40⟩
  · refine ⟨12, by omega, by omega, all_mono (fun k n ps q z e => ?_) f h1, ?_⟩
    · obtain ⟨z1, z2⟩ := q.2.2 z e
      have : z = 1 ∨ z = 2 ∨ z = 3 ∨ z = 4 := by omega
      rcases this with rfl | rfl | rfl | rfl <;> decide
    · have : f.cnt * (2 * (12 : Int).toNat + 1) ≤ 61 * 25 := Nat.mul_le_mul h2 (by decide)
      omega
  · obtain ⟨g1, g2⟩ := h3 h
    obtain ⟨L, l1, l2, l3⟩ := gcn_1 (by omega) f g1 h1
    refine ⟨L, l1, by omega, l3, ?_⟩
    have : f.cnt * (2 * L.toNat + 1) ≤ 2 * 81 := Nat.mul_le_mul g2 (by omega)
    omega
theorem tt_bok {N : List Str} {W M : Nat} {L : Int} {x : Str} {f : F} (hN : N.Nodup) (hl : N.length < 10) (hW : W ≤ 3) (hM : M ≤ 40) (l1 : 1 ≤ L) (l2 : L ≤ 40) (h1 : f.plain = true) (h2 : f.dep ≤ 40) (h3 : f.wid ≤ 100) (h4 : f.cnt ≤ 1000) (h5 : f.sz < 4000) (h6 : f.all (BOk N W M)) (h7 : f.all (fun k _ _ => ∀ h, k = .goes h → h ∣ L)) : ToOk N W M 6 L x f where
  nd := hN
  len := hl
  plain := h1
  dep := by omega
  wid := h3
  cnt := h4
  all := all_mono (fun k n ps q => by
    obtain ⟨⟨q1, q2, q3⟩, q4⟩ := q
    refine ⟨q1, q2, fun h e => ⟨(q3 h e).1, (q3 h e).2, q4 h e⟩, fun h0 => ?_⟩
    have ht := tot_le q1 hN q2 x
    have h0' : (tot x ps).natAbs ≠ 0 := by omega
    have : (tot x ps).natAbs = 1 ∨ (tot x ps).natAbs = 2 ∨ (tot x ps).natAbs = 3 := by omega
    rcases this with e | e | e <;> rw [e] <;> decide) f (all_and f h6 h7)
  q0 := by decide
  q1 := by decide
  wb := by omega
  mb := by omega
  qm := by omega
  qw := by omega
  l0 := by omega
  sz := h5
  ql := by omega
theorem bok_eok {N : List Str} {W M : Nat} (hW : W ≤ 3) {f : F} (h : f.all (BOk N W M)) : f.all (EOk N) := all_mono (fun k n ps q => ⟨q.1, fun p hp => by have := q.2.1 p hp; omega, fun z e => (q.2.2 z e).1⟩) f h
end Pf

set_option Elab.async false
set_option linter.all false
set_option maxRecDepth 100000
set_option maxHeartbeats 4000000
namespace Pf
open PySem L2
/-! ## statements put together: all_of, one_of -/
noncomputable instance decF : DecidableEq F := fun _ _ => Classical.propDecidable _
mutual
theorem enc_inj : ∀ f g : F, f.enc = g.enc → f = g
  | .e k n ps, g, h => by
    cases g with
    | e k' n' ps' =>
      cases k <;> cases k' <;> simp [F.enc, smT] at h ⊢
      · exact ⟨h.1, prTs_inj h.2⟩
      · exact ⟨h.1, prTs_inj h.2⟩
      · exact ⟨h.1, h.2.1, prTs_inj h.2.2⟩
    | nt f => cases k <;> simp [F.enc] at h
    | nd b fs => cases k <;> cases b <;> simp [F.enc] at h
    | qn b y f => cases k <;> cases b <;> simp [F.enc, smT] at h
  | .nt f, g, h => by
    cases g with
    | e k' n' ps' => cases k' <;> simp [F.enc] at h
    | nt g => simp [F.enc] at h; rw [enc_inj f g h]
    | nd b fs => cases b <;> simp [F.enc] at h
    | qn b y f => cases b <;> simp [F.enc] at h
  | .nd b fs, g, h => by
    cases g with
    | e k' n' ps' => cases k' <;> cases b <;> simp [F.enc] at h
    | nt g => cases b <;> simp [F.enc] at h
    | nd c gs => cases b <;> cases c <;> simp [F.enc] at h <;> rw [encs_inj fs gs h]
    | qn c y f => cases b <;> cases c <;> simp [F.enc] at h
  | .qn b y f, g, h => by
    cases g with
    | e k' n' ps' => cases k' <;> cases b <;> simp [F.enc, smT] at h
    | nt g => cases b <;> simp [F.enc] at h
    | nd c gs => cases b <;> cases c <;> simp [F.enc] at h
    | qn c z g => cases b <;> cases c <;> simp [F.enc] at h <;> rw [h.1, enc_inj f g h.2]
theorem encs_inj : ∀ fs gs : List F, F.encs fs = F.encs gs → fs = gs
  | [], [], _ => rfl
  | [], _ :: _, h => by simp [F.encs] at h
  | _ :: _, [], h => by simp [F.encs] at h
  | f :: fs, g :: gs, h => by
    simp only [F.encs, List.cons.injEq] at h
    rw [enc_inj f g h.1, encs_inj fs gs h.2]
end
/-- the parts of a statement of that kind, or itself alone -/
def pts (b : Bool) : F → List F
  | .nd c gs => if c = b then gs else [.nd c gs]
  | f => [f]
noncomputable def putF (l : List F) (a : F) : List F := if a ∈ l then l else l ++ [a]
def resF (b : Bool) : List F → F
  | [f] => f
  | l => .nd b l
noncomputable def ofs (b : Bool) : List F → List F → F
  | [], l => resF b l
  | f :: fs, l => if f = .nd (!b) [] then .nd (!b) [] else ofs b fs ((pts b f).foldl putF l)
theorem putT_enc (l : List F) (a : F) : putT (l.map F.enc) a.enc = (putF l a).map F.enc := by
  unfold putT putF
  have h : a.enc ∈ l.map F.enc ↔ a ∈ l := ⟨fun h => by
    obtain ⟨b, hb, e⟩ := List.mem_map.mp h
    rw [← enc_inj b a e]; exact hb, fun h => List.mem_map_of_mem h⟩
  by_cases q : a ∈ l
  · rw [if_pos q, if_pos (h.mpr q)]
  · rw [if_neg q, if_neg (fun r => q (h.mp r)), List.map_append]; rfl
theorem putF_mem (l : List F) (a b : F) : b ∈ putF l a ↔ b ∈ l ∨ b = a := by
  unfold putF
  split
  · exact ⟨.inl, fun q => q.elim id fun e => e ▸ ‹_›⟩
  · simp
theorem putF_len (l : List F) (a : F) : (putF l a).length ≤ l.length + 1 := by
  unfold putF; split <;> simp
theorem foldF_mem (b : F) : ∀ (ps l : List F), b ∈ ps.foldl putF l ↔ b ∈ l ∨ b ∈ ps
  | [], l => by simp
  | p :: ps, l => by
    rw [List.foldl_cons, foldF_mem b ps, putF_mem, List.mem_cons]
    constructor
    · rintro ((h | h) | h)
      · exact .inl h
      · exact .inr (.inl h)
      · exact .inr (.inr h)
    · rintro (h | h | h)
      · exact .inl (.inl h)
      · exact .inl (.inr h)
      · exact .inr h
theorem foldF_len : ∀ (ps l : List F), (ps.foldl putF l).length ≤ l.length + ps.length
  | [], l => by simp
  | p :: ps, l => by
    rw [List.foldl_cons, List.length_cons]
    have := foldF_len ps (putF l p)
    have := putF_len l p
    omega
@[simp] theorem parts_of_eq (b : Bool) (f : F) : m_parts_of [.t f.enc, .t (.str (bw b))] = .ok (.t (.tup ((pts b f).map F.enc))) := by
  unfold m_parts_of g_parts_of
  rw [runDef_Rt]
  cases f with
  | e k n ps => cases k <;> cases b <;> simp [F.enc, pts]
  | nt f => cases b <;> simp [F.enc, pts]
  | nd c gs => cases b <;> cases c <;> simp [F.enc, pts, encs_map]
  | qn c y f => cases b <;> cases c <;> simp [F.enc, pts]
def tB (b : Bool) : T := .tup [.str (bw b), .tup []]
theorem tB_enc (b : Bool) : tB b = (F.nd b []).enc := by simp [tB, F.enc, F.encs]
def Shp (f : F) : Prop := SeqAt.shaped (toPy f.enc) = true
theorem shp_B (b : Bool) : SeqAt.shaped (toPy (tB b)) = true := by cases b <;> decide +kernel
theorem eq_B (b : Bool) (f : F) (h : Shp f) : eqD (.t f.enc) (.t (tB b)) = .ok (.t (.bl (decide (f = .nd b [])))) := by
  have h1 := shp_B b
  have he : PyData.eqv (toPy f.enc) (toPy (tB b)) = decide (f = .nd b []) := by
    cases f with
    | e k n ps => cases k <;> cases b <;> simp [F.enc, tB, toPy, toPys, PyData.eqv, PyData.eqvAll]
    | nt f => cases b <;> simp [F.enc, tB, toPy, toPys, PyData.eqv, PyData.eqvAll]
    | nd c gs => cases gs <;> cases b <;> cases c <;> simp [F.enc, F.encs, tB, toPy, toPys, PyData.eqv, PyData.eqvAll]
    | qn c y f => cases b <;> cases c <;> simp [F.enc, tB, toPy, toPys, PyData.eqv, PyData.eqvAll]
  have hs : eqS f.enc (tB b) = none := by
    cases f with
    | e k n ps => cases k <;> rfl
    | nt f => rfl
    | nd c gs => rfl
    | qn c y f => rfl
  unfold Shp at h
  simp only [eqD, eqB, hs, h, h1, Bool.and_self, if_true, he]
theorem t_NO_B : t_NO = tB false := rfl
theorem t_YES_B : t_YES = tB true := rfl
theorem parts_loop (w : World) (a0 k2 : Sl) : ∀ (ps l : List F) (k3 : Sl), (∀ p ∈ ps, keyT p.enc = true) → l.length + ps.length < 16777216 →
    ∃ k3', forR 3 (sputO w 1 (rdE 3) (kB true)) (ps.map F.enc) [a0, .d (.sn w (l.map F.enc)) true, k2, k3] = .ok (.nx [a0, .d (.sn w ((ps.foldl putF l).map F.enc)) true, k2, k3'])
  | [], l, k3, _, _ => ⟨k3, by simp⟩
  | p :: ps, l, k3, hk, hl => by
    rw [List.length_cons] at hl
    have := putF_len l p
    obtain ⟨k3', e⟩ := parts_loop w a0 k2 ps (putF l p) (.d (.t p.enc) true) (fun q hq => hk q (List.mem_cons_of_mem _ hq)) (by omega)
    refine ⟨k3', ?_⟩
    have h1 := hk p (by simp)
    have h2 : l.length < 16777216 := by omega
    rw [List.foldl_cons, ← e, ← putT_enc]
    simp [forR, sputO, h1, h2]
def ptl (b : Bool) (fs : List F) : Nat := (fs.map fun f => (pts b f).length).sum
theorem all_of_loop (w : World) (a0 : Sl) : ∀ (fs l : List F) (k2 k3 : Sl), (∀ f ∈ fs, Shp f ∧ ∀ p ∈ pts true f, keyT p.enc = true) → l.length + ptl true fs < 16777216 →
    Rt (seqO (forR 2 (seqO (ifO (tV (b2 eqD (rdE 2) gl_NO)) (retO gl_NO) nxO)
    (forTO 3 (ap m_parts_of (cA (rdE 2) (cA (kS "and") nA))) (sputO w 1 (rdE 3) (kB true)))) (fs.map F.enc))
  (seqO (ifO (tV (b2 eqD (ap lenSn (cA (rdE 1) nA)) (kI 1))) (retO (b2 ixD (ap listSn (cA (rdE 1) nA)) (kI 0))) nxO)
  (retO (ap mkTup (cA (kS "and") (cA (ap tupleSn (cA (rdE 1) nA)) nA))))) [a0, .d (.sn w (l.map F.enc)) true, k2, k3]) = .ok (.t (ofs true fs l).enc)
  | [], l, k2, k3, _, hl => by
    simp only [ptl, List.map_nil, List.sum_nil] at hl
    unfold ofs
    rcases l with _ | ⟨f, _ | ⟨g, r⟩⟩
    · simp [resF, F.enc, F.encs, lenSn, listSn, tupleSn]
    · simp [resF, lenSn, listSn, tupleSn]
    · have h1 : ¬ ((r.length : Int) + 1 + 1 = 1) := by omega
      simp only [List.length_cons] at hl
      simp [resF, lenSn, listSn, tupleSn, h1, F.enc, F.encs, encs_map]
  | f :: fs, l, k2, k3, hf, hl => by
    obtain ⟨h1, h2⟩ := hf f (by simp)
    have he := eq_B false f h1
    simp only [ptl, List.map_cons, List.sum_cons] at hl
    have hlen := foldF_len (pts true f) l
    unfold ofs
    by_cases hn : f = .nd (!true) []
    · rw [if_pos hn]
      have hn' : f = .nd false [] := hn
      rw [decide_eq_true hn', tB_enc] at he
      simp [forR, t_NO_B, he, tB_enc]
    · rw [if_neg hn]
      have hn' : ¬ f = .nd false [] := hn
      rw [decide_eq_false hn'] at he
      obtain ⟨k3', e⟩ := parts_loop w a0 (.d (.t f.enc) true) (pts true f) l k3 h2 (by omega)
      have hp := parts_of_eq true f
      simp only [bw_t] at hp
      have ih := all_of_loop w a0 fs ((pts true f).foldl putF l) (.d (.t f.enc) true) k3' (fun g hg => hf g (List.mem_cons_of_mem _ hg)) (by unfold ptl; omega)
      rw [← ih]
      simp [forR, t_NO_B, he, hp, e]
theorem one_of_loop (w : World) (a0 : Sl) : ∀ (fs l : List F) (k2 k3 : Sl), (∀ f ∈ fs, Shp f ∧ ∀ p ∈ pts false f, keyT p.enc = true) → l.length + ptl false fs < 16777216 →
    Rt (seqO (forR 2 (seqO (ifO (tV (b2 eqD (rdE 2) gl_YES)) (retO gl_YES) nxO)
    (forTO 3 (ap m_parts_of (cA (rdE 2) (cA (kS "or") nA))) (sputO w 1 (rdE 3) (kB true)))) (fs.map F.enc))
  (seqO (ifO (tV (b2 eqD (ap lenSn (cA (rdE 1) nA)) (kI 1))) (retO (b2 ixD (ap listSn (cA (rdE 1) nA)) (kI 0))) nxO)
  (retO (ap mkTup (cA (kS "or") (cA (ap tupleSn (cA (rdE 1) nA)) nA))))) [a0, .d (.sn w (l.map F.enc)) true, k2, k3]) = .ok (.t (ofs false fs l).enc)
  | [], l, k2, k3, _, hl => by
    simp only [ptl, List.map_nil, List.sum_nil] at hl
    unfold ofs
    rcases l with _ | ⟨f, _ | ⟨g, r⟩⟩
    · simp [resF, F.enc, F.encs, lenSn, listSn, tupleSn]
    · simp [resF, lenSn, listSn, tupleSn]
    · have h1 : ¬ ((r.length : Int) + 1 + 1 = 1) := by omega
      simp only [List.length_cons] at hl
      simp [resF, lenSn, listSn, tupleSn, h1, F.enc, F.encs, encs_map]
  | f :: fs, l, k2, k3, hf, hl => by
    obtain ⟨h1, h2⟩ := hf f (by simp)
    have he := eq_B true f h1
    simp only [ptl, List.map_cons, List.sum_cons] at hl
    have hlen := foldF_len (pts false f) l
    unfold ofs
    by_cases hn : f = .nd (!false) []
    · rw [if_pos hn]
      have hn' : f = .nd true [] := hn
      rw [decide_eq_true hn', tB_enc] at he
      simp [forR, t_YES_B, he, tB_enc]
    · rw [if_neg hn]
      have hn' : ¬ f = .nd true [] := hn
      rw [decide_eq_false hn'] at he
      obtain ⟨k3', e⟩ := parts_loop w a0 (.d (.t f.enc) true) (pts false f) l k3 h2 (by omega)
      have hp := parts_of_eq false f
      simp only [bw_f] at hp
      have ih := one_of_loop w a0 fs ((pts false f).foldl putF l) (.d (.t f.enc) true) k3' (fun g hg => hf g (List.mem_cons_of_mem _ hg)) (by unfold ptl; omega)
      rw [← ih]
      simp [forR, t_YES_B, he, hp, e]
theorem all_of_eq (w : World) (fs : List F) (hf : ∀ f ∈ fs, Shp f ∧ ∀ p ∈ pts true f, keyT p.enc = true) (hl : ptl true fs < 16777216) : m_all_of w [.lst (fs.map F.enc)] = .ok (.t (ofs true fs []).enc) := by
  have h := all_of_loop w (.d (.lst (fs.map F.enc)) false) fs [] .un .un hf (by simpa using hl)
  unfold m_all_of g_all_of
  rw [runDef_Rt]
  refine (Rt_seq (by simp [kDs]; rfl)).trans ?_
  simp only [List.map_nil] at h
  rw [← h]
  simp [forNO]
theorem one_of_eq (w : World) (fs : List F) (hf : ∀ f ∈ fs, Shp f ∧ ∀ p ∈ pts false f, keyT p.enc = true) (hl : ptl false fs < 16777216) : m_one_of w [.lst (fs.map F.enc)] = .ok (.t (ofs false fs []).enc) := by
  have h := one_of_loop w (.d (.lst (fs.map F.enc)) false) fs [] .un .un hf (by simpa using hl)
  unfold m_one_of g_one_of
  rw [runDef_Rt]
  refine (Rt_seq (by simp [kDs]; rfl)).trans ?_
  simp only [List.map_nil] at h
  rw [← h]
  simp [forNO]
end Pf

set_option Elab.async false
set_option linter.all false
set_option maxRecDepth 100000
set_option maxHeartbeats 4000000
namespace Pf
open PySem L2
/-! ## what all_of and one_of come to -/
theorem tvA_t (v : Str → Int) : ∀ l : List F, F.tvA v l = true ↔ ∀ f ∈ l, f.tv v = true
  | [] => by simp [F.tvA]
  | f :: l => by simp [F.tvA, tvA_t v l]
theorem tvO_t (v : Str → Int) : ∀ l : List F, F.tvO v l = true ↔ ∃ f ∈ l, f.tv v = true
  | [] => by simp [F.tvO]
  | f :: l => by simp [F.tvO, tvO_t v l]
theorem res_t (v : Str → Int) : ∀ l : List F, (resF true l).tv v = true ↔ ∀ f ∈ l, f.tv v = true
  | [] => by simp [resF, F.tv, F.tvA]
  | [f] => by simp [resF]
  | f :: g :: l => by simp only [resF, F.tv, tvA_t]
theorem res_f (v : Str → Int) : ∀ l : List F, (resF false l).tv v = true ↔ ∃ f ∈ l, f.tv v = true
  | [] => by simp [resF, F.tv, F.tvO]
  | [f] => by simp [resF]
  | f :: g :: l => by simp only [resF, F.tv, tvO_t]
theorem pts_nd (b c : Bool) (gs : List F) : pts b (.nd c gs) = if c = b then gs else [.nd c gs] := rfl
theorem pts_t (v : Str → Int) (f : F) : (∀ p ∈ pts true f, p.tv v = true) ↔ f.tv v = true := by
  cases f with
  | nd c gs => cases c <;> simp [pts, F.tv, tvA_t]
  | _ => simp [pts]
theorem pts_f (v : Str → Int) (f : F) : (∃ p ∈ pts false f, p.tv v = true) ↔ f.tv v = true := by
  cases f with
  | nd c gs => cases c <;> simp [pts, F.tv, tvO_t]
  | _ => simp [pts]
theorem ofs_t (v : Str → Int) : ∀ fs l : List F, (ofs true fs l).tv v = true ↔ (∀ p ∈ l, p.tv v = true) ∧ ∀ f ∈ fs, f.tv v = true
  | [], l => by unfold ofs; rw [res_t]; simp
  | f :: fs, l => by
    unfold ofs
    by_cases h : f = .nd (!true) []
    · rw [if_pos h]
      have h' : f = .nd false [] := h
      constructor
      · intro q; simp [F.tv, F.tvO] at q
      · rintro ⟨_, q⟩
        have := q f (by simp)
        rw [h'] at this; simp [F.tv, F.tvO] at this
    · rw [if_neg h, ofs_t v fs]
      simp only [foldF_mem, List.mem_cons]
      constructor
      · rintro ⟨q1, q2⟩
        refine ⟨fun p hp => q1 p (.inl hp), fun g hg => hg.elim (fun e => ?_) (q2 g)⟩
        rw [e]; exact (pts_t v f).mp fun p hp => q1 p (.inr hp)
      · rintro ⟨q1, q2⟩
        exact ⟨fun p hp => hp.elim (q1 p) fun hp => (pts_t v f).mpr (q2 f (.inl rfl)) p hp, fun g hg => q2 g (.inr hg)⟩
theorem ofs_f (v : Str → Int) : ∀ fs l : List F, (ofs false fs l).tv v = true ↔ (∃ p ∈ l, p.tv v = true) ∨ ∃ f ∈ fs, f.tv v = true
  | [], l => by unfold ofs; rw [res_f]; simp
  | f :: fs, l => by
    unfold ofs
    by_cases h : f = .nd (!false) []
    · rw [if_pos h]
      have h' : f = .nd true [] := h
      constructor
      · intro _; exact .inr ⟨f, by simp, by rw [h']; simp [F.tv, F.tvA]⟩
      · intro _; simp [F.tv, F.tvA]
    · rw [if_neg h, ofs_f v fs]
      simp only [foldF_mem, List.mem_cons]
      constructor
      · rintro (⟨p, hp | hp, q⟩ | ⟨g, hg, q⟩)
        · exact .inl ⟨p, hp, q⟩
        · exact .inr ⟨f, .inl rfl, (pts_f v f).mp ⟨p, hp, q⟩⟩
        · exact .inr ⟨g, .inr hg, q⟩
      · rintro (⟨p, hp, q⟩ | ⟨g, hg | hg, q⟩)
        · exact .inl ⟨p, .inl hp, q⟩
        · subst hg
          obtain ⟨p, hp, q⟩ := (pts_f v g).mpr q
          exact .inl ⟨p, .inr hp, q⟩
        · exact .inr ⟨g, hg, q⟩
theorem ofs_pres {b : Bool} (Q : F → Prop) (hno : Q (.nd (!b) [])) (hnd : ∀ l : List F, (∀ f ∈ l, Q f) → Q (.nd b l)) (hpt : ∀ f, Q f → ∀ p ∈ pts b f, Q p) : ∀ fs l : List F, (∀ f ∈ fs, Q f) → (∀ f ∈ l, Q f) → Q (ofs b fs l)
  | [], l, _, hl => by
    unfold ofs
    rcases l with _ | ⟨f, _ | ⟨g, r⟩⟩
    · exact hnd [] (by simp)
    · exact hl f (by simp)
    · exact hnd _ hl
  | f :: fs, l, hf, hl => by
    unfold ofs
    split
    · exact hno
    · refine ofs_pres Q hno hnd hpt fs _ (fun g hg => hf g (List.mem_cons_of_mem _ hg)) fun g hg => ?_
      rcases (foldF_mem g _ _).mp hg with q | q
      · exact hl g q
      · exact hpt f (hf f (by simp)) g q
theorem alls_iff {P : EK → Int → Prs → Prop} : ∀ l : List F, F.alls P l ↔ ∀ f ∈ l, f.all P
  | [] => by simp [F.alls]
  | f :: l => by simp [F.alls, alls_iff l]
theorem strs_iff : ∀ l : List F, F.strs l = true ↔ ∀ f ∈ l, f.str = true
  | [] => by simp [F.strs]
  | f :: l => by simp [F.strs, strs_iff l]
theorem deps_le {D : Nat} : ∀ l : List F, (∀ f ∈ l, f.dep ≤ D) → F.deps l ≤ D
  | [], _ => by simp [F.deps]
  | f :: l, h => by
    have := deps_le l fun g hg => h g (List.mem_cons_of_mem _ hg)
    have := h f (by simp)
    simp only [F.deps]; omega
theorem pts_sub (Q : F → Prop) (h : ∀ c gs, Q (.nd c gs) → ∀ g ∈ gs, Q g) (b : Bool) (f : F) (hf : Q f) : ∀ p ∈ pts b f, Q p := by
  cases f with
  | nd c gs =>
    rw [pts_nd]
    by_cases e : c = b
    · rw [if_pos e]; exact h c gs hf
    · rw [if_neg e]; simpa using hf
  | _ => simpa [pts] using hf
theorem ofs_all {P : EK → Int → Prs → Prop} {b : Bool} {fs : List F} (h : ∀ f ∈ fs, f.all P) : (ofs b fs []).all P :=
  ofs_pres (F.all P) (by simp only [F.all, F.alls]) (fun l hl => by simp only [F.all]; exact (alls_iff l).mpr hl) (fun f hf => pts_sub (F.all P) (fun c gs q => by simp only [F.all] at q; exact (alls_iff gs).mp q) b f hf) fs [] h (by simp)
theorem ofs_str {b : Bool} {fs : List F} (h : ∀ f ∈ fs, f.str = true) : (ofs b fs []).str = true :=
  ofs_pres (fun f => f.str = true) (by simp [F.str, F.strs]) (fun l hl => by simp only [F.str]; exact (strs_iff l).mpr hl) (fun f hf => pts_sub (fun f => f.str = true) (fun c gs q => by simp only [F.str] at q; exact (strs_iff gs).mp q) b f hf) fs [] h (by simp)
theorem pts_dep (b : Bool) (f : F) : ∀ p ∈ pts b f, p.dep ≤ f.dep := by
  cases f with
  | nd c gs =>
    rw [pts_nd]
    by_cases e : c = b
    · rw [if_pos e]
      intro p hp
      have := deps_mem hp
      simp only [F.dep]; omega
    · rw [if_neg e]; simp
  | _ => simp [pts]
theorem ofs_dep {b : Bool} {D : Nat} : ∀ fs l : List F, (∀ f ∈ fs, f.dep ≤ D) → (∀ f ∈ l, f.dep ≤ D) → (ofs b fs l).dep ≤ D + 1
  | [], l, _, hl => by
    unfold ofs
    rcases l with _ | ⟨f, _ | ⟨g, r⟩⟩
    · simp [resF, F.dep, F.deps]
    · have := hl f (by simp)
      simp only [resF]; omega
    · have := deps_le _ hl
      simp only [resF, F.dep]; omega
  | f :: fs, l, hf, hl => by
    unfold ofs
    split
    · simp [F.dep, F.deps]
    · refine ofs_dep fs _ (fun g hg => hf g (List.mem_cons_of_mem _ hg)) fun g hg => ?_
      rcases (foldF_mem g _ _).mp hg with q | q
      · exact hl g q
      · exact Nat.le_trans (pts_dep b f g q) (hf f (by simp))
mutual
/-- how many ends and knots -/
def F.lv : F → Nat
  | .e _ _ _ => 1
  | .nt f => f.lv
  | .nd _ fs => F.lvs fs + 1
  | .qn _ _ f => f.lv
def F.lvs : List F → Nat
  | [] => 0
  | f :: fs => f.lv + F.lvs fs
end
theorem lv_pos : ∀ f : F, 1 ≤ f.lv
  | .e _ _ _ => by simp [F.lv]
  | .nt f => by simp only [F.lv]; exact lv_pos f
  | .nd _ fs => by simp [F.lv]
  | .qn _ _ f => by simp only [F.lv]; exact lv_pos f
theorem lvs_len : ∀ l : List F, l.length ≤ F.lvs l
  | [] => by simp [F.lvs]
  | f :: l => by have := lvs_len l; have := lv_pos f; simp only [F.lvs, List.length_cons]; omega
theorem lvs_app (a b : List F) : F.lvs (a ++ b) = F.lvs a + F.lvs b := by
  induction a with
  | nil => simp [F.lvs]
  | cons f r ih => simp only [List.cons_append, F.lvs, ih]; omega
theorem lvs_mem {f : F} : ∀ {l : List F}, f ∈ l → f.lv ≤ F.lvs l
  | g :: l, h => by
    simp only [F.lvs]
    rcases List.mem_cons.mp h with e | h
    · rw [e]; omega
    · have := lvs_mem h; omega
theorem pts_lv (b : Bool) (f : F) : F.lvs (pts b f) ≤ f.lv := by
  cases f with
  | nd c gs =>
    rw [pts_nd]
    by_cases e : c = b
    · rw [if_pos e]; simp only [F.lv]; omega
    · rw [if_neg e]; simp [F.lvs]
  | _ => simp [pts, F.lvs]
theorem foldF_lv : ∀ ps l : List F, F.lvs (ps.foldl putF l) ≤ F.lvs l + F.lvs ps
  | [], l => by simp [F.lvs]
  | p :: ps, l => by
    rw [List.foldl_cons]
    have h1 := foldF_lv ps (putF l p)
    have h2 : F.lvs (putF l p) ≤ F.lvs l + p.lv := by
      unfold putF; split
      · omega
      · rw [lvs_app]; simp [F.lvs]
    simp only [F.lvs]; omega
theorem ofs_lv {b : Bool} : ∀ fs l : List F, (ofs b fs l).lv ≤ F.lvs l + F.lvs fs + 1
  | [], l => by
    unfold ofs
    rcases l with _ | ⟨f, _ | ⟨g, r⟩⟩
    · simp [resF, F.lv, F.lvs]
    · simp only [resF, F.lvs]; omega
    · simp only [resF, F.lv]; omega
  | f :: fs, l => by
    unfold ofs
    split
    · simp only [F.lv, F.lvs]; omega
    · have h1 := ofs_lv (b := b) fs ((pts b f).foldl putF l)
      have h2 := foldF_lv (pts b f) l
      have h3 := pts_lv b f
      simp only [F.lvs]; omega
theorem ptl_le (b : Bool) : ∀ fs : List F, ptl b fs ≤ F.lvs fs
  | [] => by simp [ptl, F.lvs]
  | f :: fs => by
    have h1 := ptl_le b fs
    have h2 := pts_lv b f
    have h3 := lvs_len (pts b f)
    unfold ptl at h1 ⊢
    simp only [List.map_cons, List.sum_cons, F.lvs]; omega
mutual
theorem wid_lv : ∀ f : F, f.wid ≤ f.lv
  | .e _ _ _ => by simp [F.wid]
  | .nt f => by simp only [F.wid, F.lv]; exact wid_lv f
  | .nd _ fs => by
    have h1 := wids_lv fs
    have h2 := lvs_len fs
    simp only [F.wid, F.lv]; omega
  | .qn _ _ f => by simp only [F.wid, F.lv]; exact wid_lv f
theorem wids_lv : ∀ fs : List F, F.wids fs ≤ F.lvs fs
  | [] => by simp [F.wids]
  | f :: fs => by
    have h1 := wids_lv fs
    have h2 := wid_lv f
    simp only [F.wids, F.lvs]; omega
end
mutual
theorem sz_lv {K : Nat} : ∀ f : F, f.all (fun _ _ ps => ps.length ≤ K) → f.sz ≤ K * f.lv
  | .e _ _ ps, h => by simp only [F.sz, F.lv, F.all] at h ⊢; omega
  | .nt f, h => by simp only [F.sz, F.lv, F.all] at h ⊢; exact sz_lv f h
  | .nd _ fs, h => by
    simp only [F.sz, F.lv, F.all] at h ⊢
    have := szs_lv fs h
    rw [Nat.mul_succ]; omega
  | .qn _ _ f, h => by simp only [F.sz, F.lv, F.all] at h ⊢; exact sz_lv f h
theorem szs_lv {K : Nat} : ∀ fs : List F, F.alls (fun _ _ ps => ps.length ≤ K) fs → F.szs fs ≤ K * F.lvs fs
  | [], _ => by simp [F.szs]
  | f :: fs, h => by
    simp only [F.alls, F.szs, F.lvs] at h ⊢
    have h1 := sz_lv f h.1
    have h2 := szs_lv fs h.2
    rw [Nat.mul_add]; omega
end
/-! ### keys and what can be compared -/
mutual
/-- how deep the tuples go -/
def F.kd : F → Nat
  | .e _ _ _ => 4
  | .nt f => f.kd + 1
  | .nd _ fs => F.kds fs + 2
  | .qn _ _ f => f.kd + 9
def F.kds : List F → Nat
  | [] => 0
  | f :: fs => max f.kd (F.kds fs)
end
mutual
theorem kd_dep : ∀ f : F, f.plain = true → f.kd ≤ 2 * f.dep + 2
  | .e _ _ _, _ => by simp [F.kd, F.dep]
  | .nt f, h => by simp only [F.plain] at h; have := kd_dep f h; simp only [F.kd, F.dep]; omega
  | .nd _ fs, h => by simp only [F.plain] at h; have := kds_dep fs h; simp only [F.kd, F.dep]; omega
  | .qn _ _ f, h => by simp [F.plain] at h
theorem kds_dep : ∀ fs : List F, F.plains fs = true → F.kds fs ≤ 2 * F.deps fs + 2
  | [], _ => by simp [F.kds]
  | f :: fs, h => by
    simp only [F.plains, Bool.and_eq_true] at h
    have := kd_dep f h.1
    have := kds_dep fs h.2
    simp only [F.kds, F.deps]; omega
end
theorem keyNs_prs' : ∀ (n : Nat) (ps : Prs), 1 ≤ n → keyNs n (ps.map prT) = true
  | n + 1, ps, _ => keyNs_prs n ps
mutual
theorem keyN_enc : ∀ (f : F) (n : Nat), f.plain = true → f.kd ≤ n → keyN n f.enc = true
  | .e k y ps, n, _, h => by
    simp only [F.kd] at h
    obtain ⟨m, rfl⟩ : ∃ m, n = m + 4 := ⟨n - 4, by omega⟩
    have := keyNs_prs m ps
    cases k <;> simp [F.enc, smT, keyN, keyNs, this]
  | .nt f, n, hp, h => by
    simp only [F.kd, F.plain] at h hp
    obtain ⟨m, rfl⟩ : ∃ m, n = m + 1 := ⟨n - 1, by omega⟩
    have := keyN_enc f m hp (by omega)
    simp [F.enc, keyN, keyNs, this]
  | .nd b fs, n, hp, h => by
    simp only [F.kd, F.plain] at h hp
    obtain ⟨m, rfl⟩ : ∃ m, n = m + 2 := ⟨n - 2, by omega⟩
    have := keyNs_enc fs m hp (by omega)
    simp [F.enc, keyN, keyNs, this]
  | .qn _ _ _, _, hp, _ => by simp [F.plain] at hp
theorem keyNs_enc : ∀ (fs : List F) (n : Nat), F.plains fs = true → F.kds fs ≤ n → keyNs n (F.encs fs) = true
  | [], _, _, _ => by simp [F.encs, keyNs]
  | f :: fs, n, hp, h => by
    simp only [F.kds, F.plains, Bool.and_eq_true] at h hp
    simp [F.encs, keyNs, keyN_enc f n hp.1 (by omega), keyNs_enc fs n hp.2 (by omega)]
end
theorem enc_tup (f : F) : ∃ xs, f.enc = .tup xs := by
  cases f with
  | e k n ps => cases k <;> exact ⟨_, rfl⟩
  | _ => exact ⟨_, rfl⟩
theorem key_f (f : F) (hp : f.plain = true) (h : f.dep ≤ 3) : keyT f.enc = true := by
  have h1 := kd_dep f hp
  have h2 := keyN_enc f 8 hp (by omega)
  obtain ⟨xs, e⟩ := enc_tup f
  rw [e] at h2 ⊢
  exact h2
theorem lay_prs : ∀ ps : Prs, (∀ p ∈ ps, Nm p.1) → PyData.canLayAll0 (toPys (ps.map prT)) = true ∧ PyData.depthAll (toPys (ps.map prT)) ≤ 3
  | [], _ => by simp [toPys, PyData.canLayAll0, PyData.depthAll]
  | p :: ps, h => by
    obtain ⟨i1, i2⟩ := lay_prs ps fun q hq => h q (List.mem_cons_of_mem _ hq)
    simp only [List.map_cons, prT, toPys, toPy, PyData.canLayAll0, PyData.canLay0, PyData.depthAll, PyData.depth, strOk_nm (h p (by simp)), i1, Bool.and_self, true_and]
    omega
theorem ok_above : PyData.strOk ("above" : Str) = true := by decide +kernel
theorem ok_nought : PyData.strOk ("nought" : Str) = true := by decide +kernel
theorem ok_goes : PyData.strOk ("goes" : Str) = true := by decide +kernel
theorem ok_not : PyData.strOk ("not" : Str) = true := by decide +kernel
theorem ok_and : PyData.strOk ("and" : Str) = true := by decide +kernel
theorem ok_or : PyData.strOk ("or" : Str) = true := by decide +kernel
mutual
theorem lay_enc : ∀ f : F, f.plain = true → f.all (fun _ _ ps => ∀ p ∈ ps, Nm p.1) → PyData.canLay0 (toPy f.enc) = true ∧ PyData.depth (toPy f.enc) ≤ 2 * f.dep + 6
  | .e k n ps, _, h => by
    simp only [F.all] at h
    obtain ⟨i1, i2⟩ := lay_prs ps h
    cases k <;> simp only [F.enc, smT, toPys, toPy, PyData.canLayAll0, PyData.canLay0, PyData.depthAll, PyData.depth, ok_above, ok_nought, ok_goes, i1, Bool.and_self, true_and, F.dep] <;> omega
  | .nt f, hp, h => by
    simp only [F.all, F.plain] at h hp
    obtain ⟨i1, i2⟩ := lay_enc f hp h
    simp only [F.enc, toPys, toPy, PyData.canLayAll0, PyData.canLay0, PyData.depthAll, PyData.depth, ok_not, i1, Bool.and_self, true_and, F.dep]
    omega
  | .nd b fs, hp, h => by
    simp only [F.all, F.plain] at h hp
    obtain ⟨i1, i2⟩ := lays_enc fs hp h
    cases b <;> simp only [F.enc, bw_t, bw_f, toPys, toPy, PyData.canLayAll0, PyData.canLay0, PyData.depthAll, PyData.depth, ok_and, ok_or, i1, Bool.and_self, true_and, F.dep] <;> omega
  | .qn _ _ _, hp, _ => by simp [F.plain] at hp
theorem lays_enc : ∀ fs : List F, F.plains fs = true → F.alls (fun _ _ ps => ∀ p ∈ ps, Nm p.1) fs → PyData.canLayAll0 (toPys (F.encs fs)) = true ∧ PyData.depthAll (toPys (F.encs fs)) ≤ 2 * F.deps fs + 6
  | [], _, _ => by simp [F.encs, toPys, PyData.canLayAll0, PyData.depthAll]
  | f :: fs, hp, h => by
    simp only [F.alls, F.plains, Bool.and_eq_true] at h hp
    obtain ⟨i1, i2⟩ := lay_enc f hp.1 h.1
    obtain ⟨j1, j2⟩ := lays_enc fs hp.2 h.2
    simp only [F.encs, toPys, PyData.canLayAll0, PyData.depthAll, i1, j1, Bool.and_self, true_and, F.deps]
    omega
end
theorem shp_f (f : F) (hp : f.plain = true) (h : f.all (fun _ _ ps => ∀ p ∈ ps, Nm p.1)) (hd : f.dep ≤ 25) : Shp f := by
  obtain ⟨i1, i2⟩ := lay_enc f hp h
  unfold Shp SeqAt.shaped
  rw [i1, decide_eq_true (Nat.le_trans i2 (by omega))]; rfl
theorem shp_prs (ps : Prs) (h : ∀ p ∈ ps, Nm p.1) : SeqAt.shaped (toPy (.tup (ps.map prT))) = true := by
  obtain ⟨i1, i2⟩ := lay_prs ps h
  unfold SeqAt.shaped
  have e1 : PyData.canLay0 (toPy (.tup (ps.map prT))) = true := by simp only [toPy, PyData.canLay0]; exact i1
  have e2 : PyData.depth (toPy (.tup (ps.map prT))) ≤ 64 := by simp only [toPy, PyData.depth]; omega
  rw [e1, decide_eq_true e2]; rfl
theorem ne_prs_nil (ps : Prs) (h : ∀ p ∈ ps, Nm p.1) : neD (.t (.tup (ps.map prT))) (.t (.tup [])) = .ok (.t (.bl (!decide (ps = [])))) := by
  have h1 := shp_prs ps h
  have h2 : SeqAt.shaped (toPy (.tup [])) = true := by decide +kernel
  have h3 : eqS (.tup (ps.map prT)) (.tup []) = none := rfl
  have h4 : PyData.eqv (toPy (.tup (ps.map prT))) (toPy (.tup [])) = decide (ps = []) := by
    cases ps <;> simp [toPy, toPys, PyData.eqv, PyData.eqvAll]
  simp only [neD, eqB, h3, h1, h2, Bool.and_self, if_true, h4]
end Pf

set_option Elab.async false
set_option linter.all false
set_option maxRecDepth 100000
set_option maxHeartbeats 4000000
namespace Pf
open PySem L2
/-! ## decided, filled, far_below -/
def dec (k : EK) (n : Int) (ps : Prs) : F := if ps = [] then .nd ((F.e k n []).tv fun _ => 0) [] else .e k n ps
theorem dec_ok {P : EK → Int → Prs → Prop} (k : EK) (n : Int) (ps : Prs) (h : P k n ps) (hk : k ≠ .nought) : (dec k n ps).str = true ∧ (dec k n ps).all P ∧ (dec k n ps).dep ≤ 1 ∧ (dec k n ps).lv ≤ 1 ∧ ∀ v, (dec k n ps).tv v = (F.e k n ps).tv v := by
  unfold dec
  by_cases e : ps = []
  · subst e
    rw [if_pos rfl]
    refine ⟨by simp [F.str, F.strs], by simp only [F.all, F.alls], by simp [F.dep, F.deps], by simp [F.lv, F.lvs], fun v => ?_⟩
    have e2 : (F.e k n []).tv v = (F.e k n []).tv fun _ => 0 := by simp only [F.tv, sv]
    rw [e2]
    cases (F.e k n []).tv fun _ => 0 <;> simp [F.tv, F.tvA, F.tvO]
  · rw [if_neg e]
    refine ⟨?_, by simpa only [F.all] using h, by simp [F.dep], by simp [F.lv], fun v => rfl⟩
    cases k with
    | nought => exact absurd rfl hk
    | _ => rfl
theorem decided_eq (k : EK) (n : Int) (ps : Prs) (h : ∀ p ∈ ps, Nm p.1) (hg : ∀ z, k = .goes z → 1 ≤ z) : m_decided [.t (F.e k n ps).enc] = .ok (.t (dec k n ps).enc) := by
  have h1 := ne_prs_nil ps h
  have hlast : ∀ ρ : Ev, rdE 0 ρ = .ok (.t (F.e k n ps).enc) → b2 ixD (b2 ixD (rdE 0) (u1 negD (kI 1))) (kI 1) ρ = .ok (.t (.tup (ps.map prT))) := by
    intro ρ h0
    cases k <;> simp [h0, F.enc]
  unfold m_decided g_decided
  rw [runDef_Rt]
  simp only [List.map_cons, List.map_nil, List.cons_append, List.nil_append, un_0]
  have hl := hlast [.d (.t (F.e k n ps).enc) false] rfl
  have hc : tV (b2 neD (b2 ixD (b2 ixD (rdE 0) (u1 negD (kI 1))) (kI 1)) (ap mkTup nA)) [.d (.t (F.e k n ps).enc) false] = .ok (!decide (ps = [])) := by
    unfold tV
    rw [b2, hl]
    simp [h1]
  unfold dec
  by_cases e : ps = []
  · rw [if_pos e]
    rw [decide_eq_true e] at hc
    have ht := truth_eq [] 60 (.e k n ps) (by simp [F.dep]) rfl (by simp only [F.all]; rw [e]; exact ⟨by simp, hg⟩) (by simp only [F.all]; rw [e]; intro p hp; simp at hp)
    have e2 : (F.e k n ps).tv (vl []) = (F.e k n []).tv fun _ => 0 := by rw [e]; simp only [F.tv, sv]
    rw [e2] at ht
    refine (Rt_seq (by unfold ifO; rw [hc]; rfl)).trans ?_
    cases q : (F.e k n []).tv fun _ => 0 <;> rw [q] at ht <;> simp [ht, kD, t_YES_B, t_NO_B, tB_enc]
  · rw [if_neg e]
    rw [decide_eq_false e] at hc
    have : ∀ T : Ev → R Out, Rt (seqO (ifO (tV (b2 neD (b2 ixD (b2 ixD (rdE 0) (u1 negD (kI 1))) (kI 1)) (ap mkTup nA))) (retN 0) nxO) T [.d (.t (F.e k n ps).enc) false]) = .ok (.t (F.e k n ps).enc) := fun T => by
      unfold seqO ifO
      rw [hc]
      simp [retN]
    simpa using this _
noncomputable def neg (g : F) : F := if g = .nd true [] then .nd false [] else if g = .nd false [] then .nd true [] else .nt g
mutual
noncomputable def F.fil (x : Str) (m : Int) (qs : Prs) : F → F
  | .e k n ps => dec k (pin x m qs n ps).1 (pin x m qs n ps).2
  | .nt f => neg (f.fil x m qs)
  | .nd b fs => ofs b (F.fils x m qs fs) []
  | .qn b y f => .qn b y f
noncomputable def F.fils (x : Str) (m : Int) (qs : Prs) : List F → List F
  | [] => []
  | f :: fs => f.fil x m qs :: F.fils x m qs fs
end
theorem fils_map (x : Str) (m : Int) (qs : Prs) : ∀ fs : List F, F.fils x m qs fs = fs.map (F.fil x m qs)
  | [] => by simp [F.fils]
  | f :: fs => by simp [F.fils, fils_map x m qs fs]
/-- an end behind the filling -/
def Go (N : List Str) (x : Str) (k : EK) (_ : Int) (ps : Prs) : Prop := Rg N ps ∧ (∀ p ∈ ps, p.2.natAbs ≤ 300000) ∧ (∀ h, k = .goes h → 1 ≤ h) ∧ ∀ p ∈ ps, p.1 ≠ x
/-- a sum to be put in -/
structure Qs (N : List Str) (x : Str) (qs : Prs) : Prop where
  mem : ∀ p ∈ qs, p.1 ∈ N
  nx : ∀ p ∈ qs, p.1 ≠ x
  tl : ∀ s, (tot s qs).natAbs ≤ 100001
  ml : ∀ p ∈ qs, p.2.natAbs ≤ 1000000
  len : qs.length ≤ 10
theorem tot_nx {x : Str} : ∀ {qs : Prs}, (∀ p ∈ qs, p.1 ≠ x) → tot x qs = 0
  | [], _ => rfl
  | p :: r, h => by
    have h1 := h p (by simp)
    simp only [tot, if_neg h1, tot_nx fun q hq => h q (List.mem_cons_of_mem _ hq)]; rfl
theorem pin_go {N : List Str} {x : Str} {m n : Int} {qs ps : Prs} {L : Int} {k : EK} (hd : N.Nodup) (hq : Qs N x qs) (h : Ln N x L k n ps) : Go N x k (pin x m qs n ps).1 (pin x m qs n ps).2 := by
  obtain ⟨h1, h2, h3, h4⟩ := h
  have hov := pin_over x m n qs ps
  have hval : ∀ p ∈ (pin x m qs n ps).2, pg x qs ps p.1 ≠ 0 ∧ p.2 = pg x qs ps p.1 ∧ (p.1 ∈ ps.map (·.1) ∨ p.1 ∈ qs.map (·.1)) := fun p hp => by
    rw [hov] at hp
    obtain ⟨s, hs, rfl⟩ := List.mem_map.mp hp
    obtain ⟨s1, s2⟩ := List.mem_filter.mp hs
    rw [(srtS_perm _).mem_iff, onceS_mem, List.mem_append] at s1
    exact ⟨by simpa using s2, rfl, s1⟩
  refine ⟨?_, fun p hp => ?_, fun z e => (h4 z e).1, fun p hp => ?_⟩
  · show Rg N (norm _)
    refine rg_norm hd fun p hp => ?_
    rcases List.mem_append.mp hp with q | q
    · exact h1.mem p (List.mem_filter.mp q).1
    · have := norm_mem q
      rw [List.map_map] at this
      obtain ⟨r, hr, e⟩ := List.mem_map.mp this
      rw [← e]; exact hq.mem r hr
  · obtain ⟨_, e, _⟩ := hval p hp
    rw [e]
    unfold pg
    have t1 := tot_le h1 hd h2 p.1
    have t2 := hq.tl p.1
    have t3 : (tot x ps * tot p.1 qs).natAbs ≤ 100001 := by
      rcases h3 with q | q | q <;> rw [q] <;> omega
    split <;> omega
  · obtain ⟨e, _, _⟩ := hval p hp
    intro hx
    rw [hx] at e
    unfold pg at e
    rw [if_pos rfl, tot_nx hq.nx] at e
    simp at e
theorem pin_sv {x : Str} {m n : Int} {qs ps : Prs} (v : Str → Int) : (pin x m qs n ps).1 + sv v (pin x m qs n ps).2 = n + sv (up v x (m + sv v qs)) ps := by
  unfold pin
  show n + tot x ps * m + sv v (norm _) = _
  rw [sv_norm, sv_app, sv_norm, sv_scale, sv_up, Int.mul_add]
  show n + tot x ps * m + (sv v (wo x ps) + _) = _
  omega
theorem neg_tv (g : F) (v : Str → Int) : (neg g).tv v = !g.tv v := by
  unfold neg
  split
  · rename_i e; rw [e]; simp [F.tv, F.tvA, F.tvO]
  · split
    · rename_i e; rw [e]; simp [F.tv, F.tvA, F.tvO]
    · simp only [F.tv]
theorem neg_dec {P : EK → Int → Prs → Prop} (z n : Int) (ps : Prs) (h : P (.goes z) n ps) : (neg (dec (.goes z) n ps)).str = true ∧ (neg (dec (.goes z) n ps)).all P ∧ (neg (dec (.goes z) n ps)).dep ≤ 2 ∧ (neg (dec (.goes z) n ps)).lv ≤ 1 := by
  unfold neg
  split
  · exact ⟨by simp [F.str, F.strs], by simp only [F.all, F.alls], by simp [F.dep, F.deps], by simp [F.lv, F.lvs]⟩
  · split
    · exact ⟨by simp [F.str, F.strs], by simp only [F.all, F.alls], by simp [F.dep, F.deps], by simp [F.lv, F.lvs]⟩
    · rename_i h1 h2
      have : dec (.goes z) n ps = .e (.goes z) n ps := by
        unfold dec at h1 h2 ⊢
        split
        · rename_i e
          rw [if_pos e] at h1 h2
          cases q : (F.e (.goes z) n []).tv fun _ => 0 <;> rw [q] at h1 h2 <;> simp at h1 h2
        · rfl
      rw [this]
      exact ⟨rfl, by simpa only [F.all] using h, by simp [F.dep], by simp [F.lv]⟩
mutual
theorem fil_ok {N : List Str} {x : Str} {m : Int} {qs : Prs} {L : Int} (hd : N.Nodup) (hq : Qs N x qs) : ∀ f : F, f.str = true → f.all (Ln N x L) → (f.fil x m qs).str = true ∧ (f.fil x m qs).all (Go N x) ∧ (f.fil x m qs).dep ≤ f.dep ∧ (f.fil x m qs).lv ≤ f.lv ∧ ∀ v, (f.fil x m qs).tv v = f.tv (up v x (m + sv v qs))
  | .e .above n ps, _, ha => by
    simp only [F.all] at ha
    obtain ⟨d1, d2, d3, d4, d5⟩ := dec_ok .above _ _ (pin_go (m := m) hd hq ha) (by simp)
    simp only [F.fil, F.dep, F.lv]
    exact ⟨d1, d2, d3, d4, fun v => by rw [d5]; simp only [F.tv, pin_sv]⟩
  | .e .nought _ _, hs, _ => by simp [F.str] at hs
  | .e (.goes z) n ps, _, ha => by
    simp only [F.all] at ha
    obtain ⟨d1, d2, d3, d4, d5⟩ := dec_ok (.goes z) _ _ (pin_go (m := m) hd hq ha) (by simp)
    simp only [F.fil, F.dep, F.lv]
    exact ⟨d1, d2, d3, d4, fun v => by rw [d5]; simp only [F.tv, pin_sv]⟩
  | .nt (.e (.goes z) n ps), _, ha => by
    simp only [F.all] at ha
    have hg := pin_go (m := m) hd hq ha
    obtain ⟨d1, d2, d3, d4⟩ := neg_dec z _ _ hg
    obtain ⟨_, _, _, _, d5⟩ := dec_ok (.goes z) _ _ hg (by simp)
    simp only [F.fil, F.dep, F.lv]
    exact ⟨d1, d2, d3, d4, fun v => by rw [neg_tv, d5]; simp only [F.tv, pin_sv]⟩
  | .nt (.e .above _ _), hs, _ => by simp [F.str] at hs
  | .nt (.e .nought _ _), hs, _ => by simp [F.str] at hs
  | .nt (.nt _), hs, _ => by simp [F.str] at hs
  | .nt (.nd _ _), hs, _ => by simp [F.str] at hs
  | .nt (.qn _ _ _), hs, _ => by simp [F.str] at hs
  | .nd b fs, hs, ha => by
    simp only [F.str, F.all] at hs ha
    obtain ⟨h1, h2, h3⟩ := fils_ok hd hq fs hs ha
    simp only [F.fil]
    refine ⟨ofs_str fun g hg => (h1 g hg).1, ofs_all fun g hg => (h1 g hg).2.1, ?_, ?_, fun v => ?_⟩
    · have := ofs_dep (b := b) (D := F.deps fs) (F.fils x m qs fs) [] (fun g hg => (h1 g hg).2.2) (by simp)
      simp only [F.dep]; omega
    · have := ofs_lv (b := b) (F.fils x m qs fs) []
      simp only [F.lvs] at this
      simp only [F.lv]; omega
    · rw [Bool.eq_iff_iff]
      obtain ⟨t1, t2⟩ := h3 v
      cases b with
      | true => rw [ofs_t, t1]; simp only [F.tv]; simp
      | false => rw [ofs_f, t2]; simp only [F.tv]; simp
  | .qn _ _ _, hs, _ => by simp [F.str] at hs
theorem fils_ok {N : List Str} {x : Str} {m : Int} {qs : Prs} {L : Int} (hd : N.Nodup) (hq : Qs N x qs) : ∀ fs : List F, F.strs fs = true → F.alls (Ln N x L) fs → (∀ g ∈ F.fils x m qs fs, g.str = true ∧ g.all (Go N x) ∧ g.dep ≤ F.deps fs) ∧ F.lvs (F.fils x m qs fs) ≤ F.lvs fs ∧ ∀ v, ((∀ g ∈ F.fils x m qs fs, g.tv v = true) ↔ F.tvA (up v x (m + sv v qs)) fs = true) ∧ ((∃ g ∈ F.fils x m qs fs, g.tv v = true) ↔ F.tvO (up v x (m + sv v qs)) fs = true)
  | [], _, _ => by simp [F.fils, F.lvs, F.tvA, F.tvO]
  | f :: fs, hs, ha => by
    simp only [F.strs, Bool.and_eq_true, F.alls] at hs ha
    obtain ⟨a1, a2, a3, a4, a5⟩ := fil_ok (m := m) hd hq f hs.1 ha.1
    obtain ⟨b1, b2, b3⟩ := fils_ok (m := m) hd hq fs hs.2 ha.2
    simp only [F.fils, F.lvs, F.deps, F.tvA, F.tvO]
    refine ⟨fun g hg => ?_, by omega, fun v => ?_⟩
    · rcases List.mem_cons.mp hg with e | hg
      · rw [e]; exact ⟨a1, a2, by omega⟩
      · obtain ⟨c1, c2, c3⟩ := b1 g hg
        exact ⟨c1, c2, by omega⟩
    · obtain ⟨t1, t2⟩ := b3 v
      rw [Bool.and_eq_true, Bool.or_eq_true, ← a5 v, ← t1, ← t2]
      simp
end
/-- names that can be compared -/
theorem go_nm {N : List Str} {x : Str} {f : F} (hN : ∀ s ∈ N, Nm s) (h : f.all (Go N x)) : f.all (fun _ _ ps => ∀ p ∈ ps, Nm p.1) := all_mono (fun k n ps q p hp => hN _ (q.1.mem p hp)) f h
theorem fold_ok {N : List Str} {x : Str} {g : F} (hN : ∀ s ∈ N, Nm s) (h1 : g.str = true) (h2 : g.all (fun _ _ ps => ∀ p ∈ ps, Nm p.1)) (h3 : g.dep ≤ 3) (b : Bool) : Shp g ∧ ∀ p ∈ pts b g, keyT p.enc = true := by
  refine ⟨shp_f g (str_plain g h1) h2 (by omega), fun p hp => ?_⟩
  have hs : p.str = true := pts_sub (fun f => f.str = true) (fun c gs q => by simp only [F.str] at q; exact (strs_iff gs).mp q) b g h1 p hp
  exact key_f p (str_plain p hs) (Nat.le_trans (pts_dep b g p hp) h3)
theorem filled_eq (w : World) {N : List Str} {x : Str} {m : Int} {qs : Prs} {L : Int} (hd : N.Nodup) (hN : ∀ s ∈ N, Nm s) (hNl : N.length < 10) (hq : Qs N x qs) : ∀ (n : Nat) (f : F), f.dep ≤ n → f.dep ≤ 3 → f.str = true → f.all (Ln N x L) → f.lv < 100000 → m_filled w n [.t f.enc, .t (.str x), .t (smT m qs)] = .ok (.t (f.fil x m qs).enc)
  | 0, f, h, _, _, _, _ => by cases f <;> simp [F.dep] at h
  | n + 1, f, h, h3, hs, ha, hl => by
    have hend : ∀ (k : EK) (y : Int) (ps : Prs), Ln N x L k y ps → m_put_in [.t (smT y ps), .t (.str x), .t (smT m qs)] = .ok (.t (smT (pin x m qs y ps).1 (pin x m qs y ps).2)) := fun k y ps q => by
      obtain ⟨q1, q2, q3, q4⟩ := q
      have hlen := rg_len q1
      have hql := hq.len
      have hv := vl_tot (q1.nodup hd) x
      have hnl := norm_len (qs.map fun p => (p.1, vl ps x * p.2))
      rw [List.length_map] at hnl
      have := put_in_eq y m x ps qs (by omega) (by omega) (by rw [hv]; exact mulOk_l (by omega) (by omega)) (fun p hp => by rw [hv]; exact mulOk_l (by omega) (by omega))
      rw [hv] at this
      exact this
    unfold m_filled g_filled
    rw [runDef_Rt]
    cases f with
    | e k y ps =>
      simp only [F.all] at ha
      have hp := hend k y ps ha
      have hg := pin_go (m := m) hd hq ha
      have hdc := decided_eq k (pin x m qs y ps).1 (pin x m qs y ps).2 (fun p hp => hN _ (hg.1.mem p hp)) hg.2.2.1
      cases k with
      | nought => simp [F.str] at hs
      | above =>
        simp only [F.enc] at hdc
        simp [F.enc, F.fil, hp, hdc]
      | goes z =>
        simp only [F.enc] at hdc
        simp [F.enc, F.fil, hp, hdc]
    | nt f =>
      simp only [F.dep, F.all, F.lv] at h h3 ha hl
      cases f with
      | e k y ps =>
        cases k with
        | goes z =>
          have ih := filled_eq w (m := m) hd hN hNl hq n (.e (.goes z) y ps) (by omega) (by omega) rfl ha (by omega)
          obtain ⟨d1, d2, d3, d4, d5⟩ := fil_ok (m := m) hd hq (.e (.goes z) y ps) rfl ha
          have hsh : Shp (dec (.goes z) (pin x m qs y ps).1 (pin x m qs y ps).2) := (fold_ok (x := x) hN d1 (go_nm hN d2) (by simp only [F.dep] at d3; omega) true).1
          have e1 := eq_B true (dec (.goes z) (pin x m qs y ps).1 (pin x m qs y ps).2) hsh
          have e2 := eq_B false (dec (.goes z) (pin x m qs y ps).1 (pin x m qs y ps).2) hsh
          simp only [F.fil, F.enc] at ih ⊢
          unfold neg
          by_cases c1 : (dec (.goes z) (pin x m qs y ps).1 (pin x m qs y ps).2) = .nd true []
          · rw [decide_eq_true c1] at e1
            rw [if_pos c1]
            simp [ih, e1, t_YES_B, t_NO_B, ← tB_enc]
          · rw [decide_eq_false c1] at e1
            rw [if_neg c1]
            by_cases c2 : (dec (.goes z) (pin x m qs y ps).1 (pin x m qs y ps).2) = .nd false []
            · rw [decide_eq_true c2] at e2
              rw [if_pos c2]
              simp [ih, e1, e2, t_YES_B, t_NO_B, ← tB_enc]
            · rw [decide_eq_false c2] at e2
              rw [if_neg c2]
              simp [ih, e1, e2, t_YES_B, t_NO_B, F.enc]
        | above => simp [F.str] at hs
        | nought => simp [F.str] at hs
      | nt f => simp [F.str] at hs
      | nd b fs => simp [F.str] at hs
      | qn b z f => simp [F.str] at hs
    | qn b z f => simp [F.str] at hs
    | nd b fs =>
      simp only [F.dep, F.all, F.str, F.lv] at h h3 ha hl hs
      obtain ⟨i1, i2, i3⟩ := fils_ok (m := m) hd hq fs hs ha
      have hlen := lvs_len fs
      have hlc : ∀ ρ : Ev, (∀ z o, rdE 5 (ρ.set 5 (.d z o)) = .ok z) → (∀ z o, rdE 1 (ρ.set 5 (.d z o)) = .ok (.t (.str x))) → (∀ z o, rdE 2 (ρ.set 5 (.d z o)) = .ok (.t (smT m qs))) → lcR 5 yes (ap (m_filled w n) (cA (rdE 5) (cA (rdE 1) (cA (rdE 2) nA)))) ρ (F.encs fs) = .ok ((F.fils x m qs fs).map F.enc) := by
        intro ρ r5 r1 r2
        rw [encs_map, fils_map, List.map_map]
        have := lcR_map (j := 5) (c := yes) (el := ap (m_filled w n) (cA (rdE 5) (cA (rdE 1) (cA (rdE 2) nA)))) (ρ := ρ) F.enc (fun _ => true) (F.enc ∘ F.fil x m qs) fs (fun f hf => ⟨rfl, fun _ => by
          have hdm := deps_mem hf
          have hlm := lvs_mem hf
          have := filled_eq w (m := m) hd hN hNl hq n f (by omega) (by omega) ((strs_iff fs).mp hs f hf) ((alls_iff fs).mp ha f hf) (by omega)
          simp only [ap, cA, nA, r5, r1, r2, R.ok_bind, this]; rfl⟩)
        have ef : fs.filter (fun _ => true) = fs := by simp
        rw [ef] at this
        exact this
      have hlc' := hlc [.d (.t (F.enc (.nd b fs))) false, .d (.t (.str x)) false, .d (.t (smT m qs)) false, .d (.t (.str (bw b))) true, .un, .un] (fun z o => rfl) (fun z o => rfl) (fun z o => rfl)
      have hel : (F.encs fs).length ≤ 16777216 := by rw [encs_len]; omega
      have hfo : ∀ g ∈ F.fils x m qs fs, Shp g ∧ ∀ p ∈ pts b g, keyT p.enc = true := fun g hg => by
        obtain ⟨j1, j2, j3⟩ := i1 g hg
        exact fold_ok (x := x) hN j1 (go_nm hN j2) (by omega) b
      have hpt := ptl_le b (F.fils x m qs fs)
      simp only [F.enc] at hlc'
      cases b with
      | true =>
        have ho := all_of_eq w (F.fils x m qs fs) hfo (by omega)
        simp [F.enc, F.fil, hel] at hlc' ⊢
        simp [hlc', ho]
      | false =>
        have ho := one_of_eq w (F.fils x m qs fs) hfo (by omega)
        simp [F.enc, F.fil, hel] at hlc' ⊢
        simp [hlc', ho]
end Pf

set_option Elab.async false
set_option linter.all false
set_option maxRecDepth 100000
set_option maxHeartbeats 4000000
namespace Pf
open PySem L2
/-! ## far_below -/
mutual
noncomputable def F.far (x : Str) : F → F
  | .e .above n ps => if tot x ps = 1 then .nd false [] else if tot x ps = -1 then .nd true [] else .e .above n ps
  | .e .nought n ps => .e .nought n ps
  | .e (.goes h) n ps => .e (.goes h) n ps
  | .nt f => .nt f
  | .nd b fs => ofs b (F.fars x fs) []
  | .qn b y f => .qn b y f
noncomputable def F.fars (x : Str) : List F → List F
  | [] => []
  | f :: fs => f.far x :: F.fars x fs
end
theorem fars_map (x : Str) : ∀ fs : List F, F.fars x fs = fs.map (F.far x)
  | [] => by simp [F.fars]
  | f :: fs => by simp [F.fars, fars_map x fs]
abbrev Fr (P : EK → Int → Prs → Prop) (x : Str) (k : EK) (n : Int) (ps : Prs) : Prop := P k n ps ∧ (k = .above → tot x ps = 0)
mutual
theorem far_ok {P : EK → Int → Prs → Prop} {x : Str} (hP : ∀ k n ps, P k n ps → tot x ps = 0 ∨ tot x ps = 1 ∨ tot x ps = -1) : ∀ f : F, f.str = true → f.all P → (f.far x).str = true ∧ (f.far x).all (Fr P x) ∧ (f.far x).dep ≤ f.dep ∧ (f.far x).lv ≤ f.lv ∧ ∀ v y, (∀ b ∈ f.lows v x, y ≤ b) → (∀ b ∈ f.highs v x, y < b) → (f.far x).tv (up v x y) = f.tv (up v x y)
  | .e .above n ps, _, ha => by
    simp only [F.all] at ha
    simp only [F.far]
    rcases hP _ _ _ ha with q | q | q
    · rw [if_neg (by omega), if_neg (by omega)]
      refine ⟨rfl, by simp only [F.all]; exact ⟨ha, fun _ => q⟩, Nat.le_refl _, Nat.le_refl _, fun v y _ _ => rfl⟩
    · rw [if_pos q]
      refine ⟨by simp [F.str, F.strs], by simp only [F.all, F.alls], by simp [F.dep, F.deps], by simp [F.lv, F.lvs], fun v y hl _ => ?_⟩
      have := hl (-rst v x n ps) (by simp [F.lows, q])
      simp only [F.tv, F.tvO, ek, val_up]
      rw [q, decide_eq_false (by omega)]
    · rw [if_neg (by omega), if_pos q]
      refine ⟨by simp [F.str, F.strs], by simp only [F.all, F.alls], by simp [F.dep, F.deps], by simp [F.lv, F.lvs], fun v y _ hh => ?_⟩
      have := hh (rst v x n ps) (by simp [F.highs, q])
      simp only [F.tv, F.tvA, ek, val_up]
      rw [q, decide_eq_true (by omega)]
  | .e .nought _ _, hs, _ => by simp [F.str] at hs
  | .e (.goes z) n ps, _, ha => by
    simp only [F.all] at ha
    simp only [F.far]
    exact ⟨rfl, by simp only [F.all]; exact ⟨ha, fun e => by cases e⟩, Nat.le_refl _, Nat.le_refl _, fun v y _ _ => trivial⟩
  | .nt (.e (.goes z) n ps), _, ha => by
    simp only [F.all] at ha
    simp only [F.far]
    exact ⟨rfl, by simp only [F.all]; exact ⟨ha, fun e => by cases e⟩, Nat.le_refl _, Nat.le_refl _, fun v y _ _ => trivial⟩
  | .nt (.e .above _ _), hs, _ => by simp [F.str] at hs
  | .nt (.e .nought _ _), hs, _ => by simp [F.str] at hs
  | .nt (.nt _), hs, _ => by simp [F.str] at hs
  | .nt (.nd _ _), hs, _ => by simp [F.str] at hs
  | .nt (.qn _ _ _), hs, _ => by simp [F.str] at hs
  | .nd b fs, hs, ha => by
    simp only [F.str, F.all] at hs ha
    obtain ⟨h1, h2, h3⟩ := fars_ok hP fs hs ha
    simp only [F.far, F.lows, F.highs]
    refine ⟨ofs_str fun g hg => (h1 g hg).1, ofs_all fun g hg => (h1 g hg).2.1, ?_, ?_, fun v y hl hh => ?_⟩
    · have := ofs_dep (b := b) (D := F.deps fs) (F.fars x fs) [] (fun g hg => (h1 g hg).2.2) (by simp)
      simp only [F.dep]; omega
    · have := ofs_lv (b := b) (F.fars x fs) []
      simp only [F.lvs] at this
      simp only [F.lv]; omega
    · rw [Bool.eq_iff_iff]
      obtain ⟨t1, t2⟩ := h3 v y hl hh
      cases b with
      | true => rw [ofs_t, t1]; simp only [F.tv]; simp
      | false => rw [ofs_f, t2]; simp only [F.tv]; simp
  | .qn _ _ _, hs, _ => by simp [F.str] at hs
theorem fars_ok {P : EK → Int → Prs → Prop} {x : Str} (hP : ∀ k n ps, P k n ps → tot x ps = 0 ∨ tot x ps = 1 ∨ tot x ps = -1) : ∀ fs : List F, F.strs fs = true → F.alls P fs → (∀ g ∈ F.fars x fs, g.str = true ∧ g.all (Fr P x) ∧ g.dep ≤ F.deps fs) ∧ F.lvs (F.fars x fs) ≤ F.lvs fs ∧ ∀ v y, (∀ b ∈ F.lowss v x fs, y ≤ b) → (∀ b ∈ F.highss v x fs, y < b) → ((∀ g ∈ F.fars x fs, g.tv (up v x y) = true) ↔ F.tvA (up v x y) fs = true) ∧ ((∃ g ∈ F.fars x fs, g.tv (up v x y) = true) ↔ F.tvO (up v x y) fs = true)
  | [], _, _ => by simp [F.fars, F.lvs, F.tvA, F.tvO]
  | f :: fs, hs, ha => by
    simp only [F.strs, Bool.and_eq_true, F.alls] at hs ha
    obtain ⟨a1, a2, a3, a4, a5⟩ := far_ok hP f hs.1 ha.1
    obtain ⟨b1, b2, b3⟩ := fars_ok hP fs hs.2 ha.2
    simp only [F.fars, F.lvs, F.deps, F.tvA, F.tvO, F.lowss, F.highss, List.mem_append]
    refine ⟨fun g hg => ?_, by omega, fun v y hl hh => ?_⟩
    · rcases List.mem_cons.mp hg with e | hg
      · rw [e]; exact ⟨a1, a2, by omega⟩
      · obtain ⟨c1, c2, c3⟩ := b1 g hg
        exact ⟨c1, c2, by omega⟩
    · obtain ⟨t1, t2⟩ := b3 v y (fun b hb => hl b (.inr hb)) (fun b hb => hh b (.inr hb))
      rw [Bool.and_eq_true, Bool.or_eq_true, ← a5 v y (fun b hb => hl b (.inl hb)) (fun b hb => hh b (.inl hb)), ← t1, ← t2]
      simp
end
theorem ln_nm {N : List Str} {x : Str} {L : Int} {f : F} (hN : ∀ s ∈ N, Nm s) (h : f.all (Ln N x L)) : f.all (fun _ _ ps => ∀ p ∈ ps, Nm p.1) := all_mono (fun k n ps q p hp => hN _ (q.1.mem p hp)) f h
theorem far_eq (w : World) {N : List Str} {x : Str} {L : Int} (hd : N.Nodup) (hN : ∀ s ∈ N, Nm s) : ∀ (n : Nat) (f : F), f.dep ≤ n → f.dep ≤ 3 → f.str = true → f.all (Ln N x L) → f.lv < 100000 → m_far_below w n [.t f.enc, .t (.str x)] = .ok (.t (f.far x).enc)
  | 0, f, h, _, _, _, _ => by cases f <;> simp [F.dep] at h
  | n + 1, f, h, h3, hs, ha, hl => by
    unfold m_far_below g_far_below
    rw [runDef_Rt]
    cases f with
    | e k y ps =>
      simp only [F.all] at ha
      have hv := share_eq y x ps
      rw [vl_tot (ha.1.nodup hd)] at hv
      cases k with
      | nought => simp [F.str] at hs
      | above =>
        simp only [F.far]
        rcases ha.2.2.1 with q | q | q
        · rw [if_neg (by omega), if_neg (by omega)]
          rw [q] at hv
          simp [F.enc, hv]
        · rw [if_pos q]
          rw [q] at hv
          simp [F.enc, hv, t_NO_B, tB, F.encs]
        · rw [if_neg (by omega), if_pos q]
          rw [q] at hv
          simp [F.enc, hv, t_YES_B, tB, F.encs]
      | goes z => simp [F.enc, F.far, retN]
    | nt f => simp [F.enc, F.far, retN]
    | qn b z f => simp [F.str] at hs
    | nd b fs =>
      simp only [F.dep, F.all, F.str, F.lv] at h h3 ha hl hs
      obtain ⟨i1, i2, i3⟩ := fars_ok (P := Ln N x L) (x := x) (fun k n ps q => q.2.2.1) fs hs ha
      have hlen := lvs_len fs
      have hlc : ∀ ρ : Ev, (∀ z o, rdE 3 (ρ.set 3 (.d z o)) = .ok z) → (∀ z o, rdE 1 (ρ.set 3 (.d z o)) = .ok (.t (.str x))) → lcR 3 yes (ap (m_far_below w n) (cA (rdE 3) (cA (rdE 1) nA))) ρ (F.encs fs) = .ok ((F.fars x fs).map F.enc) := by
        intro ρ r5 r1
        rw [encs_map, fars_map, List.map_map]
        have := lcR_map (j := 3) (c := yes) (el := ap (m_far_below w n) (cA (rdE 3) (cA (rdE 1) nA))) (ρ := ρ) F.enc (fun _ => true) (F.enc ∘ F.far x) fs (fun f hf => ⟨rfl, fun _ => by
          have hdm := deps_mem hf
          have hlm := lvs_mem hf
          have := far_eq w hd hN n f (by omega) (by omega) ((strs_iff fs).mp hs f hf) ((alls_iff fs).mp ha f hf) (by omega)
          simp only [ap, cA, nA, r5, r1, R.ok_bind, this]; rfl⟩)
        have ef : fs.filter (fun _ => true) = fs := by simp
        rw [ef] at this
        exact this
      have hlc' := hlc [.d (.t (F.enc (.nd b fs))) false, .d (.t (.str x)) false, .d (.t (.str (bw b))) true, .un] (fun z o => rfl) (fun z o => rfl)
      have hel : (F.encs fs).length ≤ 16777216 := by rw [encs_len]; omega
      have hfo : ∀ g ∈ F.fars x fs, Shp g ∧ ∀ p ∈ pts b g, keyT p.enc = true := fun g hg => by
        obtain ⟨j1, j2, j3⟩ := i1 g hg
        exact fold_ok (x := x) hN j1 (ln_nm hN (all_mono (fun _ _ _ q => q.1) g j2)) (by omega) b
      have hpt := ptl_le b (F.fars x fs)
      simp only [F.enc] at hlc'
      cases b with
      | true =>
        have ho := all_of_eq w (F.fars x fs) hfo (by omega)
        simp [F.enc, F.far, hel] at hlc' ⊢
        simp [hlc', ho]
      | false =>
        have ho := one_of_eq w (F.fars x fs) hfo (by omega)
        simp [F.enc, F.far, hel] at hlc' ⊢
        simp [hlc', ho]
/-! ## taken -/
abbrev nb (b : Int × Prs) : Prs := norm (b.2 ++ [])
noncomputable def tkParts (x : Str) (f : F) : List F := ((List.range (f.step x).toNat).map fun i : Nat => ((f.lined x).far x).fil x (1 + (i : Int)) []) ++ (bnds x 1 [] (f.lined x).ends).flatMap fun b => (List.range (f.step x).toNat).map fun i : Nat => (f.lined x).fil x (b.1 + (1 + (i : Int))) (nb b)
theorem ex_below : ∀ l : List Int, ∃ m : Int, ∀ b ∈ l, m < b
  | [] => ⟨0, by simp⟩
  | b :: l => by
    obtain ⟨m, h⟩ := ex_below l
    refine ⟨min m (b - 1), fun c hc => ?_⟩
    rcases List.mem_cons.mp hc with e | hc
    · rw [e]; omega
    · have := h c hc; omega
section
variable {N : List Str} {W M : Nat} {Q L : Int} {x : Str} {f : F}
theorem PreOk.qs (P : PreOk N W M Q L x f) {b : Int × Prs} (hb : b ∈ bnds x 1 [] (f.lined x).ends) : Qs N x (nb b) := by
  rcases (bnds_mem x 1 b _ []).mp hb with h | ⟨n, ps, h1, h2, rfl⟩
  · simp at h
  obtain ⟨k', n', ps', e, _, q⟩ := P.lends _ h1
  cases e
  obtain ⟨q1, q2, q3, q4⟩ := q
  have hlen := rg_len q1
  have hnl := P.len
  have e1 : nb (bP x 1 n ps) = norm (norm ((wo x ps).map fun p => (p.1, -1 * p.2))) := by unfold nb bP; rw [List.append_nil]
  have hm : ∀ p ∈ norm ((wo x ps).map fun p => (p.1, -1 * p.2)), p.1 ∈ N ∧ p.1 ≠ x := fun p hp => by
    obtain ⟨r, hr, e⟩ := List.mem_map.mp (norm_mem hp)
    obtain ⟨s, hs, rfl⟩ := List.mem_map.mp hr
    obtain ⟨s1, s2⟩ := List.mem_filter.mp hs
    rw [← e]
    exact ⟨q1.mem s s1, by simpa using s2⟩
  have hm2 : ∀ p ∈ nb (bP x 1 n ps), p.1 ∈ N ∧ p.1 ≠ x := fun p hp => by
    rw [e1] at hp
    obtain ⟨r, hr, e⟩ := List.mem_map.mp (norm_mem hp)
    rw [← e]; exact hm r hr
  have ht : ∀ s, (tot s (nb (bP x 1 n ps))).natAbs ≤ 100001 := fun s => by
    rw [e1, tot_norm, tot_norm, tot_scale, tot_without]
    have := tot_le q1 P.nd q2 s
    split <;> omega
  refine ⟨fun p hp => (hm2 p hp).1, fun p hp => (hm2 p hp).2, ht, fun p hp => ?_, ?_⟩
  · have h3 : p.2 = tot p.1 (nb (bP x 1 n ps)) := by
      rw [e1] at hp ⊢
      rw [tot_norm]; exact norm_val hp
    have := ht p.1
    rw [h3]; omega
  · rw [e1]
    have l1 := norm_len (norm ((wo x ps).map fun p => (p.1, -1 * p.2)))
    have l2 := norm_len ((wo x ps).map fun p => (p.1, -1 * p.2))
    rw [List.length_map] at l2
    have l3 : (wo x ps).length ≤ ps.length := List.length_filter_le _ _
    omega
theorem qs_nil : Qs N x [] := ⟨by simp, by simp, fun s => by simp [tot], by simp, by simp⟩
theorem PreOk.parts (P : PreOk N W M Q L x f) (hdep : (f.lined x).dep ≤ 3) : ∀ p ∈ tkParts x f, p.str = true ∧ p.all (Go N x) ∧ p.dep ≤ 3 ∧ p.lv ≤ (f.lined x).lv := by
  obtain ⟨r1, r2, r3, r4, r5⟩ := far_ok (P := Ln N x (Q * L)) (x := x) (fun k n ps q => q.2.2.1) (f.lined x) P.str P.ln
  intro p hp
  unfold tkParts at hp
  rcases List.mem_append.mp hp with h | h
  · obtain ⟨i, _, rfl⟩ := List.mem_map.mp h
    obtain ⟨a1, a2, a3, a4, a5⟩ := fil_ok (m := 1 + (i : Int)) P.nd (qs_nil (x := x)) ((f.lined x).far x) r1 (all_mono (fun _ _ _ q => q.1) _ r2)
    exact ⟨a1, a2, by omega, by omega⟩
  · obtain ⟨b, hb, h⟩ := List.mem_flatMap.mp h
    obtain ⟨i, _, rfl⟩ := List.mem_map.mp h
    obtain ⟨a1, a2, a3, a4, a5⟩ := fil_ok (m := b.1 + (1 + (i : Int))) P.nd (P.qs hb) (f.lined x) P.str P.ln
    exact ⟨a1, a2, by omega, by omega⟩
theorem PreOk.parts_tv (P : PreOk N W M Q L x f) (v : Str → Int) : (∃ p ∈ tkParts x f, p.tv v = true) ↔ ∃ z, f.tv (up v x z) = true := by
  have hsp := P.step_pos
  obtain ⟨r1, r2, r3, r4, r5⟩ := far_ok (P := fun k n ps => Ln N x (Q * L) k n ps ∧ One x (f.step x) k n ps) (x := x) (fun k n ps q => q.1.2.2.1) (f.lined x) P.str (all_and _ P.ln P.one)
  have hper : ∀ y y' : Int, f.step x ∣ y - y' → ((f.lined x).far x).tv (up v x y) = ((f.lined x).far x).tv (up v x y') := fun y y' hy => by
    have hno : ∀ n ps, .e .above n ps ∈ ((f.lined x).far x).ends → tot x ps = 0 := fun n ps he => by
      obtain ⟨k', n', ps', e, _, q⟩ := ends_all _ r1 r2 _ he
      cases e
      exact q.2 rfl
    refine tv_far v x (f.step x) y y' hy _ r1 (all_mono (fun _ _ _ q => q.1.2) _ r2) (fun b hb => ?_) (fun b hb => ?_)
    · obtain ⟨n, ps, h1, h2, _⟩ := (lows_mem v x b _ r1).mp hb
      rw [hno n ps h1] at h2; cases h2
    · obtain ⟨n, ps, h1, h2, _⟩ := (highs_mem v x b _ r1).mp hb
      rw [hno n ps h1] at h2; cases h2
  have hfar : ∀ i : Nat, (((f.lined x).far x).fil x (1 + (i : Int)) []).tv v = ((f.lined x).far x).tv (up v x (1 + (i : Int))) := fun i => by
    obtain ⟨_, _, _, _, a5⟩ := fil_ok (m := 1 + (i : Int)) P.nd (qs_nil (x := x)) ((f.lined x).far x) r1 (all_mono (fun _ _ _ q => q.1.1) _ r2)
    rw [a5 v]; simp [sv]
  have hbv : ∀ b ∈ bnds x 1 [] (f.lined x).ends, ∀ i : Nat, ((f.lined x).fil x (b.1 + (1 + (i : Int))) (nb b)).tv v = (f.lined x).tv (up v x (b.1 + (1 + (i : Int)) + sv v b.2)) := fun b hb i => by
    obtain ⟨_, _, _, _, a5⟩ := fil_ok (m := b.1 + (1 + (i : Int))) P.nd (P.qs hb) (f.lined x) P.str P.ln
    rw [a5 v]; unfold nb; rw [List.append_nil, sv_norm]
  obtain ⟨m0, hm0⟩ := ex_below ((f.lined x).lows v x ++ (f.lined x).highs v x)
  have hml : ∀ b ∈ (f.lined x).lows v x, m0 < b := fun b hb => hm0 b (List.mem_append.mpr (.inl hb))
  have hmh : ∀ b ∈ (f.lined x).highs v x, m0 < b := fun b hb => hm0 b (List.mem_append.mpr (.inr hb))
  constructor
  · rintro ⟨p, hp, ht⟩
    unfold tkParts at hp
    rcases List.mem_append.mp hp with h | h
    · obtain ⟨i, _, rfl⟩ := List.mem_map.mp h
      rw [hfar] at ht
      -- far enough down
      obtain ⟨j, hj⟩ : ∃ j : Nat, 1 + (i : Int) - j * f.step x ≤ m0 := by
        refine ⟨(1 + (i : Int) - m0).toNat, ?_⟩
        have h1 : ((1 + (i : Int) - m0).toNat : Int) ≤ (1 + (i : Int) - m0).toNat * f.step x := by
          have := Int.mul_le_mul_of_nonneg_left (show (1 : Int) ≤ f.step x by omega) (show (0 : Int) ≤ (1 + (i : Int) - m0).toNat by omega)
          simpa using this
        omega
      rw [hper (1 + (i : Int)) (1 + (i : Int) - j * f.step x) ⟨j, by rw [Int.mul_comm (f.step x)]; omega⟩] at ht
      rw [r5 v _ (fun b hb => by have := hml b hb; omega) (fun b hb => by have := hmh b hb; omega)] at ht
      exact ⟨_, P.sound v _ ht⟩
    · obtain ⟨b, hb, h⟩ := List.mem_flatMap.mp h
      obtain ⟨i, _, rfl⟩ := List.mem_map.mp h
      rw [hbv b hb] at ht
      exact ⟨_, P.sound v _ ht⟩
  · rintro ⟨z, hz⟩
    rw [← P.tv v z] at hz
    unfold tkParts
    rcases cooper v x (f.step x) m0 hsp (f.lined x) P.str P.one hml hmh _ hz with ⟨k, hk, ht⟩ | ⟨b, hb, k, k1, k2, ht⟩
    · rw [← r5 v _ (fun b hb => by have := hml b hb; omega) (fun b hb => by have := hmh b hb; omega)] at ht
      have e1 := Int.emod_nonneg (m0 - k - 1) (show f.step x ≠ 0 by omega)
      have e2 := Int.emod_lt_of_pos (m0 - k - 1) hsp
      have e3 := Int.emod_add_mul_ediv (m0 - k - 1) (f.step x)
      rw [hper (m0 - k) (1 + (((m0 - k - 1) % f.step x).toNat : Int)) ⟨(m0 - k - 1) / f.step x, by omega⟩] at ht
      refine ⟨_, List.mem_append.mpr (.inl (List.mem_map.mpr ⟨((m0 - k - 1) % f.step x).toNat, by rw [List.mem_range]; omega, rfl⟩)), ?_⟩
      rw [hfar]; exact ht
    · obtain ⟨n, ps, h1, h2, h3⟩ := (lows_mem v x b _ P.str).mp hb
      have hB : bP x 1 n ps ∈ bnds x 1 [] (f.lined x).ends := (bnds_mem x 1 _ _ []).mpr (.inr ⟨n, ps, h1, h2, rfl⟩)
      refine ⟨_, List.mem_append.mpr (.inr (List.mem_flatMap.mpr ⟨_, hB, List.mem_map.mpr ⟨(k - 1).toNat, by rw [List.mem_range]; omega, rfl⟩⟩)), ?_⟩
      rw [hbv _ hB]
      have e : (bP x 1 n ps).1 + (1 + ((k - 1).toNat : Int)) + sv v (bP x 1 n ps).2 = b + k := by
        unfold bP
        show -1 * n + (1 + ((k - 1).toNat : Int)) + sv v (norm _) = _
        rw [sv_norm, sv_scale, h3]
        unfold rst
        show -1 * n + (1 + ((k - 1).toNat : Int)) + -1 * sv v (wo x ps) = _
        omega
      rw [e]; exact ht
end
end Pf

set_option Elab.async false
set_option linter.all false
set_option maxRecDepth 100000
set_option maxHeartbeats 4000000
namespace Pf
open PySem L2
/-! ## taken as the program does it -/
theorem lvs_le {K : Nat} : ∀ l : List F, (∀ f ∈ l, f.lv ≤ K) → F.lvs l ≤ l.length * K
  | [], _ => by simp [F.lvs]
  | f :: l, h => by
    have h1 := lvs_le l fun g hg => h g (List.mem_cons_of_mem _ hg)
    have h2 := h f (by simp)
    simp only [F.lvs, List.length_cons, Nat.succ_mul]; omega
section
variable {N : List Str} {W M : Nat} {Q L : Int} {x : Str} {f : F}
theorem tkParts_len (x : Str) (f : F) : (tkParts x f).length = (f.step x).toNat + (bnds x 1 [] (f.lined x).ends).length * (f.step x).toNat := by
  unfold tkParts
  rw [List.length_append, List.length_map, List.length_range]
  congr 1
  induction bnds x 1 [] (f.lined x).ends with
  | nil => simp
  | cons b bs ih => rw [List.flatMap_cons, List.length_append, ih, List.length_map, List.length_range, List.length_cons, Nat.succ_mul]; omega
theorem taken_eq (w : World) (P : ToOk N W M Q L x f) (hN : ∀ s ∈ N, Nm s) (hx : x ∈ f.free []) (hdep : (f.lined x).dep ≤ 3) (hlv : (f.lined x).lv ≤ 100) (hpl : (tkParts x f).length ≤ 100000) : m_taken w [.t (.str x), .t f.enc] = .ok (.t (ofs false (tkParts x f) []).enc) := by
  have hne := need_plain_eq f (by have := P.dep; omega)
  rw [P.plain, if_pos rfl] at hne
  have hu := P.unk
  have hmem : x ∈ srtS (onceS (f.free [])) := (srtOnce_mem x _).mpr hx
  have hpr := P.toPreOk.eq
  have hstr := P.toPreOk.str
  have hln := P.toPreOk.ln
  have hsp := P.toPreOk.step_pos
  have hsl := P.toPreOk.step_le
  have hql := P.ql
  have hlc := P.toPreOk.lcnt
  have hc := P.cnt
  have hNl := P.len
  have hpt := P.toPreOk.parts hdep
  have hfar := far_eq w P.nd hN 60 (f.lined x) (by omega) hdep hstr hln (by omega)
  obtain ⟨r1, r2, r3, r4, r5⟩ := far_ok (P := Ln N x (Q * L)) (x := x) (fun k n ps q => q.2.2.1) (f.lined x) hstr hln
  have hbo := bounds_of_eq w x 1 (.inl rfl) (f.lined x) (by omega) hstr (by omega) (all_mono (fun k n ps q => ⟨q.1.nodup P.nd, by have := rg_len q.1; omega⟩) _ hln)
  have hlen := tkParts_len x f
  obtain ⟨n, hn⟩ : ∃ n : Nat, f.step x = n := ⟨(f.step x).toNat, by omega⟩
  have hfil1 : ∀ i : Nat, m_filled w 60 [.t ((f.lined x).far x).enc, .t (.str x), .t (.tup [.int (1 + (i : Int)), .tup []])] = .ok (.t (((f.lined x).far x).fil x (1 + (i : Int)) []).enc) := fun i =>
    filled_eq w (m := 1 + (i : Int)) (qs := []) P.nd hN hNl (qs_nil (x := x)) 60 ((f.lined x).far x) (by omega) (by omega) r1 (all_mono (fun _ _ _ q => q.1) _ r2) (by omega)
  have hfil2 : ∀ b ∈ bnds x 1 [] (f.lined x).ends, ∀ i : Nat, m_filled w 60 [.t (f.lined x).enc, .t (.str x), .t (smT (b.1 + (1 + (i : Int))) (nb b))] = .ok (.t ((f.lined x).fil x (b.1 + (1 + (i : Int))) (nb b)).enc) := fun b hb i =>
    filled_eq w P.nd hN hNl (P.toPreOk.qs hb) 60 (f.lined x) (by omega) hdep hstr hln (by omega)
  have hadd : ∀ b ∈ bnds x 1 [] (f.lined x).ends, ∀ i : Nat, m_added [.t (smT b.1 b.2), .t (.tup [.int (1 + (i : Int)), .tup []])] = .ok (.t (smT (b.1 + (1 + (i : Int))) (nb b))) := fun b hb i => by
    have hbl : b.2.length < 60 := by
      rcases (bnds_mem x 1 b _ []).mp hb with h | ⟨n, ps, h1, h2, rfl⟩
      · simp at h
      obtain ⟨k', n', ps', e, _, q⟩ := P.toPreOk.lends _ h1
      cases e
      have l1 := rg_len q.1
      have l2 := norm_len ((wo x ps).map fun p => (p.1, -1 * p.2))
      rw [List.length_map] at l2
      have l3 : (wo x ps).length ≤ ps.length := List.length_filter_le _ _
      show (norm ((wo x ps).map fun p => (p.1, -1 * p.2))).length < 60
      omega
    exact added_eq b.1 (1 + (i : Int)) b.2 [] (by simp; omega)
  have htk : tkParts x f = ((List.range n).map fun i : Nat => ((f.lined x).far x).fil x (1 + (i : Int)) []) ++ (bnds x 1 [] (f.lined x).ends).flatMap fun b => (List.range n).map fun i : Nat => (f.lined x).fil x (b.1 + (1 + (i : Int))) (nb b) := by
    unfold tkParts; rw [hn]; rfl
  rw [hn] at hlen hpr
  simp only [Int.toNat_natCast] at hlen
  generalize hB : bnds x 1 [] (f.lined x).ends = B at *
  generalize (f.lined x).far x = G at *
  have hr : rng2 [.t (.int 1), .t (.int ((n : Int) + 1))] = .ok (1, n) := by
    simp only [rng2]; rw [if_pos ⟨by decide, by omega⟩]; congr 2; omega
  have lr : ∀ (a3 a4 : Sl), lcR 8 yes (ap (m_filled w 60) (cA (rdE 2) (cA (rdE 0) (cA (ap mkTup (cA (rdE 8) (cA (ap mkTup nA) nA))) nA)))) [.d (.t (.str x)) false, .d (.t f.enc) false, .d (.t G.enc) true, a3, a4, .d (.t (f.lined x).enc) true, .d (.t (.int (f.size x))) true, .d (.t (.int n)) true, .un] (rngT 1 n) = .ok (((List.range n).map fun i : Nat => G.fil x (1 + (i : Int)) []).map F.enc) := by
    intro a3 a4
    have := lcR_map (j := 8) (c := yes) (el := ap (m_filled w 60) (cA (rdE 2) (cA (rdE 0) (cA (ap mkTup (cA (rdE 8) (cA (ap mkTup nA) nA))) nA)))) (ρ := [.d (.t (.str x)) false, .d (.t f.enc) false, .d (.t G.enc) true, a3, a4, .d (.t (f.lined x).enc) true, .d (.t (.int (f.size x))) true, .d (.t (.int n)) true, .un]) (fun k : Nat => T.int (1 + (k : Int))) (fun _ => true) (fun k => (G.fil x (1 + (k : Int)) []).enc) (List.range n) (fun q hq => ⟨rfl, fun _ => by simp [hfil1]⟩)
    have ef : (List.range n).filter (fun _ => true) = List.range n := by simp
    rw [ef] at this
    unfold rngT
    rw [this, List.map_map]; rfl
  have inner : ∀ (b : Int × Prs), b ∈ B → ∀ (acc : List F) (k8 : Sl) (m : Nat), m ≤ n → acc.length + m ≤ 16000000 → ∃ k', forR 8 (appO 3 (ap (m_filled w 60) (cA (rdE 5) (cA (rdE 0) (cA (ap m_added (cA (rdE 4) (cA (ap mkTup (cA (rdE 8) (cA (ap mkTup nA) nA))) nA))) nA))))) (rngT 1 m) [.d (.t (.str x)) false, .d (.t f.enc) false, .d (.t G.enc) true, .d (.lst (acc.map F.enc)) true, .d (.t (smP b)) true, .d (.t (f.lined x).enc) true, .d (.t (.int (f.size x))) true, .d (.t (.int n)) true, k8] = .ok (.nx [.d (.t (.str x)) false, .d (.t f.enc) false, .d (.t G.enc) true, .d (.lst ((acc ++ (List.range m).map fun i : Nat => (f.lined x).fil x (b.1 + (1 + (i : Int))) (nb b)).map F.enc)) true, .d (.t (smP b)) true, .d (.t (f.lined x).enc) true, .d (.t (.int (f.size x))) true, .d (.t (.int n)) true, k']) := by
    intro b hb acc k8 m hm hl
    obtain ⟨ρ', e, k', rfl⟩ := forR_rng (j := 8) (lo := 1) (n := m) (body := appO 3 (ap (m_filled w 60) (cA (rdE 5) (cA (rdE 0) (cA (ap m_added (cA (rdE 4) (cA (ap mkTup (cA (rdE 8) (cA (ap mkTup nA) nA))) nA))) nA))))) (ρ := [.d (.t (.str x)) false, .d (.t f.enc) false, .d (.t G.enc) true, .d (.lst (acc.map F.enc)) true, .d (.t (smP b)) true, .d (.t (f.lined x).enc) true, .d (.t (.int (f.size x))) true, .d (.t (.int n)) true, k8])
      (fun i ρ => ∃ k', ρ = [.d (.t (.str x)) false, .d (.t f.enc) false, .d (.t G.enc) true, .d (.lst ((acc ++ (List.range i).map fun i : Nat => (f.lined x).fil x (b.1 + (1 + (i : Int))) (nb b)).map F.enc)) true, .d (.t (smP b)) true, .d (.t (f.lined x).enc) true, .d (.t (.int (f.size x))) true, .d (.t (.int n)) true, k'])
      (fun i ρ hi ⟨k', e⟩ => by
        subst e
        have hlen : (acc ++ (List.range i).map fun i : Nat => (f.lined x).fil x (b.1 + (1 + (i : Int))) (nb b)).length < 16777216 := by simp; omega
        generalize hz : (acc ++ (List.range i).map fun i : Nat => (f.lined x).fil x (b.1 + (1 + (i : Int))) (nb b)) = Z at hlen
        have h1 := hadd b hb i
        have h2 := hfil2 b hb i
        refine ⟨[.d (.t (.str x)) false, .d (.t f.enc) false, .d (.t G.enc) true, .d (.lst ((Z ++ [(f.lined x).fil x (b.1 + (1 + (i : Int))) (nb b)]).map F.enc)) true, .d (.t (smP b)) true, .d (.t (f.lined x).enc) true, .d (.t (.int (f.size x))) true, .d (.t (.int n)) true, .d (.t (.int (1 + (i : Int)))) true], by simp [appO, hlen, smP, h1, h2], .d (.t (.int (1 + (i : Int)))) true, ?_⟩
        have hz2 : acc ++ (List.range (i + 1)).map (fun i : Nat => (f.lined x).fil x (b.1 + (1 + (i : Int))) (nb b)) = Z ++ [(f.lined x).fil x (b.1 + (1 + (i : Int))) (nb b)] := by rw [List.range_succ, List.map_append, ← List.append_assoc, hz]; rfl
        rw [hz2]) ⟨k8, by simp⟩
    exact ⟨k', e⟩
  have outer : ∀ (bs : List (Int × Prs)), (∀ b ∈ bs, b ∈ B) → ∀ (acc : List F) (k4 k8 : Sl), acc.length + bs.length * n ≤ 16000000 → ∃ k4' k8', forR 4 (forRO 8 (cA (kI 1) (cA (b2 addD (rdE 7) (kI 1)) nA)) rng2 (appO 3 (ap (m_filled w 60) (cA (rdE 5) (cA (rdE 0) (cA (ap m_added (cA (rdE 4) (cA (ap mkTup (cA (rdE 8) (cA (ap mkTup nA) nA))) nA))) nA)))))) (bs.map smP) [.d (.t (.str x)) false, .d (.t f.enc) false, .d (.t G.enc) true, .d (.lst (acc.map F.enc)) true, k4, .d (.t (f.lined x).enc) true, .d (.t (.int (f.size x))) true, .d (.t (.int n)) true, k8] = .ok (.nx [.d (.t (.str x)) false, .d (.t f.enc) false, .d (.t G.enc) true, .d (.lst ((acc ++ bs.flatMap fun b => (List.range n).map fun i : Nat => (f.lined x).fil x (b.1 + (1 + (i : Int))) (nb b)).map F.enc)) true, k4', .d (.t (f.lined x).enc) true, .d (.t (.int (f.size x))) true, .d (.t (.int n)) true, k8']) := by
    intro bs
    induction bs with
    | nil => intro _ acc k4 k8 _; exact ⟨k4, k8, by simp⟩
    | cons b bs ih =>
      intro hbs acc k4 k8 hl
      rw [List.length_cons, Nat.succ_mul] at hl
      obtain ⟨k8', e1⟩ := inner b (hbs b (by simp)) acc k8 n (Nat.le_refl _) (by omega)
      obtain ⟨k4'', k8'', e2⟩ := ih (fun c hc => hbs c (List.mem_cons_of_mem _ hc)) (acc ++ (List.range n).map fun i : Nat => (f.lined x).fil x (b.1 + (1 + (i : Int))) (nb b)) (.d (.t (smP b)) true) k8' (by simp; omega)
      refine ⟨k4'', k8'', ?_⟩
      rw [List.flatMap_cons, ← List.append_assoc, ← e2]
      simp only [List.map_cons, forR, List.set_cons_succ, List.set_cons_zero, forRO, cA, nA, kI, b2, rdE_0, rdE_s, R.ok_bind, add_ii, hr, e1]
  have hBl : B.length * n ≤ 100000 := by omega
  obtain ⟨k4', k8', eo⟩ := outer B (fun b hb => hb) ((List.range n).map fun i : Nat => G.fil x (1 + (i : Int)) []) .un .un (by simp; omega)
  have hlvs := lvs_le (K := 100) (tkParts x f) fun p hp => Nat.le_trans (hpt p hp).2.2.2 hlv
  have hpl2 := ptl_le false (tkParts x f)
  have hone := one_of_eq w (tkParts x f) (fun p hp => fold_ok (x := x) hN (hpt p hp).1 (go_nm hN (hpt p hp).2.1) (hpt p hp).2.2.1 false) (by omega)
  rw [htk] at hone ⊢
  have hnl : n ≤ 16777216 := by omega
  have hn5 : n < 16777217 := by omega
  unfold m_taken g_taken
  rw [runDef_Rt]
  simp only [List.map_cons, List.map_nil, List.cons_append, List.nil_append, un_s, un_0]
  refine (Rt_seq (by simp [hne]; rfl)).trans ?_
  refine (Rt_seq (by simp [hu, hmem]; rfl)).trans ?_
  refine (Rt_seq (by simp [unpO, hpr]; rfl)).trans ?_
  refine (Rt_seq (by simp [hfar]; rfl)).trans ?_
  refine (Rt_seq (ρ' := [.d (.t (.str x)) false, .d (.t f.enc) false, .d (.t G.enc) true, .d (.lst (((List.range n).map fun i : Nat => G.fil x (1 + (i : Int)) []).map F.enc)) true, .un, .d (.t (f.lined x).enc) true, .d (.t (.int (f.size x))) true, .d (.t (.int n)) true, .un]) (by
    simp only [setO, lcRg_eq, cA, nA, b2, kI, rdE_0, rdE_s, R.ok_bind, add_ii, hr, if_pos hnl, lr, NR_ok, List.set_cons_succ, List.set_cons_zero])).trans ?_
  refine (Rt_seq (by simp only [forLO, ap, cA, nA, kI, rdE_0, rdE_s, R.ok_bind, hbo]; exact eo)).trans ?_
  simp only [retO, ap, cA, nA, rdE_0, rdE_s, R.ok_bind, hone, Rt]
end
end Pf

set_option Elab.async false
set_option linter.all false
set_option maxRecDepth 100000
set_option maxHeartbeats 4000000
namespace Pf
open PySem L2
/-! ## bound unknowns taken away: left, holds -/
mutual
theorem free_nb (s : Str) : ∀ (f : F) (bs : List Str), s ∈ f.free bs → s ∉ bs
  | .e _ _ ps, bs, h => by
    simp only [F.free] at h
    obtain ⟨p, hp, rfl⟩ := List.mem_map.mp h
    simpa using (List.mem_filter.mp hp).2
  | .nt f, bs, h => by simp only [F.free] at h; exact free_nb s f bs h
  | .nd _ fs, bs, h => by simp only [F.free] at h; exact frees_nb s fs bs h
  | .qn _ y f, bs, h => by
    simp only [F.free] at h
    have := free_nb s f _ h
    exact fun q => this (List.mem_append.mpr (.inl q))
theorem frees_nb (s : Str) : ∀ (fs : List F) (bs : List Str), s ∈ F.frees fs bs → s ∉ bs
  | [], bs, h => by simp [F.frees] at h
  | f :: fs, bs, h => by
    simp only [F.frees, List.mem_append] at h
    exact h.elim (free_nb s f bs) (frees_nb s fs bs)
end
theorem is_true_eq2 (f : F) (N : List Str) (kvs : Prs) (h1 : f.dep ≤ 60) (h2 : f.sz < 4000) (h3 : f.all (fun _ _ ps => ∀ p ∈ ps, p.1 ∈ N)) (hr : f.all Rk) (h4 : N.length < 64) (hp : f.plain = true) (hv : ∀ s ∈ f.free [], s ∈ kvs.map (·.1)) : m_is_true [.t f.enc, .dct kvs] = .ok (.t (.bl (f.tv (vl kvs)))) := by
  have e1 := need_plain_eq f h1
  have e2 := unknowns_eq f N h1 h2 h3 h4
  have e3 := need_values_eq (srtS (onceS (f.free []))) kvs
  simp only [srtOnce_mem] at e3
  rw [hp] at e1
  rw [if_pos hv] at e3
  simp only [if_true] at e1
  have e4 := truth_eq kvs 60 f h1 hp hr (all_mono (fun k n ps q p hp => hv _ (q p hp)) f (all_free (f.free []) f hp fun s hs => hs))
  unfold m_is_true g_is_true
  rw [runDef_Rt]
  simp [e1, e2, e3, e4]
/-! ### sums of two names -/
theorem sv_perm (v : Str → Int) {a b : Prs} (h : a.Perm b) : sv v a = sv v b := by
  induction h with
  | nil => rfl
  | cons p _ ih => simp only [sv, ih]
  | swap p q l => simp only [sv]; omega
  | trans _ _ h1 h2 => exact h1.trans h2
theorem tot_perm (s : Str) {a b : Prs} (h : a.Perm b) : tot s a = tot s b := by
  induction h with
  | nil => rfl
  | cons p _ ih => simp only [tot, ih]
  | swap p q l => simp only [tot]; omega
  | trans _ _ h1 h2 => exact h1.trans h2
theorem law_sum_eq (n : Int) (ps : Prs) (h0 : ∀ p ∈ ps, p.2 ≠ 0) (hl : ps.length < 1000) : m_law_sum [.t (.int n), .lst (ps.map prT)] = .ok (.t (smT n (srtP ps))) := by
  have hlc := lcR_map (j := 2) (c := tV (b2 neD (b2 ixD (rdE 2) (kI 1)) (kI 0))) (el := rdT 2) (ρ := [.d (.t (.int n)) false, .d (.lst (ps.map prT)) false, .un]) prT (fun p => !decide (p.2 = 0)) prT ps (fun p hp => ⟨by simp [prT], fun _ => by simp [prT]⟩)
  have ef : ps.filter (fun p => !decide (p.2 = 0)) = ps := List.filter_eq_self.mpr fun p hp => by simpa using h0 p hp
  rw [ef] at hlc
  have hs := sortPD_eq ps hl
  have hl2 : ps.length ≤ 16777216 := by omega
  have hl3 : (srtP ps).length ≤ 16777216 := by
    have : (srtP ps).length = ps.length := (List.mergeSort_perm ps _).length_eq
    omega
  unfold m_law_sum g_law_sum
  rw [runDef_Rt]
  simp [hlc, hs, hl2, hl3, smT, -lcR_cons]
structure Two (N : List Str) (x y : Str) (a b : Int) (ps : Prs) : Prop where
  rg : Rg N ps
  sv : ∀ v, sv v ps = a * v x + b * v y
  tx : tot x ps = a
  le : ∀ p ∈ ps, p.2 = a ∨ p.2 = b
  xm : x ∈ ps.map (·.1)
  len : ps.length = 2
theorem sum2_ex {N : List Str} (hN : N.Nodup) {x y : Str} (hx : x ∈ N) (hy : y ∈ N) (hxy : x ≠ y) {a b : Int} (ha : a ≠ 0) (hb : b ≠ 0) : ∃ ps : Prs, Two N x y a b ps ∧ m_law_sum [.t (.int 0), .lst [.tup [.str x, .int a], .tup [.str y, .int b]]] = .ok (.t (smT 0 ps)) := by
  have pm : (srtP [(x, a), (y, b)]).Perm [(x, a), (y, b)] := List.mergeSort_perm _ _
  have h := law_sum_eq 0 [(x, a), (y, b)] (by simp [ha, hb]) (by simp)
  refine ⟨srtP [(x, a), (y, b)], ⟨?_, fun v => ?_, ?_, fun p hp => ?_, ?_, ?_⟩, h⟩
  · exact rg_srtP hN (by simp [hxy]) (by simp [hx, hy]) (by simp [ha, hb])
  · rw [sv_perm v pm]; simp [Pf.sv, Int.mul_comm]
  · have hyx : ¬ y = x := fun e => hxy e.symm
    rw [tot_perm x pm]; simp [tot, hyx]
  · have := pm.mem_iff.mp hp
    simp at this
    rcases this with e | e <;> simp [e]
  · exact ((pm.map _).mem_iff).mpr (by simp)
  · rw [pm.length_eq]; rfl
/-! ### small statements -/
theorem lined_small {x : Str} {f : F} {k1 k2 : EK} {n1 n2 : Int} {p1 p2 : Prs} (h : f.turn true = .nd true [.e k1 n1 p1, .e k2 n2 p2]) : (f.lined x).dep ≤ 3 ∧ (f.lined x).lv ≤ 5 := by
  obtain ⟨a1, a2, a3, e1, _⟩ := strE_is x (f.size x) k1 n1 p1
  obtain ⟨b1, b2, b3, e2, _⟩ := strE_is x (f.size x) k2 n2 p2
  unfold F.lined
  split
  · simp [h, F.stretch, F.stretchs, e1, e2, F.dep, F.deps, F.lv, F.lvs]
  · simp [h, F.stretch, F.stretchs, e1, e2, F.dep, F.deps, F.lv, F.lvs]
section
variable {N : List Str} {W M : Nat} {Q L : Int} {x : Str} {f : F}
theorem taken_ex (w : World) (P : ToOk N W M Q L x f) (hN : ∀ s ∈ N, Nm s) (hN3 : N.length ≤ 3) (hx : x ∈ f.free []) (hdep : (f.lined x).dep ≤ 3) (hlv : (f.lined x).lv ≤ 5) (hcnt : f.cnt ≤ 2) (hQL : Q * L ≤ 40) : ∃ T : F, m_taken w [.t (.str x), .t f.enc] = .ok (.t T.enc) ∧ T.plain = true ∧ T.all (Go N x) ∧ T.dep ≤ 4 ∧ T.lv ≤ 1300 ∧ T.sz < 4000 ∧ ∀ v, T.tv v = true ↔ ∃ z, f.tv (up v x z) = true := by
  have hlen := tkParts_len x f
  have hst := P.toPreOk.step_le
  have hsp := P.toPreOk.step_pos
  have hbl := bnds_len x 1 (f.lined x).ends []
  have hel := ends_len (f.lined x) P.toPreOk.str
  have hlc := P.toPreOk.lcnt
  simp only [List.length_nil, Nat.zero_add] at hbl
  have hb5 : (bnds x 1 [] (f.lined x).ends).length * (f.step x).toNat ≤ 5 * 40 := Nat.mul_le_mul (by omega) (by omega)
  have hte := taken_eq w P hN hx hdep (by omega) (by omega)
  have hpt := P.toPreOk.parts hdep
  have hstr : (ofs false (tkParts x f) []).str = true := ofs_str fun p hp => (hpt p hp).1
  have hall : (ofs false (tkParts x f) []).all (Go N x) := ofs_all fun p hp => (hpt p hp).2.1
  have hd := ofs_dep (b := false) (D := 3) (tkParts x f) [] (fun p hp => (hpt p hp).2.2.1) (by simp)
  have hl1 := ofs_lv (b := false) (tkParts x f) []
  have hl2 := lvs_le (K := 5) (tkParts x f) fun p hp => Nat.le_trans (hpt p hp).2.2.2 hlv
  simp only [F.lvs] at hl1
  have hs := sz_lv (K := 3) (ofs false (tkParts x f) []) (all_mono (fun k n ps q => Nat.le_trans (rg_len q.1) hN3) _ hall)
  refine ⟨_, hte, str_plain _ hstr, hall, hd, by omega, by omega, fun v => ?_⟩
  rw [ofs_f, ← P.toPreOk.parts_tv v]
  simp
/-- what is left of some, of all -/
theorem left_qn (w : World) (q : Bool) (x : Str) (f T : F) (h1 : f.dep ≤ 50) (h2 : f.plain = true) (h3 : f.wid ≤ 16777216) (h : m_taken w [.t (.str x), .t (if q then f else .nt f).enc] = .ok (.t T.enc)) : m_left w 60 [.t (F.qn q x f).enc] = .ok (.t (if q then T else .nt T).enc) := by
  have hl := left_eq w 59 f (by omega) h2 h3
  unfold m_left g_left
  rw [runDef_Rt]
  cases q with
  | true =>
    simp only [if_true] at h ⊢
    simp [F.enc, hl, h]
  | false =>
    simp only [F.enc, Bool.false_eq_true, if_false] at h ⊢
    simp [hl, h]
theorem go_rk {f : F} (h : f.all (Go N x)) : f.all Rk := all_mono (fun k n ps q => ⟨fun p hp => by have := q.2.1 p hp; omega, q.2.2.1⟩) f h
theorem go_nx {f : F} (h : f.all (Go N x)) (hp : f.plain = true) (L : List Str) (hL : ∀ s ∈ N, s ≠ x → s ∈ L) : ∀ s ∈ f.free [], s ∈ L :=
  free_sub f [] L (all_mono (fun k n ps q p hp => hL _ (q.1.mem p hp) (q.2.2.2 p hp)) f h)
theorem go_pn {f : F} (hd : N.Nodup) (h : f.all (Go N x)) (L : List Str) (hL : ∀ s ∈ N, s ≠ x → s ∈ L) : f.all (PN L) := all_mono (fun k n ps q => by
  obtain ⟨o1, o2⟩ := rg_own q.1 hd
  refine ⟨⟨ps.map (·.1), o1, o2, fun s hs => ?_⟩, q.2.2.1⟩
  obtain ⟨p, hp, rfl⟩ := List.mem_map.mp hs
  exact hL _ (q.1.mem p hp) (q.2.2.2 p hp)) f h
/-- holds of some, of all -/
theorem holds_qn (w : World) (q : Bool) (x : Str) (f T : F) (kvs : Prs) (hN3 : N.length ≤ 3) (h1 : f.dep ≤ 50) (h2 : f.plain = true) (h3 : f.wid ≤ 16777216) (h4 : f.sz < 4000) (h5 : f.all (fun _ _ ps => ∀ p ∈ ps, p.1 ∈ N)) (ht : m_taken w [.t (.str x), .t (if q then f else .nt f).enc] = .ok (.t T.enc)) (t1 : T.plain = true) (t2 : T.all (Go N x)) (t3 : T.dep ≤ 4) (t4 : T.sz < 4000) (hv : ∀ s ∈ N, s ≠ x → s ∈ kvs.map (·.1)) :
    m_holds w [.t (F.qn q x f).enc, .dct kvs] = .ok (.t (.bl ((if q then T else .nt T : F).tv (vl kvs)))) := by
  have e1 := unknowns_eq (F.qn q x f) N (by simp only [F.dep]; omega) (by simp only [F.sz]; exact h4) (by simp only [F.all]; exact h5) (by omega)
  have e2 := need_values_eq (srtS (onceS ((F.qn q x f).free []))) kvs
  simp only [srtOnce_mem] at e2
  rw [if_pos (fun s hs => by
    simp only [F.free] at hs
    have hne : s ≠ x := fun e => free_nb s f _ hs (by simp [e])
    exact hv s (free_sub f _ N h5 s hs) hne)] at e2
  have e3 := left_qn w q x f T h1 h2 h3 ht
  have hg : (if q then T else .nt T : F).plain = true ∧ (if q then T else .nt T : F).all (Go N x) ∧ (if q then T else .nt T : F).dep ≤ 5 ∧ (if q then T else .nt T : F).sz < 4000 := by
    cases q
    · simp only [Bool.false_eq_true, if_false, F.plain, F.all, F.dep, F.sz]; exact ⟨t1, t2, by omega, t4⟩
    · simp only [if_true]; exact ⟨t1, t2, by omega, t4⟩
  obtain ⟨g1, g2, g3, g4⟩ := hg
  have e4 := is_true_eq2 (if q then T else .nt T) N kvs (by omega) g4 (all_mono (fun k n ps q => q.1.mem) _ g2) (go_rk g2) (by omega) g1 (go_nx g2 g1 _ hv)
  unfold m_holds g_holds
  rw [runDef_Rt]
  simp [e1, e2, e3, e4]
end
end Pf

set_option Elab.async false
set_option linter.all false
set_option maxRecDepth 100000
set_option maxHeartbeats 4000000
namespace Pf
open PySem L2
noncomputable section
/-! ## mirrors -/
def g_law (w : World) : Ev → R Out :=
  (seqO (setO 1 (ap m_law_names_by (cA (ap m_law_cell_at (cA (rdE 0) (cA (kI 0) nA))) nA)))
  (seqO (setO 2 kD)
  (seqO (dputO 2 (b2 ixD (rdE 1) (kI 1)) (ap m_law_big_by (cA (ap m_law_cell_at (cA (rdE 0) (cA (kI 1) nA))) nA)))
  (seqO (dputO 2 (b2 ixD (rdE 1) (kI 2)) (ap m_law_big_by (cA (ap m_law_cell_at (cA (rdE 0) (cA (kI 2) nA))) nA)))
  (seqO (ifO (tV (b2 eqD (b2 modD (ap m_law_cell_at (cA (rdE 0) (cA (kI 5) nA))) (kI 2)) (kI 1))) (dputO 2 (b2 ixD (rdE 1) (kI 2)) (b2 addD (b2 dgetD (rdE 2) (b2 ixD (rdE 1) (kI 1))) (b2 modD (b2 divD (ap m_law_cell_at (cA (rdE 0) (cA (kI 5) nA))) (kI 2)) (kI 13)))) nxO)
  (seqO (unpO [6, 7, 8] (ap m_law_kind (cA (rdE 0) (cA (rdE 1) (cA (rdE 2) nA)))))
  (seqO (setO 3 (ap mkTup (cA (rdE 6) (cA (b2 ixD (rdE 1) (kI 0)) (cA (rdE 7) nA)))))
  (seqO (ifO (tNot1 (tV (ap m_law_same (cA (ap (m_holds w) (cA (rdE 3) (cA (rdE 2) nA))) (cA (rdE 8) nA))))) (retO (kB false)) nxO)
  (seqO (setO 4 (ap (m_left w 60) (cA (rdE 3) nA)))
  (seqO (ifO (tOr2 (tNot1 (tV (ap (m_law_plain_is 60) (cA (rdE 4) (cA (sl3 (rdE 1) (sS (kI 1)) (sS (kI 3))) nA))))) (tNot1 (tV (ap m_law_same (cA (ap m_is_true (cA (rdE 4) (cA (rdE 2) nA))) (cA (rdE 8) nA)))))) (retO (kB false)) nxO)
  (seqO (ifO (tV (b2 eqD (rdE 6) (kS "all"))) (seqO (setO 7 (ap mkTup (cA (kS "not") (cA (rdE 7) nA))))
    (setO 8 (vNot (rdE 8)))) nxO)
  (seqO (setO 5 (ap (m_told w) (cA (b2 ixD (rdE 1) (kI 0)) (cA (rdE 7) (cA (rdE 2) nA)))))
  (seqO (ifO (tNot1 (tV (rdE 8))) (retO (b2 isD (rdE 5) kN)) nxO)
  (seqO (ifO (tNot1 (tV (ap m_law_whole (cA (rdE 5) nA)))) (retO (kB false)) nxO)
  (seqO (dputO 2 (b2 ixD (rdE 1) (kI 0)) (rdE 5))
  (retO (ap (m_law_true 60) (cA (rdE 7) (cA (rdE 2) nA)))))))))))))))))))
def m_law (w : World) : List D → R D := runDef 8 (g_law w)
end
end Pf

set_option Elab.async false
set_option linter.all false
set_option maxRecDepth 100000
set_option maxHeartbeats 4000000
namespace Pf
open PySem L2
/-! ## the law of far numbers -/
/-- all that the law of a kind of statement wants -/
structure Kd (N : List Str) (x : Str) (kvs : Prs) (q : Bool) (f : F) (due : Bool) (W M : Nat) (Q L : Int) : Prop where
  ok : ToOk N W M Q L x (if q then f else .nt f)
  plain : f.plain = true
  dep : f.dep ≤ 5
  wid : f.wid ≤ 5
  sz : f.sz ≤ 10
  cnt : f.cnt ≤ 2
  nm : f.all (fun _ _ ps => ∀ p ∈ ps, p.1 ∈ N)
  rk : f.all Rk
  fr : x ∈ f.free []
  ld : ((if q then f else .nt f : F).lined x).dep ≤ 3
  lv : ((if q then f else .nt f : F).lined x).lv ≤ 5
  ql : Q * L ≤ 40
  due : (∃ t, (if q then f else .nt f : F).tv (up (vl kvs) x t) = true) ↔ due = q
theorem to_g {N : List Str} {W M : Nat} {Q L : Int} {x : Str} {g : F} (hd : N.Nodup) (hN : N.length ≤ 3) (h1 : g.plain = true) (h2 : g.dep ≤ 6) (h3 : g.wid ≤ 5) (h4 : g.cnt ≤ 2) (h5 : g.sz ≤ 10) (h6 : g.all (Ed N W M L x Q)) (q0 : 0 < Q) (q1 : Q ≤ 40) (w1 : W ≤ 40) (m1 : M ≤ 40) (l0 : 0 < L) (qm : Q * M ≤ 40) (qw : Q * W ≤ 1600) (ql : Q * L ≤ 40) : ToOk N W M Q L x g where
  nd := hd
  len := by omega
  plain := h1
  dep := by omega
  wid := by omega
  cnt := by omega
  all := h6
  q0 := q0
  q1 := by omega
  wb := by omega
  mb := by omega
  qm := by omega
  qw := by omega
  l0 := l0
  sz := by omega
  ql := by omega
theorem two_ed {N : List Str} {W M : Nat} {Q L : Int} {x y : Str} {a b : Int} {ps : Prs} (h : Two N x y a b ps) (ha : a.natAbs ≤ W) (hb : b.natAbs ≤ W) (hq : (a.natAbs : Int) ∣ Q) (k : EK) (n : Int) (hk : ∀ z, k = .goes z → 1 ≤ z ∧ z ≤ M ∧ z ∣ L) : Ed N W M L x Q k n ps :=
  ⟨h.rg, fun p hp => by rcases h.le p hp with e | e <;> rw [e] <;> assumption, hk, fun _ => by rw [h.tx]; exact hq⟩
theorem two_rk {N : List Str} {x y : Str} {a b : Int} {ps : Prs} (h : Two N x y a b ps) (ha : a.natAbs ≤ 1000) (hb : b.natAbs ≤ 1000) (k : EK) (n : Int) (hk : ∀ z, k = .goes z → 1 ≤ z) : Rk k n ps :=
  ⟨fun p hp => by rcases h.le p hp with e | e <;> rw [e] <;> omega, hk⟩
theorem kind_ex (ns : List Int) (x y z r : Str) (kvs : Prs) (hd : [x, y, z].Nodup) (hy : y ∈ kvs.map (·.1)) (hz : z ∈ kvs.map (·.1)) : ∃ (q : Bool) (f : F) (due : Bool) (W M : Nat) (Q L : Int), m_law_kind [.scr ns, .lst ([x, y, z, r].map T.str), .dct kvs] = .ok (.t (.tup [.str (qw q), f.enc, .bl due])) ∧ Kd [x, y, z] x kvs q f due W M Q L := by
  have c3 : m_law_cell_at [.scr ns, .t (.int 3)] = .ok (.t (.int (cell ns 3))) := cell_s ns 3
  have c4 : m_law_cell_at [.scr ns, .t (.int 4)] = .ok (.t (.int (cell ns 4))) := cell_s ns 4
  have hb1 : 1 ≤ 1 + cell ns 3 % 40 := by omega
  have hb2 : 1 + cell ns 3 % 40 ≤ 40 := by omega
  generalize hby : 1 + cell ns 3 % 40 = by_ at hb1 hb2
  have hxy : x ≠ y := by simp at hd; exact hd.1.1
  have hxz : x ≠ z := by simp at hd; exact hd.1.2
  have hxN : x ∈ [x, y, z] := by simp
  have hyN : y ∈ [x, y, z] := by simp
  have hzN : z ∈ [x, y, z] := by simp
  have gy := dget_vl hy
  have gz := dget_vl hz
  obtain ⟨p1, t1, s1⟩ := sum2_ex hd hxN hyN hxy (show by_ ≠ 0 by omega) (show (-1 : Int) ≠ 0 by decide)
  obtain ⟨p2, t2, s2⟩ := sum2_ex hd hxN hzN hxz (show -by_ ≠ 0 by omega) (show (1 : Int) ≠ 0 by decide)
  obtain ⟨p3, t3, s3⟩ := sum2_ex hd hxN hyN hxy (show (1 : Int) ≠ 0 by decide) (show (1 : Int) ≠ 0 by decide)
  obtain ⟨p4, t4, s4⟩ := sum2_ex hd hxN hzN hxz (show (1 : Int) ≠ 0 by decide) (show (-1 : Int) ≠ 0 by decide)
  obtain ⟨p5, t5, s5⟩ := sum2_ex hd hxN hyN hxy (show (1 : Int) ≠ 0 by decide) (show (-1 : Int) ≠ 0 by decide)
  obtain ⟨p6, t6, s6⟩ := sum2_ex hd hxN hzN hxz (show (-1 : Int) ≠ 0 by decide) (show (1 : Int) ≠ 0 by decide)
  have hfree : ∀ {ps : Prs} {a b : Int} {u : Str}, Two [x, y, z] x u a b ps → ∀ k n, x ∈ (F.e k n ps).free [] := fun {ps a b u} t k n => by
    simp only [F.free]
    obtain ⟨p, hp, e⟩ := List.mem_map.mp t.xm
    exact List.mem_map.mpr ⟨p, List.mem_filter.mpr ⟨hp, by simp⟩, e⟩
  have uy : ∀ t, up (vl kvs) x t y = vl kvs y := fun t => by unfold up; rw [if_neg (fun e => hxy e.symm)]
  have uz : ∀ t, up (vl kvs) x t z = vl kvs z := fun t => by unfold up; rw [if_neg (fun e => hxz e.symm)]
  have ux : ∀ t, up (vl kvs) x t x = t := fun t => by unfold up; rw [if_pos rfl]
  have hmd : ∀ i : Int, modD (.t (.int i)) (.t (.int by_)) = .ok (.t (.int (i % by_))) := fun i => mod_ii _ _ (by omega)
  have hdv : ∀ i : Int, divD (.t (.int i)) (.t (.int by_)) = .ok (.t (.int (i / by_))) := fun i => div_ii _ _ (by omega) (by omega)
  generalize hlo : vl kvs y = lo at *
  generalize hhi : vl kvs z = hi at *
  have hml : mulD (.t (.int (lo / by_ + 1))) (.t (.int by_)) = .ok (.t (.int ((lo / by_ + 1) * by_))) := by
    simp only [mulD]
    rw [if_pos (mulOk_r (by omega) (by omega))]
  have w4 : cell ns 4 % 4 = 0 ∨ cell ns 4 % 4 = 1 ∨ cell ns 4 % 4 = 2 ∨ cell ns 4 % 4 = 3 := by omega
  have nm1 := fun (ps : Prs) (h : Rg [x, y, z] ps) => h.mem
  have pre : ∃ ρ : Ev, (∀ Tl : Ev → R Out, Rt ((seqO (setO 3 (b2 addD (kI 1) (b2 modD (ap m_law_cell_at (cA (rdE 0) (cA (kI 3) nA))) (kI 40))))
  (seqO (unpLO [9, 10, 11] (sl3 (rdE 1) sN (sS (kI 3))))
  (seqO (setO 4 (b2 dgetD (rdE 2) (rdE 10)))
  (seqO (setO 5 (b2 dgetD (rdE 2) (rdE 11)))
  (seqO (setO 6 (ap mkLst (cA (ap mkTup (cA (kS "above") (cA (ap m_law_sum (cA (kI 0) (cA (ap mkLst (cA (ap mkTup (cA (rdE 9) (cA (rdE 3) nA))) (cA (ap mkTup (cA (rdE 10) (cA (u1 negD (kI 1)) nA))) nA))) nA))) nA))) (cA (ap mkTup (cA (kS "above") (cA (ap m_law_sum (cA (kI 0) (cA (ap mkLst (cA (ap mkTup (cA (rdE 9) (cA (b2 subD (kI 0) (rdE 3)) nA))) (cA (ap mkTup (cA (rdE 11) (cA (kI 1) nA))) nA))) nA))) nA))) nA))))
  (seqO (setO 7 (b2 modD (ap m_law_cell_at (cA (rdE 0) (cA (kI 4) nA))) (kI 4))) Tl)))))) [.d (.scr ns) false, .d (.lst ([x, y, z, r].map T.str)) false, .d (.dct kvs) false, .un, .un, .un, .un, .un, .un, .un, .un, .un, .un]) = Rt (Tl ρ)) ∧ ρ = [.d (.scr ns) false, .d (.lst ([x, y, z, r].map T.str)) false, .d (.dct kvs) false, .d (.t (.int by_)) true, .d (.t (.int lo)) true, .d (.t (.int hi)) true, .d (.lst [(F.e .above 0 p1).enc, (F.e .above 0 p2).enc]) true, .d (.t (.int (cell ns 4 % 4))) true, .un, .d (.t (.str x)) true, .d (.t (.str y)) true, .d (.t (.str z)) true, .un] := by
    refine ⟨_, fun Tl => ?_, rfl⟩
    refine (Rt_seq (by simp [c3, hby]; rfl)).trans ?_
    refine (Rt_seq (by simp [unpLO]; rfl)).trans ?_
    refine (Rt_seq (by simp [gy]; rfl)).trans ?_
    refine (Rt_seq (by simp [gz]; rfl)).trans ?_
    refine (Rt_seq (by simp [s1, s2]; rfl)).trans ?_
    refine (Rt_seq (by simp [c4]; rfl)).trans ?_
    rfl
  obtain ⟨ρ, pre, hρ⟩ := pre
  have hk : ∀ d : D, Rt ((
  (seqO (ifO (tV (b2 eqD (rdE 7) (kI 0))) (retO (ap mkTup (cA (kS "some") (cA (ap mkTup (cA (kS "and") (cA (ap tupleD (cA (rdE 6) nA)) nA))) (cA (b2 ltD (b2 mulD (b2 addD (b2 divD (rdE 4) (rdE 3)) (kI 1)) (rdE 3)) (rdE 5)) nA))))) nxO)
  (seqO (ifO (tV (b2 eqD (rdE 7) (kI 1))) (retO (ap mkTup (cA (kS "some") (cA (ap mkTup (cA (kS "nought") (cA (ap m_law_sum (cA (kI 0) (cA (ap mkLst (cA (ap mkTup (cA (rdE 9) (cA (rdE 3) nA))) (cA (ap mkTup (cA (rdE 10) (cA (u1 negD (kI 1)) nA))) nA))) nA))) nA))) (cA (b2 eqD (b2 modD (rdE 4) (rdE 3)) (kI 0)) nA))))) nxO)
  (seqO (ifO (tV (b2 eqD (rdE 7) (kI 2))) (seqO (setO 12 (ap mkTup (cA (kS "goes") (cA (rdE 3) (cA (ap m_law_sum (cA (kI 0) (cA (ap mkLst (cA (ap mkTup (cA (rdE 9) (cA (kI 1) nA))) (cA (ap mkTup (cA (rdE 10) (cA (kI 1) nA))) nA))) nA))) nA)))))
    (retO (ap mkTup (cA (kS "some") (cA (ap mkTup (cA (kS "and") (cA (ap mkTup (cA (rdE 12) (cA (ap mkTup (cA (kS "above") (cA (ap m_law_sum (cA (kI 0) (cA (ap mkLst (cA (ap mkTup (cA (rdE 9) (cA (kI 1) nA))) (cA (ap mkTup (cA (rdE 11) (cA (u1 negD (kI 1)) nA))) nA))) nA))) nA))) nA))) nA))) (cA (kB true) nA)))))) nxO)
  (seqO (setO 8 (ap mkTup (cA (ap mkTup (cA (kS "above") (cA (ap m_law_sum (cA (kI 0) (cA (ap mkLst (cA (ap mkTup (cA (rdE 9) (cA (kI 1) nA))) (cA (ap mkTup (cA (rdE 10) (cA (u1 negD (kI 1)) nA))) nA))) nA))) nA))) (cA (ap mkTup (cA (kS "above") (cA (ap m_law_sum (cA (kI 0) (cA (ap mkLst (cA (ap mkTup (cA (rdE 9) (cA (u1 negD (kI 1)) nA))) (cA (ap mkTup (cA (rdE 11) (cA (kI 1) nA))) nA))) nA))) nA))) nA))))
  (retO (ap mkTup (cA (kS "all") (cA (ap mkTup (cA (kS "or") (cA (rdE 8) nA))) (cA (b2 ltD (rdE 4) (rdE 5)) nA)))))))))) ρ) = .ok d → m_law_kind [.scr ns, .lst ([x, y, z, r].map T.str), .dct kvs] = .ok d := fun d e => by
    unfold m_law_kind g_law_kind
    rw [runDef_Rt, ← e]
    exact pre _
  subst hρ
  rcases w4 with h | h | h | h
  · refine ⟨true, .nd true [.e .above 0 p1, .e .above 0 p2], decide ((lo / by_ + 1) * by_ < hi), 40, 1, by_, 1, hk _ ?_, ?_⟩
    · simp [h, hdv, hml, F.enc, F.encs]
    · have hls := lined_small (x := x) (f := .nd true [.e .above 0 p1, .e .above 0 p2]) (k1 := .above) (n1 := 0) (p1 := p1) (k2 := .above) (n2 := 0) (p2 := p2) (by simp [F.turn, F.turns])
      refine ⟨?_, rfl, by simp [F.dep, F.deps], by simp [F.wid, F.wids], by simp [F.sz, F.szs, t1.len, t2.len], by simp [F.cnt, F.cnts], ?_, ?_, ?_, hls.1, hls.2, by omega, ?_⟩
      · refine to_g hd (by simp) rfl (by simp [F.dep, F.deps]) (by simp [F.wid, F.wids]) (by simp [F.cnt, F.cnts]) (by simp [F.sz, F.szs, t1.len, t2.len]) ?_ (by omega) (by omega) (by omega) (by omega) (by omega) (by omega) (by omega) (by omega)
        show F.all _ (.nd true [.e .above 0 p1, .e .above 0 p2])
        simp only [F.all, F.alls]
        exact ⟨two_ed t1 (by omega) (by omega) (by have : (by_.natAbs : Int) = by_ := by omega
                                                   rw [this]; exact Int.dvd_refl _) _ _ (fun z e => by cases e), two_ed t2 (by omega) (by omega) (by have : ((-by_).natAbs : Int) = by_ := by omega
                                                                                                                                                     rw [this]; exact Int.dvd_refl _) _ _ (fun z e => by cases e), trivial⟩
      · simp only [F.all, F.alls]; exact ⟨t1.rg.mem, t2.rg.mem, trivial⟩
      · simp only [F.all, F.alls]; exact ⟨two_rk t1 (by omega) (by omega) _ _ (fun z e => by cases e), two_rk t2 (by omega) (by omega) _ _ (fun z e => by cases e), trivial⟩
      · simp only [F.free, F.frees, List.mem_append]; exact .inl (hfree t1 .above 0)
      · show (∃ t, (F.nd true [.e .above 0 p1, .e .above 0 p2]).tv (up (vl kvs) x t) = true) ↔ _
        simp only [F.tv, F.tvA, ek, t1.sv, t2.sv, ux, uy, uz, Bool.and_eq_true, decide_eq_true_eq, Int.neg_mul]
        constructor
        · rintro ⟨t, h1, h2, _⟩
          have h3 : lo / by_ < t := Int.ediv_lt_of_lt_mul (by omega) (by rw [Int.mul_comm]; omega)
          have h4 : (lo / by_ + 1) * by_ ≤ t * by_ := Int.mul_le_mul_of_nonneg_right (by omega) (by omega)
          rw [Int.mul_comm t] at h4
          omega
        · intro h1
          have h2 := Int.lt_ediv_add_one_mul_self lo (show 0 < by_ by omega)
          rw [Int.mul_comm] at h1 h2
          exact ⟨lo / by_ + 1, by omega, by omega, trivial⟩
  · refine ⟨true, .e .nought 0 p1, decide (lo % by_ = 0), 40, 1, by_, 1, hk _ ?_, ?_⟩
    · simp [h, hmd, s1, F.enc, F.encs]
    · have hls := lined_small (x := x) (f := .e .nought 0 p1) (k1 := .above) (n1 := 1 + 0) (p1 := norm p1) (k2 := .above) (n2 := 1 + -0) (p2 := norm (bk p1)) (by simp [F.turn, F.turns])
      refine ⟨?_, rfl, by simp [F.dep, F.deps], by simp [F.wid, F.wids], by simp [F.sz, F.szs, t1.len, t2.len], by simp [F.cnt, F.cnts], ?_, ?_, ?_, hls.1, hls.2, by omega, ?_⟩
      · refine to_g hd (by simp) rfl (by simp [F.dep, F.deps]) (by simp [F.wid, F.wids]) (by simp [F.cnt, F.cnts]) (by simp [F.sz, F.szs, t1.len, t2.len]) ?_ (by omega) (by omega) (by omega) (by omega) (by omega) (by omega) (by omega) (by omega)
        show F.all _ (.e .nought 0 p1)
        simp only [F.all, F.alls]
        exact two_ed t1 (by omega) (by omega) (by have : (by_.natAbs : Int) = by_ := by omega
                                                  rw [this]; exact Int.dvd_refl _) _ _ (fun z e => by cases e)
      · simp only [F.all, F.alls]; exact t1.rg.mem
      · simp only [F.all, F.alls]; exact two_rk t1 (by omega) (by omega) _ _ (fun z e => by cases e)
      · exact hfree t1 .nought 0
      · show (∃ t, (F.e .nought 0 p1).tv (up (vl kvs) x t) = true) ↔ _
        simp only [F.tv, F.tvA, ek, t1.sv, t2.sv, ux, uy, uz, Bool.and_eq_true, decide_eq_true_eq, Int.neg_mul]
        constructor
        · rintro ⟨t, h1⟩
          have : lo = by_ * t := by omega
          rw [this]; exact Int.mul_emod_right _ _
        · intro h1
          have h2 := Int.mul_ediv_cancel' (Int.dvd_of_emod_eq_zero h1)
          exact ⟨lo / by_, by omega⟩
  · refine ⟨true, .nd true [.e (.goes by_) 0 p3, .e .above 0 p4], true, 1, 40, 1, by_, hk _ ?_, ?_⟩
    · simp [h, s3, s4, F.enc, F.encs]
    · have hls := lined_small (x := x) (f := .nd true [.e (.goes by_) 0 p3, .e .above 0 p4]) (k1 := .goes by_) (n1 := 0) (p1 := p3) (k2 := .above) (n2 := 0) (p2 := p4) (by simp [F.turn, F.turns])
      refine ⟨?_, rfl, by simp [F.dep, F.deps], by simp [F.wid, F.wids], by simp [F.sz, F.szs, t3.len, t4.len], by simp [F.cnt, F.cnts], ?_, ?_, ?_, hls.1, hls.2, by omega, ?_⟩
      · refine to_g hd (by simp) rfl (by simp [F.dep, F.deps]) (by simp [F.wid, F.wids]) (by simp [F.cnt, F.cnts]) (by simp [F.sz, F.szs, t3.len, t4.len]) ?_ (by omega) (by omega) (by omega) (by omega) (by omega) (by omega) (by omega) (by omega)
        show F.all _ (.nd true [.e (.goes by_) 0 p3, .e .above 0 p4])
        simp only [F.all, F.alls]
        exact ⟨two_ed t3 (by omega) (by omega) (by decide) _ _ (fun z e => by cases e; exact ⟨by omega, by omega, Int.dvd_refl _⟩), two_ed t4 (by omega) (by omega) (by decide) _ _ (fun z e => by cases e), trivial⟩
      · simp only [F.all, F.alls]; exact ⟨t3.rg.mem, t4.rg.mem, trivial⟩
      · simp only [F.all, F.alls]; exact ⟨two_rk t3 (by omega) (by omega) _ _ (fun z e => by cases e; omega), two_rk t4 (by omega) (by omega) _ _ (fun z e => by cases e), trivial⟩
      · simp only [F.free, F.frees, List.mem_append]; exact .inl (hfree t3 (.goes by_) 0)
      · show (∃ t, (F.nd true [.e (.goes by_) 0 p3, .e .above 0 p4]).tv (up (vl kvs) x t) = true) ↔ _
        simp only [F.tv, F.tvA, ek, t3.sv, t4.sv, ux, uy, uz, Bool.and_eq_true, decide_eq_true_eq, Int.neg_mul]
        refine ⟨fun _ => trivial, fun _ => ?_⟩
        have hk1 : ((lo.natAbs + hi.natAbs + 1 : Nat) : Int) ≤ by_ * (lo.natAbs + hi.natAbs + 1 : Nat) := by
          have := Int.mul_le_mul_of_nonneg_right (show (1 : Int) ≤ by_ by omega) (show (0 : Int) ≤ ((lo.natAbs + hi.natAbs + 1 : Nat) : Int) by omega)
          simpa using this
        refine ⟨by_ * (lo.natAbs + hi.natAbs + 1 : Nat) - lo, ?_, by omega, trivial⟩
        have e : 0 + (1 * (by_ * ((lo.natAbs + hi.natAbs + 1 : Nat) : Int) - lo) + 1 * lo) = by_ * ((lo.natAbs + hi.natAbs + 1 : Nat) : Int) := by omega
        rw [e]; exact Int.mul_emod_right _ _
  · refine ⟨false, .nd false [.e .above 0 p5, .e .above 0 p6], decide (lo < hi), 1, 1, 1, 1, hk _ ?_, ?_⟩
    · simp [h, s5, s6, F.enc, F.encs]
    · have hls := lined_small (x := x) (f := .nt (.nd false [.e .above 0 p5, .e .above 0 p6])) (k1 := .above) (n1 := 1 + -0) (p1 := norm (bk p5)) (k2 := .above) (n2 := 1 + -0) (p2 := norm (bk p6)) (by simp [F.turn, F.turns])
      refine ⟨?_, rfl, by simp [F.dep, F.deps], by simp [F.wid, F.wids], by simp [F.sz, F.szs, t5.len, t6.len], by simp [F.cnt, F.cnts], ?_, ?_, ?_, hls.1, hls.2, by omega, ?_⟩
      · refine to_g hd (by simp) rfl (by simp [F.dep, F.deps]) (by simp [F.wid, F.wids]) (by simp [F.cnt, F.cnts]) (by simp [F.sz, F.szs, t5.len, t6.len]) ?_ (by omega) (by omega) (by omega) (by omega) (by omega) (by omega) (by omega) (by omega)
        show F.all _ (.nt (.nd false [.e .above 0 p5, .e .above 0 p6]))
        simp only [F.all, F.alls]
        exact ⟨two_ed t5 (by omega) (by omega) (by decide) _ _ (fun z e => by cases e), two_ed t6 (by omega) (by omega) (by decide) _ _ (fun z e => by cases e), trivial⟩
      · simp only [F.all, F.alls]; exact ⟨t5.rg.mem, t6.rg.mem, trivial⟩
      · simp only [F.all, F.alls]; exact ⟨two_rk t5 (by omega) (by omega) _ _ (fun z e => by cases e), two_rk t6 (by omega) (by omega) _ _ (fun z e => by cases e), trivial⟩
      · simp only [F.free, F.frees, List.mem_append]; exact .inl (hfree t5 .above 0)
      · show (∃ t, (F.nt (.nd false [.e .above 0 p5, .e .above 0 p6])).tv (up (vl kvs) x t) = true) ↔ _
        simp only [F.tv, F.tvO, ek, t5.sv, t6.sv, ux, uy, uz, Bool.not_eq_true', Bool.or_eq_false_iff, decide_eq_false_iff_not]
        constructor
        · rintro ⟨t, h1, h2, _⟩; omega
        · intro h1; exact ⟨hi, by omega, by omega, trivial⟩
theorem same_eq (a b : Bool) (h : a = b) : m_law_same [.t (.bl a), .t (.bl b)] = .ok (.t (.bl true)) := by
  unfold m_law_same g_law_same
  rw [runDef_Rt]
  subst h
  cases a <;> simp
theorem plain_law (w : World) (ns : List Int) (h : ns.length ≤ 63) : m_law w [.scr ns] = .ok (.t (.bl true)) := by
  unfold m_law g_law
  rw [runDef_Rt]
  have h4 := nams_len (cell ns 0)
  have hnd := nams_nd (cell ns 0)
  have hnm := nams_nm (cell ns 0)
  generalize hN : nams (cell ns 0) = N at h4 hnd hnm
  obtain ⟨x, y, z, r, rfl⟩ : ∃ x y z r, N = [x, y, z, r] := by
    rcases N with _ | ⟨x, _ | ⟨y, _ | ⟨z, _ | ⟨r, _ | ⟨s, t⟩⟩⟩⟩⟩ <;> simp at h4
    exact ⟨x, y, z, r, rfl⟩
  have c0 : m_law_cell_at [.scr ns, .t (.int 0)] = .ok (.t (.int (cell ns 0))) := cell_s ns 0
  have c1 : m_law_cell_at [.scr ns, .t (.int 1)] = .ok (.t (.int (cell ns 1))) := cell_s ns 1
  have c2 : m_law_cell_at [.scr ns, .t (.int 2)] = .ok (.t (.int (cell ns 2))) := cell_s ns 2
  have c5 : m_law_cell_at [.scr ns, .t (.int 5)] = .ok (.t (.int (cell ns 5))) := cell_s ns 5
  have hN0 : m_law_names_by [.t (.int (cell ns 0))] = .ok (.lst [.str x, .str y, .str z, .str r]) := by
    have := nams_eq (cell ns 0)
    rw [hN] at this
    exact this
  have hd3 : [x, y, z].Nodup := (List.take_sublist 3 [x, y, z, r]).nodup hnd
  have hnm3 : ∀ s ∈ [x, y, z], Nm s := fun s hs => hnm s (by simp at hs ⊢; rcases hs with e | e | e <;> simp [e])
  have key : ∀ kvs : Prs, y ∈ kvs.map (·.1) → z ∈ kvs.map (·.1) → kvs.length ≤ 10 →
      Rt ((seqO (unpO [6, 7, 8] (ap m_law_kind (cA (rdE 0) (cA (rdE 1) (cA (rdE 2) nA)))))
  (seqO (setO 3 (ap mkTup (cA (rdE 6) (cA (b2 ixD (rdE 1) (kI 0)) (cA (rdE 7) nA)))))
  (seqO (ifO (tNot1 (tV (ap m_law_same (cA (ap (m_holds w) (cA (rdE 3) (cA (rdE 2) nA))) (cA (rdE 8) nA))))) (retO (kB false)) nxO)
  (seqO (setO 4 (ap (m_left w 60) (cA (rdE 3) nA)))
  (seqO (ifO (tOr2 (tNot1 (tV (ap (m_law_plain_is 60) (cA (rdE 4) (cA (sl3 (rdE 1) (sS (kI 1)) (sS (kI 3))) nA))))) (tNot1 (tV (ap m_law_same (cA (ap m_is_true (cA (rdE 4) (cA (rdE 2) nA))) (cA (rdE 8) nA)))))) (retO (kB false)) nxO)
  (seqO (ifO (tV (b2 eqD (rdE 6) (kS "all"))) (seqO (setO 7 (ap mkTup (cA (kS "not") (cA (rdE 7) nA))))
    (setO 8 (vNot (rdE 8)))) nxO)
  (seqO (setO 5 (ap (m_told w) (cA (b2 ixD (rdE 1) (kI 0)) (cA (rdE 7) (cA (rdE 2) nA)))))
  (seqO (ifO (tNot1 (tV (rdE 8))) (retO (b2 isD (rdE 5) kN)) nxO)
  (seqO (ifO (tNot1 (tV (ap m_law_whole (cA (rdE 5) nA)))) (retO (kB false)) nxO)
  (seqO (dputO 2 (b2 ixD (rdE 1) (kI 0)) (rdE 5))
  (retO (ap (m_law_true 60) (cA (rdE 7) (cA (rdE 2) nA)))))))))))))) [.d (.scr ns) false, .d (.lst [.str x, .str y, .str z, .str r]) true, .d (.dct kvs) true, .un, .un, .un, .un, .un, .un]) = .ok (.t (.bl true)) := by
    intro kvs hy hz hkl
    obtain ⟨q, f, due, W, M, Q, L, hk, K⟩ := kind_ex ns x y z r kvs hd3 hy hz
    have hk' : m_law_kind [.scr ns, .lst [.str x, .str y, .str z, .str r], .dct kvs] = .ok (.t (.tup [.str (qw q), f.enc, .bl due])) := hk
    have hv : ∀ s ∈ [x, y, z], s ≠ x → s ∈ kvs.map (·.1) := fun s hs hne => by
      simp at hs
      rcases hs with e | e | e
      · exact absurd e hne
      · rw [e]; exact hy
      · rw [e]; exact hz
    have hgx : x ∈ (if q then f else .nt f : F).free [] := by
      cases q
      · simpa only [Bool.false_eq_true, if_false, F.free] using K.fr
      · simpa only [if_true] using K.fr
    have hgc : (if q then f else .nt f : F).cnt ≤ 2 := by
      have := K.cnt
      cases q
      · simpa only [Bool.false_eq_true, if_false, F.cnt] using this
      · simpa only [if_true] using this
    obtain ⟨TT, ht, t1, t2, t3, t4, t5, t6⟩ := taken_ex w K.ok hnm3 (by simp) hgx K.ld K.lv hgc K.ql
    have kdep := K.dep
    have kwid := K.wid
    have ksz := K.sz
    have hdue : (if q then TT else .nt TT : F).tv (vl kvs) = due := by
      have h1 := (t6 (vl kvs)).trans K.due
      cases q
      · simp only [Bool.false_eq_true, if_false, F.tv]
        cases hT : TT.tv (vl kvs) <;> cases due <;> simp [hT] at h1 ⊢
      · simp only [if_true]
        cases hT : TT.tv (vl kvs) <;> cases due <;> simp [hT] at h1 ⊢
    have hho := holds_qn w (N := [x, y, z]) q x f TT kvs (by simp) (by omega) K.plain (by omega) (by omega) K.nm ht t1 t2 t3 t5 hv
    have hle := left_qn w q x f TT (by omega) K.plain (by omega) ht
    have hg : (if q then TT else .nt TT : F).plain = true ∧ (if q then TT else .nt TT : F).all (Go [x, y, z] x) ∧ (if q then TT else .nt TT : F).dep ≤ 5 ∧ (if q then TT else .nt TT : F).sz < 4000 ∧ (if q then TT else .nt TT : F).wid ≤ 1300 := by
      have := wid_lv TT
      cases q
      · simp only [Bool.false_eq_true, if_false, F.plain, F.all, F.dep, F.sz, F.wid]; exact ⟨t1, t2, by omega, t5, by omega⟩
      · simp only [if_true]; exact ⟨t1, t2, by omega, t5, by omega⟩
    obtain ⟨g1, g2, g3, g4, g5⟩ := hg
    have hit := is_true_eq2 (if q then TT else .nt TT) [x, y, z] kvs (by omega) g4 (all_mono (fun k n ps q => q.1.mem) _ g2) (go_rk g2) (by simp) g1 (go_nx g2 g1 _ hv)
    have hL : ∀ s ∈ [x, y, z], s ≠ x → s ∈ [y, z] := fun s hs hne => by
      simp at hs ⊢
      rcases hs with e | e | e
      · exact absurd e hne
      · exact .inl e
      · exact .inr e
    have hpi := plain_is_eq [y, z] (fun s hs e => by have := (hnm3 s (List.mem_cons_of_mem _ hs)).1; rw [e] at this; simp at this) 60 (if q then TT else .nt TT) (by omega) g1 (by omega) (go_pn hd3 g2 [y, z] hL)
    simp only [List.map_cons, List.map_nil] at hpi
    rw [hdue] at hho hit
    have hsa := same_eq due due rfl
    generalize (if q then TT else .nt TT : F) = PL at hho hle hit hpi
    have hqn : T.tup [.str (qw q), .str x, f.enc] = (F.qn q x f).enc := rfl
    refine (Rt_seq (by simp [unpO, hk']; rfl)).trans ?_
    refine (Rt_seq (by simp [hqn]; rfl)).trans ?_
    refine (Rt_seq (by simp [hho, hsa]; rfl)).trans ?_
    refine (Rt_seq (by simp [hle]; rfl)).trans ?_
    have hsl : slD (.lst [T.str x, T.str y, T.str z, T.str r]) (some 1) (some 3) = .ok (.lst [T.str y, T.str z]) := by
      simp only [slD, cutT]
      rw [show (some (1 : Int)) = some ((1 : Nat) : Int) from rfl, show (some (3 : Int)) = some ((3 : Nat) : Int) from rfl, HT.sIx_nat, HT.sIx_nat]
      rfl
    refine (Rt_seq (by simp [hsl, hpi, hit, hsa]; rfl)).trans ?_
    -- told
    have hP := K.ok
    have hdu := K.due
    have hgv : ∀ s ∈ (if q then f else .nt f : F).free [], s ≠ x → s ∈ kvs.map (·.1) := fun s hs hne => by
      have : s ∈ f.free [] := by
        cases q
        · simpa only [Bool.false_eq_true, if_false, F.free] using hs
        · simpa only [if_true] using hs
      exact hv s (free_sub f [] _ K.nm s this) hne
    have hgR : (if q then f else .nt f : F).all Rk := by
      have := K.rk
      cases q
      · simpa only [Bool.false_eq_true, if_false, F.all] using this
      · simpa only [if_true] using this
    have fin : ∀ (g : F) (d : Bool) (k3 k4 k6 : Sl), ToOk [x, y, z] W M Q L x g → (∀ s ∈ g.free [], s ≠ x → s ∈ kvs.map (·.1)) → g.all Rk → ((∃ t, g.tv (up (vl kvs) x t) = true) ↔ d = true) →
        Rt ((seqO (setO 5 (ap (m_told w) (cA (b2 ixD (rdE 1) (kI 0)) (cA (rdE 7) (cA (rdE 2) nA)))))
  (seqO (ifO (tNot1 (tV (rdE 8))) (retO (b2 isD (rdE 5) kN)) nxO)
  (seqO (ifO (tNot1 (tV (ap m_law_whole (cA (rdE 5) nA)))) (retO (kB false)) nxO)
  (seqO (dputO 2 (b2 ixD (rdE 1) (kI 0)) (rdE 5))
  (retO (ap (m_law_true 60) (cA (rdE 7) (cA (rdE 2) nA)))))))) [.d (.scr ns) false, .d (.lst [.str x, .str y, .str z, .str r]) true, .d (.dct kvs) true, k3, k4, .un, k6, .d (.t g.enc) true, .d (.t (.bl d)) true]) = .ok (.t (.bl true)) := by
      intro g d k3 k4 k6 P hgv hgR hdu
      have hpd := P.dep
      rcases told_eq w P kvs hgv with ⟨t, e1, e2⟩ | ⟨e1, e2⟩
      · have hd : d = true := hdu.mp ⟨t, e2⟩
        subst hd
        have hkl : kvs.length < 16777216 := by omega
        have hu := ltrue_eq (putL kvs x t) 60 g (by omega) P.plain hgR (all_free _ g P.plain fun s hs => by
          rw [mem_put]
          by_cases e : s = x
          · exact .inr e
          · exact .inl (hgv s hs e))
        rw [vl_up, e2] at hu
        refine (Rt_seq (by simp [e1]; rfl)).trans ?_
        refine (Rt_seq (by simp; rfl)).trans ?_
        refine (Rt_seq (by simp; rfl)).trans ?_
        refine (Rt_seq (by simp [dputO, hkl]; rfl)).trans ?_
        simp [hu]
      · have hd : d = false := by
          cases d with
          | false => rfl
          | true =>
            obtain ⟨t, q⟩ := hdu.mpr rfl
            rw [e2 t] at q; cases q
        subst hd
        refine (Rt_seq (by simp [e1]; rfl)).trans ?_
        simp
    cases q with
    | true =>
      simp only [if_true] at hP hdu hgv hgR
      refine (Rt_seq (by simp; rfl)).trans ?_
      exact fin f due _ _ _ hP hgv hgR hdu
    | false =>
      simp only [Bool.false_eq_true, if_false] at hP hdu hgv hgR
      have := fin (.nt f) (!due) (.d (.t (F.qn false x f).enc) true) (.d (.t PL.enc) true) (.d (.t (.str (qw false))) true) hP hgv hgR (by rw [hdu]; cases due <;> simp)
      simp only [F.enc] at this
      refine (Rt_seq (by simp; rfl)).trans ?_
      simp only [F.enc]
      exact this
  have hxy : ¬ y = z := by simp at hd3; exact hd3.2
  refine (Rt_seq (by simp [c0, hN0]; rfl)).trans ?_
  refine (Rt_seq (by simp; rfl)).trans ?_
  refine (Rt_seq (by simp [c1, dputO]; rfl)).trans ?_
  have l1 : (putL [] y (big (cell ns 1))).length < 16777216 := by rw [len_put]; split <;> simp
  refine (Rt_seq (by simp [c2, dputO, l1]; rfl)).trans ?_
  have m1 : ∀ b, y ∈ (putL (putL [] y (big (cell ns 1))) z b).map (·.1) := fun b => by rw [mem_put, mem_put]; exact .inl (.inr rfl)
  have m2 : ∀ b, z ∈ (putL (putL [] y (big (cell ns 1))) z b).map (·.1) := fun b => by rw [mem_put]; exact .inr rfl
  have l2 : ∀ b, (putL (putL [] y (big (cell ns 1))) z b).length ≤ 2 := fun b => by
    rw [len_put, len_put]; split <;> split <;> simp
  by_cases h5 : cell ns 5 % 2 = 1
  · have gy := dget_vl (m1 (big (cell ns 2)))
    have l3 : (putL (putL [] y (big (cell ns 1))) z (big (cell ns 2))).length < 16777216 := by have := l2 (big (cell ns 2)); omega
    generalize hkv : putL (putL [] y (big (cell ns 1))) z (big (cell ns 2)) = kv at *
    refine (Rt_seq (by simp [c5, h5, dputO, gy, l3]; rfl)).trans ?_
    have hyk := m1 (big (cell ns 2))
    have hzk := m2 (big (cell ns 2))
    have hlk := l2 (big (cell ns 2))
    rw [hkv] at hyk hzk hlk
    refine key (putL kv z _) ?_ ?_ ?_
    · rw [mem_put]; exact .inl hyk
    · rw [mem_put]; exact .inr rfl
    · rw [len_put]; split <;> omega
  · refine (Rt_seq (by simp [c5, h5]; rfl)).trans ?_
    exact key _ (m1 _) (m2 _) (by have := l2 (big (cell ns 2)); omega)
end Pf

set_option Elab.async false
set_option linter.all false
set_option maxRecDepth 100000
set_option maxHeartbeats 4000000
namespace Pf
open PySem L2
def topS (i : Nat) : Stmt := PySem.Challenge.pw_somenumber_k09_far_numbers.main.body.getD i (.Pass ⟨0, 0, 0, 0⟩)
abbrev s_made : Stmt := topS 5
theorem sc_made : FnScope ["number", "pairs", "shares", "pair", "name"] ["number", "pairs"] (defScope s_made) := ⟨rfl, rfl, rfl, by decide +kernel, rfl, by decide +kernel, by decide +kernel⟩
abbrev s_added : Stmt := topS 6
theorem sc_added : FnScope ["one", "other"] ["one", "other"] (defScope s_added) := ⟨rfl, rfl, rfl, by decide +kernel, rfl, by decide +kernel, by decide +kernel⟩
abbrev s_times : Stmt := topS 7
theorem sc_times : FnScope ["number", "one", "pair"] ["number", "one"] (defScope s_times) := ⟨rfl, rfl, rfl, by decide +kernel, rfl, by decide +kernel, by decide +kernel⟩
abbrev s_share : Stmt := topS 8
theorem sc_share : FnScope ["one", "name", "pair"] ["one", "name"] (defScope s_share) := ⟨rfl, rfl, rfl, by decide +kernel, rfl, by decide +kernel, by decide +kernel⟩
abbrev s_without : Stmt := topS 9
theorem sc_without : FnScope ["one", "name", "pair"] ["one", "name"] (defScope s_without) := ⟨rfl, rfl, rfl, by decide +kernel, rfl, by decide +kernel, by decide +kernel⟩
abbrev s_put_in : Stmt := topS 10
theorem sc_put_in : FnScope ["one", "name", "other"] ["one", "name", "other"] (defScope s_put_in) := ⟨rfl, rfl, rfl, by decide +kernel, rfl, by decide +kernel, by decide +kernel⟩
abbrev s_value : Stmt := topS 11
theorem sc_value : FnScope ["one", "values", "total", "pair"] ["one", "values"] (defScope s_value) := ⟨rfl, rfl, rfl, by decide +kernel, rfl, by decide +kernel, by decide +kernel⟩
abbrev s_is_plain : Stmt := topS 13
theorem sc_is_plain : FnScope ["statement", "kind", "part"] ["statement"] (defScope s_is_plain) := ⟨rfl, rfl, rfl, by decide +kernel, rfl, by decide +kernel, by decide +kernel⟩
abbrev s_need_plain : Stmt := topS 14
theorem sc_need_plain : FnScope ["statement"] ["statement"] (defScope s_need_plain) := ⟨rfl, rfl, rfl, by decide +kernel, rfl, by decide +kernel, by decide +kernel⟩
abbrev s_free_in : Stmt := topS 15
theorem sc_free_in : FnScope ["statement", "bound", "kind", "names", "part", "pair"] ["statement", "bound"] (defScope s_free_in) := ⟨rfl, rfl, rfl, by decide +kernel, rfl, by decide +kernel, by decide +kernel⟩
abbrev s_unknowns : Stmt := topS 16
theorem sc_unknowns : FnScope ["statement"] ["statement"] (defScope s_unknowns) := ⟨rfl, rfl, rfl, by decide +kernel, rfl, by decide +kernel, by decide +kernel⟩
abbrev s_need_values : Stmt := topS 17
theorem sc_need_values : FnScope ["names", "values", "name"] ["names", "values"] (defScope s_need_values) := ⟨rfl, rfl, rfl, by decide +kernel, rfl, by decide +kernel, by decide +kernel⟩
abbrev s_truth : Stmt := topS 18
theorem sc_truth : FnScope ["statement", "values", "kind", "number", "part"] ["statement", "values"] (defScope s_truth) := ⟨rfl, rfl, rfl, by decide +kernel, rfl, by decide +kernel, by decide +kernel⟩
abbrev s_is_true : Stmt := topS 19
theorem sc_is_true : FnScope ["statement", "values"] ["statement", "values"] (defScope s_is_true) := ⟨rfl, rfl, rfl, by decide +kernel, rfl, by decide +kernel, by decide +kernel⟩
abbrev s_replaced : Stmt := topS 20
theorem sc_replaced : FnScope ["statement", "name", "other", "kind", "part"] ["statement", "name", "other"] (defScope s_replaced) := ⟨rfl, rfl, rfl, by decide +kernel, rfl, by decide +kernel, by decide +kernel⟩
abbrev s_put : Stmt := topS 21
theorem sc_put : FnScope ["statement", "name", "other"] ["statement", "name", "other"] (defScope s_put) := ⟨rfl, rfl, rfl, by decide +kernel, rfl, by decide +kernel, by decide +kernel⟩
abbrev s_parts_of : Stmt := topS 25
theorem sc_parts_of : FnScope ["statement", "kind"] ["statement", "kind"] (defScope s_parts_of) := ⟨rfl, rfl, rfl, by decide +kernel, rfl, by decide +kernel, by decide +kernel⟩
abbrev s_all_of : Stmt := topS 26
theorem sc_all_of : FnScope ["statements", "seen", "statement", "part"] ["statements"] (defScope s_all_of) := ⟨rfl, rfl, rfl, by decide +kernel, rfl, by decide +kernel, by decide +kernel⟩
abbrev s_one_of : Stmt := topS 27
theorem sc_one_of : FnScope ["statements", "seen", "statement", "part"] ["statements"] (defScope s_one_of) := ⟨rfl, rfl, rfl, by decide +kernel, rfl, by decide +kernel, by decide +kernel⟩
abbrev s_decided : Stmt := topS 28
theorem sc_decided : FnScope ["statement"] ["statement"] (defScope s_decided) := ⟨rfl, rfl, rfl, by decide +kernel, rfl, by decide +kernel, by decide +kernel⟩
abbrev s_filled : Stmt := topS 29
theorem sc_filled : FnScope ["statement", "name", "other", "kind", "end", "part"] ["statement", "name", "other"] (defScope s_filled) := ⟨rfl, rfl, rfl, by decide +kernel, rfl, by decide +kernel, by decide +kernel⟩
abbrev s_turned : Stmt := topS 31
theorem sc_turned : FnScope ["statement", "yes", "kind", "one", "back", "parts", "part"] ["statement", "yes"] (defScope s_turned) := ⟨rfl, rfl, rfl, by decide +kernel, rfl, by decide +kernel, by decide +kernel⟩
abbrev s_ends_of : Stmt := topS 32
theorem sc_ends_of : FnScope ["statement", "kind", "ends", "part"] ["statement"] (defScope s_ends_of) := ⟨rfl, rfl, rfl, by decide +kernel, rfl, by decide +kernel, by decide +kernel⟩
abbrev s_least_times : Stmt := topS 33
theorem sc_least_times : FnScope ["one", "other", "high", "low"] ["one", "other"] (defScope s_least_times) := ⟨rfl, rfl, rfl, by decide +kernel, rfl, by decide +kernel, by decide +kernel⟩
abbrev s_end_stretched : Stmt := topS 34
theorem sc_end_stretched : FnScope ["end", "name", "size", "by", "far", "longer"] ["end", "name", "size"] (defScope s_end_stretched) := ⟨rfl, rfl, rfl, by decide +kernel, rfl, by decide +kernel, by decide +kernel⟩
abbrev s_stretched : Stmt := topS 35
theorem sc_stretched : FnScope ["statement", "name", "size", "kind", "part"] ["statement", "name", "size"] (defScope s_stretched) := ⟨rfl, rfl, rfl, by decide +kernel, rfl, by decide +kernel, by decide +kernel⟩
abbrev s_prepared : Stmt := topS 36
theorem sc_prepared : FnScope ["statement", "name", "lined", "size", "end", "step", "by"] ["statement", "name"] (defScope s_prepared) := ⟨rfl, rfl, rfl, by decide +kernel, rfl, by decide +kernel, by decide +kernel⟩
abbrev s_bounds_of : Stmt := topS 37
theorem sc_bounds_of : FnScope ["statement", "name", "sign", "seen", "end"] ["statement", "name", "sign"] (defScope s_bounds_of) := ⟨rfl, rfl, rfl, by decide +kernel, rfl, by decide +kernel, by decide +kernel⟩
abbrev s_far_below : Stmt := topS 38
theorem sc_far_below : FnScope ["statement", "name", "kind", "part"] ["statement", "name"] (defScope s_far_below) := ⟨rfl, rfl, rfl, by decide +kernel, rfl, by decide +kernel, by decide +kernel⟩
abbrev s_taken : Stmt := topS 39
theorem sc_taken : FnScope ["name", "statement", "below", "parts", "bound", "lined", "size", "step", "k"] ["name", "statement"] (defScope s_taken) := ⟨rfl, rfl, rfl, by decide +kernel, rfl, by decide +kernel, by decide +kernel⟩
abbrev s_left : Stmt := topS 40
theorem sc_left : FnScope ["statement", "kind", "part"] ["statement"] (defScope s_left) := ⟨rfl, rfl, rfl, by decide +kernel, rfl, by decide +kernel, by decide +kernel⟩
abbrev s_holds : Stmt := topS 42
theorem sc_holds : FnScope ["statement", "values"] ["statement", "values"] (defScope s_holds) := ⟨rfl, rfl, rfl, by decide +kernel, rfl, by decide +kernel, by decide +kernel⟩
abbrev s_tries_of : Stmt := topS 43
theorem sc_tries_of : FnScope ["lined", "name", "step", "lows", "highs", "least", "tries", "low", "k", "bound"] ["lined", "name", "step"] (defScope s_tries_of) := ⟨rfl, rfl, rfl, by decide +kernel, rfl, by decide +kernel, by decide +kernel⟩
abbrev s_told : Stmt := topS 44
theorem sc_told : FnScope ["name", "statement", "values", "plain", "other", "number", "lined", "size", "step"] ["name", "statement", "values"] (defScope s_told) := ⟨rfl, rfl, rfl, by decide +kernel, rfl, by decide +kernel, by decide +kernel⟩
abbrev s_law_cell_at : Stmt := topS 46
theorem sc_law_cell_at : FnScope ["_law_script", "_law_k"] ["_law_script", "_law_k"] (defScope s_law_cell_at) := ⟨rfl, rfl, rfl, by decide +kernel, rfl, by decide +kernel, by decide +kernel⟩
abbrev s_law_whole : Stmt := topS 47
theorem sc_law_whole : FnScope ["_law_got"] ["_law_got"] (defScope s_law_whole) := ⟨rfl, rfl, rfl, by decide +kernel, rfl, by decide +kernel, by decide +kernel⟩
abbrev s_law_names_by : Stmt := topS 48
theorem sc_law_names_by : FnScope ["_law_cell", "_law_letters", "_law_size", "_law_word", "_law_number", "_law_k", "_law_spot", "_law_usual"] ["_law_cell"] (defScope s_law_names_by) := ⟨rfl, rfl, rfl, by decide +kernel, rfl, by decide +kernel, by decide +kernel⟩
abbrev s_law_big_by : Stmt := topS 49
theorem sc_law_big_by : FnScope ["_law_cell", "_law_number", "_law_mixed", "_law_k"] ["_law_cell"] (defScope s_law_big_by) := ⟨rfl, rfl, rfl, by decide +kernel, rfl, by decide +kernel, by decide +kernel⟩
abbrev s_law_value : Stmt := topS 50
theorem sc_law_value : FnScope ["_law_one", "_law_values", "_law_total", "_law_pair"] ["_law_one", "_law_values"] (defScope s_law_value) := ⟨rfl, rfl, rfl, by decide +kernel, rfl, by decide +kernel, by decide +kernel⟩
abbrev s_law_true : Stmt := topS 51
theorem sc_law_true : FnScope ["_law_statement", "_law_values", "_law_kind_here", "_law_number", "_law_part"] ["_law_statement", "_law_values"] (defScope s_law_true) := ⟨rfl, rfl, rfl, by decide +kernel, rfl, by decide +kernel, by decide +kernel⟩
abbrev s_law_sum_is : Stmt := topS 52
theorem sc_law_sum_is : FnScope ["_law_one", "_law_names", "_law_last", "_law_pair"] ["_law_one", "_law_names"] (defScope s_law_sum_is) := ⟨rfl, rfl, rfl, by decide +kernel, rfl, by decide +kernel, by decide +kernel⟩
abbrev s_law_plain_is : Stmt := topS 53
theorem sc_law_plain_is : FnScope ["_law_statement", "_law_names", "_law_kind_here", "_law_part"] ["_law_statement", "_law_names"] (defScope s_law_plain_is) := ⟨rfl, rfl, rfl, by decide +kernel, rfl, by decide +kernel, by decide +kernel⟩
abbrev s_law_sum : Stmt := topS 54
theorem sc_law_sum : FnScope ["_law_number", "_law_pairs", "_law_pair"] ["_law_number", "_law_pairs"] (defScope s_law_sum) := ⟨rfl, rfl, rfl, by decide +kernel, rfl, by decide +kernel, by decide +kernel⟩
abbrev s_law_kind : Stmt := topS 55
theorem sc_law_kind : FnScope ["_law_script", "_law_names", "_law_values", "_law_by", "_law_low", "_law_high", "_law_between", "_law_way", "_law_parts", "_law_x", "_law_y", "_law_z", "_law_rest"] ["_law_script", "_law_names", "_law_values"] (defScope s_law_kind) := ⟨rfl, rfl, rfl, by decide +kernel, rfl, by decide +kernel, by decide +kernel⟩
abbrev s_law_same : Stmt := topS 56
theorem sc_law_same : FnScope ["_law_got", "_law_due"] ["_law_got", "_law_due"] (defScope s_law_same) := ⟨rfl, rfl, rfl, by decide +kernel, rfl, by decide +kernel, by decide +kernel⟩
abbrev s_law : Stmt := topS 57
theorem sc_law : FnScope ["_law_script", "_law_names", "_law_values", "_law_statement", "_law_plain", "_law_got", "_law_kind_here", "_law_body", "_law_due"] ["_law_script"] (defScope s_law) := ⟨rfl, rfl, rfl, by decide +kernel, rfl, by decide +kernel, by decide +kernel⟩
section
variable {P : Program} {w : World} {K : PySem.W.Frag} {mg : Str → Option Value} {base : Heap} {C : Nat → Addr}
theorem ok_made (D_ : DefAt K mg "made" s_made) (z_tuple : mg "tuple" = none) (z_sorted : mg "sorted" = none) : Cal P w K mg base C "made" 1 2 m_made :=
  cal_def (N := ["number", "pairs", "shares", "pair", "name"]) (ps := ["number", "pairs"]) D_ sc_made (fun _ _ _ _ _ _ us hl => match us, hl with | [_, _], _ => rfl) rfl rfl (by decide) fun f cdv A outer s H E hr =>
    (sb_cons (ss_set (i := 2) sn_dnew sc_made.nd)
    (sb_cons (ss_forN passOwnX rfl (pv 1) (pg_name (i := 3) sc_made.nd rfl (by first | exact Or.inl rfl | exact Or.inr rfl)) (sb_one (ss_dput (hu_of hr) (pv 2) (SN.toE (sn_sub_ix (se_var (pv 3)) (SN.toE sn_int))) (SN.toE (sn_add (SN.toE (sn_dget2 (hu_of hr) (se_var (pv 2)) (SN.toE (sn_sub_ix (se_var (pv 3)) (SN.toE sn_int))) (SN.toE sn_int))) (SN.toE (sn_sub_ix (se_var (pv 3)) (SN.toE sn_int))))))))
    (sb_one (ss_ret (sn_tup (sa_cons (se_var (pv 0)) (sa_cons (SN.toE (sn_tuple (sa_cons (SN.toE (sn_lcL (x := "name") (j := 4) rfl sc_made.nd (SN.toE (sn_sorted rfl (sa_cons (se_var (pv 2)) sa_nil) z_sorted)) (blkOk_by (N := ["number", "pairs", "shares", "pair", "name"]) (sc := defScope s_made) (own := [("name", 4)]) (by decide +kernel)) (fun _ _ _ _ _ => pg_name (i := 4) sc_made.nd rfl (by first | exact Or.inl rfl | exact Or.inr rfl)) (fun _ _ _ _ _ => (pts_can1 (st_ne hr.units (SN.toE (sn_dget (hu_of hr) (se_var (pv 2)) (se_var (pv 4)))) (SN.toE sn_int)))) (fun _ _ _ _ _ => (sn_tup (sa_cons (se_var (pv 4)) (sa_cons (SN.toE (sn_dget (hu_of hr) (se_var (pv 2)) (se_var (pv 4)))) sa_nil)))))) sa_nil) z_tuple)) sa_nil)))))))
theorem ok_added (D_ : DefAt K mg "added" s_added) (c_made : Cal P w K mg base C "made" 1 2 m_made) (z_list : mg "list" = none) : Cal P w K mg base C "added" 2 2 m_added :=
  cal_def (N := ["one", "other"]) (ps := ["one", "other"]) D_ sc_added (fun _ _ _ _ _ _ us hl => match us, hl with | [_, _], _ => rfl) rfl rfl (by decide) fun f cdv A outer s H E hr =>
    (sb_one (ss_ret (sn_cal c_made (hr.mono (by decide)) passX (sa_cons (SN.toE (sn_add (SN.toE (sn_sub_ix (se_var (pv 0)) (SN.toE sn_int))) (SN.toE (sn_sub_ix (se_var (pv 1)) (SN.toE sn_int))))) (sa_cons (SN.toE (sn_add (SN.toE (sn_list (sa_cons (SN.toE (sn_sub_ix (se_var (pv 0)) (SN.toE sn_int))) sa_nil) z_list)) (SN.toE (sn_list (sa_cons (SN.toE (sn_sub_ix (se_var (pv 1)) (SN.toE sn_int))) sa_nil) z_list)))) sa_nil)))))
theorem ok_times (D_ : DefAt K mg "times" s_times) (c_made : Cal P w K mg base C "made" 1 2 m_made) : Cal P w K mg base C "times" 2 2 m_times :=
  cal_def (N := ["number", "one", "pair"]) (ps := ["number", "one"]) D_ sc_times (fun _ _ _ _ _ _ us hl => match us, hl with | [_, _], _ => rfl) rfl rfl (by decide) fun f cdv A outer s H E hr =>
    (sb_one (ss_ret (sn_cal c_made (hr.mono (by decide)) passX (sa_cons (SN.toE (sn_mul (se_var (pv 0)) (SN.toE (sn_sub_ix (se_var (pv 1)) (SN.toE sn_int))))) (sa_cons (SN.toE (sn_lcT (x := "pair") (j := 2) rfl sc_times.nd (SN.toE (sn_sub_ix (se_var (pv 1)) (SN.toE sn_int))) (blkOk_by (N := ["number", "one", "pair"]) (sc := defScope s_times) (own := [("pair", 2)]) (by decide +kernel)) (fun _ _ _ _ _ => pg_name (i := 2) sc_times.nd rfl (by first | exact Or.inl rfl | exact Or.inr rfl)) (fun _ _ _ _ _ => pts_can0) (fun _ _ _ _ _ => (sn_tup (sa_cons (SN.toE (sn_sub_ix (se_var (pv 2)) (SN.toE sn_int))) (sa_cons (SN.toE (sn_mul (se_var (pv 0)) (SN.toE (sn_sub_ix (se_var (pv 2)) (SN.toE sn_int))))) sa_nil)))))) sa_nil)))))
theorem ok_share (D_ : DefAt K mg "share" s_share) : Cal P w K mg base C "share" 1 2 m_share :=
  cal_def (N := ["one", "name", "pair"]) (ps := ["one", "name"]) D_ sc_share (fun _ _ _ _ _ _ us hl => match us, hl with | [_, _], _ => rfl) rfl rfl (by decide) fun f cdv A outer s H E hr =>
    (sb_cons (ss_forT passOwnX rfl (SN.toE (sn_sub_ix (se_var (pv 0)) (SN.toE sn_int))) (pg_name (i := 2) sc_share.nd rfl (by first | exact Or.inl rfl | exact Or.inr rfl)) (sb_one (ss_if (st_eq hr.units (SN.toE (sn_sub_ix (se_var (pv 2)) (SN.toE sn_int))) (se_var (pv 1))) (sb_one (ss_ret (sn_sub_ix (se_var (pv 2)) (SN.toE sn_int)))) sb_nil)))
    (sb_one (ss_ret sn_int)))
theorem ok_without (D_ : DefAt K mg "without" s_without) (z_tuple : mg "tuple" = none) : Cal P w K mg base C "without" 1 2 m_without :=
  cal_def (N := ["one", "name", "pair"]) (ps := ["one", "name"]) D_ sc_without (fun _ _ _ _ _ _ us hl => match us, hl with | [_, _], _ => rfl) rfl rfl (by decide) fun f cdv A outer s H E hr =>
    (sb_one (ss_ret (sn_tup (sa_cons (SN.toE (sn_sub_ix (se_var (pv 0)) (SN.toE sn_int))) (sa_cons (SN.toE (sn_tuple (sa_cons (SN.toE (sn_lcT (x := "pair") (j := 2) rfl sc_without.nd (SN.toE (sn_sub_ix (se_var (pv 0)) (SN.toE sn_int))) (blkOk_by (N := ["one", "name", "pair"]) (sc := defScope s_without) (own := [("pair", 2)]) (by decide +kernel)) (fun _ _ _ _ _ => pg_name (i := 2) sc_without.nd rfl (by first | exact Or.inl rfl | exact Or.inr rfl)) (fun _ _ _ _ _ => (pts_can1 (st_ne hr.units (SN.toE (sn_sub_ix (se_var (pv 2)) (SN.toE sn_int))) (se_var (pv 1))))) (fun _ _ _ _ _ => (sn_var (pv 2))))) sa_nil) z_tuple)) sa_nil)))))
theorem ok_put_in (D_ : DefAt K mg "put_in" s_put_in) (c_without : Cal P w K mg base C "without" 1 2 m_without) (c_share : Cal P w K mg base C "share" 1 2 m_share) (c_times : Cal P w K mg base C "times" 2 2 m_times) (c_added : Cal P w K mg base C "added" 2 2 m_added) : Cal P w K mg base C "put_in" 3 3 m_put_in :=
  cal_def (N := ["one", "name", "other"]) (ps := ["one", "name", "other"]) D_ sc_put_in (fun _ _ _ _ _ _ us hl => match us, hl with | [_, _, _], _ => rfl) rfl rfl (by decide) fun f cdv A outer s H E hr =>
    (sb_one (ss_ret (sn_cal c_added (hr.mono (by decide)) passX (sa_cons (SN.toE (sn_cal c_without (hr.mono (by decide)) passX (sa_cons (se_var (pv 0)) (sa_cons (se_var (pv 1)) sa_nil)))) (sa_cons (SN.toE (sn_cal c_times (hr.mono (by decide)) passX (sa_cons (SN.toE (sn_cal c_share (hr.mono (by decide)) passX (sa_cons (se_var (pv 0)) (sa_cons (se_var (pv 1)) sa_nil)))) (sa_cons (se_var (pv 2)) sa_nil)))) sa_nil)))))
theorem ok_value (D_ : DefAt K mg "value" s_value) (e_NoValue : ExcAt K mg C "NoValue" 0) : Cal P w K mg base C "value" 1 2 m_value :=
  cal_def (N := ["one", "values", "total", "pair"]) (ps := ["one", "values"]) D_ sc_value (fun _ _ _ _ _ _ us hl => match us, hl with | [_, _], _ => rfl) rfl rfl (by decide) fun f cdv A outer s H E hr =>
    (sb_cons (ss_set (i := 2) (sn_sub_ix (se_var (pv 0)) (SN.toE sn_int)) sc_value.nd)
    (sb_cons (ss_forT passOwnX rfl (SN.toE (sn_sub_ix (se_var (pv 0)) (SN.toE sn_int))) (pg_name (i := 3) sc_value.nd rfl (by first | exact Or.inl rfl | exact Or.inr rfl)) (sb_cons (ss_if (st_nin (hu_of hr) (SN.toE (sn_sub_ix (se_var (pv 3)) (SN.toE sn_int))) (se_var (pv 1))) (sb_one (ss_raise e_NoValue rfl takesX)) sb_nil)
      (sb_one (ss_set (i := 2) (sn_add (se_var (pv 2)) (SN.toE (sn_mul (SN.toE (sn_sub_ix (se_var (pv 3)) (SN.toE sn_int))) (SN.toE (sn_dget (hu_of hr) (se_var (pv 1)) (SN.toE (sn_sub_ix (se_var (pv 3)) (SN.toE sn_int)))))))) sc_value.nd))))
    (sb_one (ss_retN (pv 2)))))
theorem ok_is_plain (D_ : DefAt K mg "is_plain" s_is_plain) : ∀ n : Nat, Cal P w K mg base C "is_plain" (0 + n) 1 (m_is_plain n)
  | 0 => cal_none (ps := ["statement"]) D_ (fun _ _ _ _ _ _ us hl => match us, hl with | [_], _ => rfl) rfl
  | n + 1 => by
    have ih := ok_is_plain D_ n
    exact cal_def (N := ["statement", "kind", "part"]) (ps := ["statement"]) D_ sc_is_plain (fun _ _ _ _ _ _ us hl => match us, hl with | [_], _ => rfl) rfl rfl (by decide) fun f cdv A outer s H E hr =>
    (sb_cons (ss_set (i := 1) (sn_sub_ix (se_var (pv 0)) (SN.toE sn_int)) sc_is_plain.nd)
    (sb_cons (ss_if (st_eq hr.units (se_var (pv 1)) (SN.toE sn_str)) (sb_one (ss_ret (sn_cal ih (hr.mono (Nat.le_refl _)) passX (sa_cons (SN.toE (sn_sub_ix (se_var (pv 0)) (SN.toE sn_int))) sa_nil)))) sb_nil)
    (sb_cons (ss_if (SW.st (sw_or (st_eq hr.units (se_var (pv 1)) (SN.toE sn_str)) (sw_or1 (st_eq hr.units (se_var (pv 1)) (SN.toE sn_str))))) (sb_one (ss_forT passOwnX rfl (SN.toE (sn_sub_ix (se_var (pv 0)) (SN.toE sn_int))) (pg_name (i := 2) sc_is_plain.nd rfl (by first | exact Or.inl rfl | exact Or.inr rfl)) (sb_one (ss_if (st_not (st_val (SN.toE (sn_cal ih (hr.mono (Nat.le_refl _)) passX (sa_cons (se_var (pv 2)) sa_nil))))) (sb_one (ss_ret sn_bl)) sb_nil)))) sb_nil)
    (sb_one (ss_ret (sn_and (SN.toE (sn_ne hr.units (se_var (pv 1)) (SN.toE sn_str))) (sn_one (sn_ne hr.units (se_var (pv 1)) (SN.toE sn_str)))))))))
theorem ok_need_plain (D_ : DefAt K mg "need_plain" s_need_plain) (c_is_plain : Cal P w K mg base C "is_plain" 60 1 (m_is_plain 60)) (e_NotPlain : ExcAt K mg C "NotPlain" 1) : Cal P w K mg base C "need_plain" 61 1 m_need_plain :=
  cal_def (N := ["statement"]) (ps := ["statement"]) D_ sc_need_plain (fun _ _ _ _ _ _ us hl => match us, hl with | [_], _ => rfl) rfl rfl (by decide) fun f cdv A outer s H E hr =>
    (sb_one (ss_if (st_not (st_val (SN.toE (sn_cal c_is_plain (hr.mono (by decide)) passX (sa_cons (se_var (pv 0)) sa_nil))))) (sb_one (ss_raise e_NotPlain rfl takesX)) sb_nil))
theorem ok_free_in (D_ : DefAt K mg "free_in" s_free_in) : ∀ n : Nat, Cal P w K mg base C "free_in" (0 + n) 2 (m_free_in n)
  | 0 => cal_none (ps := ["statement", "bound"]) D_ (fun _ _ _ _ _ _ us hl => match us, hl with | [_, _], _ => rfl) rfl
  | n + 1 => by
    have ih := ok_free_in D_ n
    exact cal_def (N := ["statement", "bound", "kind", "names", "part", "pair"]) (ps := ["statement", "bound"]) D_ sc_free_in (fun _ _ _ _ _ _ us hl => match us, hl with | [_, _], _ => rfl) rfl rfl (by decide) fun f cdv A outer s H E hr =>
    (sb_cons (ss_set (i := 2) (sn_sub_ix (se_var (pv 0)) (SN.toE sn_int)) sc_free_in.nd)
    (sb_cons (ss_if (st_eq hr.units (se_var (pv 2)) (SN.toE sn_str)) (sb_one (ss_ret (sn_cal ih (hr.mono (Nat.le_refl _)) passX (sa_cons (SN.toE (sn_sub_ix (se_var (pv 0)) (SN.toE sn_int))) (sa_cons (se_var (pv 1)) sa_nil))))) sb_nil)
    (sb_cons (ss_if (SW.st (sw_or (st_eq hr.units (se_var (pv 2)) (SN.toE sn_str)) (sw_or1 (st_eq hr.units (se_var (pv 2)) (SN.toE sn_str))))) (sb_one (ss_ret (sn_cal ih (hr.mono (Nat.le_refl _)) passX (sa_cons (SN.toE (sn_sub_ix (se_var (pv 0)) (SN.toE sn_int))) (sa_cons (SN.toE (sn_add (se_var (pv 1)) (SN.toE (sn_lst (sa_cons (SN.toE (sn_sub_ix (se_var (pv 0)) (SN.toE sn_int))) sa_nil))))) sa_nil))))) sb_nil)
    (sb_cons (ss_if (SW.st (sw_or (st_eq hr.units (se_var (pv 2)) (SN.toE sn_str)) (sw_or1 (st_eq hr.units (se_var (pv 2)) (SN.toE sn_str))))) (sb_cons (ss_set (i := 3) (sn_lst sa_nil) sc_free_in.nd)
      (sb_cons (ss_forT passOwnX rfl (SN.toE (sn_sub_ix (se_var (pv 0)) (SN.toE sn_int))) (pg_name (i := 4) sc_free_in.nd rfl (by first | exact Or.inl rfl | exact Or.inr rfl)) (sb_one (ss_ext (pv 3) (SN.toE (sn_cal ih (hr.mono (Nat.le_refl _)) passX (sa_cons (se_var (pv 4)) (sa_cons (se_var (pv 1)) sa_nil)))))))
      (sb_one (ss_retN (pv 3))))) sb_nil)
    (sb_one (ss_ret (sn_lcT (x := "pair") (j := 5) rfl sc_free_in.nd (SN.toE (sn_sub_ix (SN.toE (sn_sub_ix (se_var (pv 0)) (SN.toE (sn_neg (SN.toE sn_int))))) (SN.toE sn_int))) (blkOk_by (N := ["statement", "bound", "kind", "names", "part", "pair"]) (sc := defScope s_free_in) (own := [("pair", 5)]) (by decide +kernel)) (fun _ _ _ _ _ => pg_name (i := 5) sc_free_in.nd rfl (by first | exact Or.inl rfl | exact Or.inr rfl)) (fun _ _ _ _ _ => (pts_can1 (st_nin (hu_of hr) (SN.toE (sn_sub_ix (se_var (pv 5)) (SN.toE sn_int))) (se_var (pv 1))))) (fun _ _ _ _ _ => (sn_sub_ix (se_var (pv 5)) (SN.toE sn_int))))))))))
theorem ok_unknowns (D_ : DefAt K mg "unknowns" s_unknowns) (c_free_in : Cal P w K mg base C "free_in" 60 2 (m_free_in 60)) (z_sorted : mg "sorted" = none) (z_set : mg "set" = none) : Cal P w K mg base C "unknowns" 61 1 m_unknowns :=
  cal_def (N := ["statement"]) (ps := ["statement"]) D_ sc_unknowns (fun _ _ _ _ _ _ us hl => match us, hl with | [_], _ => rfl) rfl rfl (by decide) fun f cdv A outer s H E hr =>
    (sb_one (ss_ret (sn_sset rfl (SN.toE (sn_cal c_free_in (hr.mono (by decide)) passX (sa_cons (se_var (pv 0)) (sa_cons (SN.toE (sn_lst sa_nil)) sa_nil)))) z_sorted z_set)))
theorem ok_need_values (D_ : DefAt K mg "need_values" s_need_values) (e_NoValue : ExcAt K mg C "NoValue" 0) : Cal P w K mg base C "need_values" 1 2 m_need_values :=
  cal_def (N := ["names", "values", "name"]) (ps := ["names", "values"]) D_ sc_need_values (fun _ _ _ _ _ _ us hl => match us, hl with | [_, _], _ => rfl) rfl rfl (by decide) fun f cdv A outer s H E hr =>
    (sb_one (ss_forN passOwnX rfl (pv 0) (pg_name (i := 2) sc_need_values.nd rfl (by first | exact Or.inl rfl | exact Or.inr rfl)) (sb_one (ss_if (st_nin (hu_of hr) (se_var (pv 2)) (se_var (pv 1))) (sb_one (ss_raise e_NoValue rfl takesX)) sb_nil))))
theorem ok_truth (D_ : DefAt K mg "truth" s_truth) (c_value : Cal P w K mg base C "value" 1 2 m_value) : ∀ n : Nat, Cal P w K mg base C "truth" (1 + n) 2 (m_truth n)
  | 0 => cal_none (ps := ["statement", "values"]) D_ (fun _ _ _ _ _ _ us hl => match us, hl with | [_, _], _ => rfl) rfl
  | n + 1 => by
    have ih := ok_truth D_ c_value n
    exact cal_def (N := ["statement", "values", "kind", "number", "part"]) (ps := ["statement", "values"]) D_ sc_truth (fun _ _ _ _ _ _ us hl => match us, hl with | [_, _], _ => rfl) rfl rfl (by decide) fun f cdv A outer s H E hr =>
    (sb_cons (ss_set (i := 2) (sn_sub_ix (se_var (pv 0)) (SN.toE sn_int)) sc_truth.nd)
    (sb_cons (ss_if (st_eq hr.units (se_var (pv 2)) (SN.toE sn_str)) (sb_one (ss_ret (sn_not (SN.toE (sn_cal ih (hr.mono (Nat.le_refl _)) passX (sa_cons (SN.toE (sn_sub_ix (se_var (pv 0)) (SN.toE sn_int))) (sa_cons (se_var (pv 1)) sa_nil))))))) sb_nil)
    (sb_cons (ss_if (st_eq hr.units (se_var (pv 2)) (SN.toE sn_str)) (sb_cons (ss_forT passOwnX rfl (SN.toE (sn_sub_ix (se_var (pv 0)) (SN.toE sn_int))) (pg_name (i := 4) sc_truth.nd rfl (by first | exact Or.inl rfl | exact Or.inr rfl)) (sb_one (ss_if (st_not (st_val (SN.toE (sn_cal ih (hr.mono (Nat.le_refl _)) passX (sa_cons (se_var (pv 4)) (sa_cons (se_var (pv 1)) sa_nil)))))) (sb_one (ss_ret sn_bl)) sb_nil)))
      (sb_one (ss_ret sn_bl))) sb_nil)
    (sb_cons (ss_if (st_eq hr.units (se_var (pv 2)) (SN.toE sn_str)) (sb_cons (ss_forT passOwnX rfl (SN.toE (sn_sub_ix (se_var (pv 0)) (SN.toE sn_int))) (pg_name (i := 4) sc_truth.nd rfl (by first | exact Or.inl rfl | exact Or.inr rfl)) (sb_one (ss_if (st_val (SN.toE (sn_cal ih (hr.mono (Nat.le_refl _)) passX (sa_cons (se_var (pv 4)) (sa_cons (se_var (pv 1)) sa_nil))))) (sb_one (ss_ret sn_bl)) sb_nil)))
      (sb_one (ss_ret sn_bl))) sb_nil)
    (sb_cons (ss_set (i := 3) (sn_cal c_value (hr.mono (Nat.le_trans (by decide) (Nat.le_add_right _ _))) passX (sa_cons (SN.toE (sn_sub_ix (se_var (pv 0)) (SN.toE (sn_neg (SN.toE sn_int))))) (sa_cons (se_var (pv 1)) sa_nil))) sc_truth.nd)
    (sb_cons (ss_if (st_eq hr.units (se_var (pv 2)) (SN.toE sn_str)) (sb_one (ss_ret (sn_eq hr.units (SN.toE (sn_mod (se_var (pv 3)) (SN.toE (sn_sub_ix (se_var (pv 0)) (SN.toE sn_int))))) (SN.toE sn_int)))) sb_nil)
    (sb_cons (ss_if (st_eq hr.units (se_var (pv 2)) (SN.toE sn_str)) (sb_one (ss_ret (sn_gt (se_var (pv 3)) (SN.toE sn_int)))) sb_nil)
    (sb_one (ss_ret (sn_eq hr.units (se_var (pv 3)) (SN.toE sn_int)))))))))))
theorem ok_is_true (D_ : DefAt K mg "is_true" s_is_true) (c_need_plain : Cal P w K mg base C "need_plain" 61 1 m_need_plain) (c_unknowns : Cal P w K mg base C "unknowns" 61 1 m_unknowns) (c_need_values : Cal P w K mg base C "need_values" 1 2 m_need_values) (c_truth : Cal P w K mg base C "truth" 61 2 (m_truth 60)) : Cal P w K mg base C "is_true" 62 2 m_is_true :=
  cal_def (N := ["statement", "values"]) (ps := ["statement", "values"]) D_ sc_is_true (fun _ _ _ _ _ _ us hl => match us, hl with | [_, _], _ => rfl) rfl rfl (by decide) fun f cdv A outer s H E hr =>
    (sb_cons (ss_expr (SN.toE (sn_cal c_need_plain (hr.mono (by decide)) passX (sa_cons (se_var (pv 0)) sa_nil))))
    (sb_cons (ss_expr (SN.toE (sn_cal c_need_values (hr.mono (by decide)) passX (sa_cons (SN.toE (sn_cal c_unknowns (hr.mono (by decide)) passX (sa_cons (se_var (pv 0)) sa_nil))) (sa_cons (se_var (pv 1)) sa_nil)))))
    (sb_one (ss_ret (sn_cal c_truth (hr.mono (by decide)) passX (sa_cons (se_var (pv 0)) (sa_cons (se_var (pv 1)) sa_nil)))))))
theorem ok_replaced (D_ : DefAt K mg "replaced" s_replaced) (c_put_in : Cal P w K mg base C "put_in" 3 3 m_put_in) (z_tuple : mg "tuple" = none) : ∀ n : Nat, Cal P w K mg base C "replaced" (3 + n) 3 (m_replaced n)
  | 0 => cal_none (ps := ["statement", "name", "other"]) D_ (fun _ _ _ _ _ _ us hl => match us, hl with | [_, _, _], _ => rfl) rfl
  | n + 1 => by
    have ih := ok_replaced D_ c_put_in z_tuple n
    exact cal_def (N := ["statement", "name", "other", "kind", "part"]) (ps := ["statement", "name", "other"]) D_ sc_replaced (fun _ _ _ _ _ _ us hl => match us, hl with | [_, _, _], _ => rfl) rfl rfl (by decide) fun f cdv A outer s H E hr =>
    (sb_cons (ss_set (i := 3) (sn_sub_ix (se_var (pv 0)) (SN.toE sn_int)) sc_replaced.nd)
    (sb_cons (ss_if (st_eq hr.units (se_var (pv 3)) (SN.toE sn_str)) (sb_one (ss_ret (sn_tup (sa_cons (SN.toE sn_str) (sa_cons (SN.toE (sn_cal ih (hr.mono (Nat.le_refl _)) passX (sa_cons (SN.toE (sn_sub_ix (se_var (pv 0)) (SN.toE sn_int))) (sa_cons (se_var (pv 1)) (sa_cons (se_var (pv 2)) sa_nil))))) sa_nil))))) sb_nil)
    (sb_cons (ss_if (SW.st (sw_or (st_eq hr.units (se_var (pv 3)) (SN.toE sn_str)) (sw_or1 (st_eq hr.units (se_var (pv 3)) (SN.toE sn_str))))) (sb_one (ss_ret (sn_tup (sa_cons (se_var (pv 3)) (sa_cons (SN.toE (sn_tuple (sa_cons (SN.toE (sn_lcT (x := "part") (j := 4) rfl sc_replaced.nd (SN.toE (sn_sub_ix (se_var (pv 0)) (SN.toE sn_int))) (blkOk_by (N := ["statement", "name", "other", "kind", "part"]) (sc := defScope s_replaced) (own := [("part", 4)]) (by decide +kernel)) (fun _ _ _ _ _ => pg_name (i := 4) sc_replaced.nd rfl (by first | exact Or.inl rfl | exact Or.inr rfl)) (fun _ _ _ _ _ => pts_can0) (fun _ _ _ _ _ => (sn_cal ih (hr.mono (Nat.le_refl _)) passL (sa_cons (se_var (pv 4)) (sa_cons (se_var (pv 1)) (sa_cons (se_var (pv 2)) sa_nil))))))) sa_nil) z_tuple)) sa_nil))))) sb_nil)
    (sb_cons (ss_if (st_eq hr.units (se_var (pv 3)) (SN.toE sn_str)) (sb_one (ss_ret (sn_tup (sa_cons (SN.toE sn_str) (sa_cons (SN.toE (sn_sub_ix (se_var (pv 0)) (SN.toE sn_int))) (sa_cons (SN.toE (sn_cal c_put_in (hr.mono (Nat.le_trans (by decide) (Nat.le_add_right _ _))) passX (sa_cons (SN.toE (sn_sub_ix (se_var (pv 0)) (SN.toE sn_int))) (sa_cons (se_var (pv 1)) (sa_cons (se_var (pv 2)) sa_nil))))) sa_nil)))))) sb_nil)
    (sb_one (ss_ret (sn_tup (sa_cons (se_var (pv 3)) (sa_cons (SN.toE (sn_cal c_put_in (hr.mono (Nat.le_trans (by decide) (Nat.le_add_right _ _))) passX (sa_cons (SN.toE (sn_sub_ix (se_var (pv 0)) (SN.toE sn_int))) (sa_cons (se_var (pv 1)) (sa_cons (se_var (pv 2)) sa_nil))))) sa_nil)))))))))
theorem ok_put (D_ : DefAt K mg "put" s_put) (c_need_plain : Cal P w K mg base C "need_plain" 61 1 m_need_plain) (c_replaced : Cal P w K mg base C "replaced" 63 3 (m_replaced 60)) : Cal P w K mg base C "put" 64 3 m_put :=
  cal_def (N := ["statement", "name", "other"]) (ps := ["statement", "name", "other"]) D_ sc_put (fun _ _ _ _ _ _ us hl => match us, hl with | [_, _, _], _ => rfl) rfl rfl (by decide) fun f cdv A outer s H E hr =>
    (sb_cons (ss_expr (SN.toE (sn_cal c_need_plain (hr.mono (by decide)) passX (sa_cons (se_var (pv 0)) sa_nil))))
    (sb_one (ss_ret (sn_cal c_replaced (hr.mono (by decide)) passX (sa_cons (se_var (pv 0)) (sa_cons (se_var (pv 1)) (sa_cons (se_var (pv 2)) sa_nil)))))))
theorem ok_parts_of (D_ : DefAt K mg "parts_of" s_parts_of) : Cal P w K mg base C "parts_of" 1 2 m_parts_of :=
  cal_def (N := ["statement", "kind"]) (ps := ["statement", "kind"]) D_ sc_parts_of (fun _ _ _ _ _ _ us hl => match us, hl with | [_, _], _ => rfl) rfl rfl (by decide) fun f cdv A outer s H E hr =>
    (sb_cons (ss_if (st_eq hr.units (SN.toE (sn_sub_ix (se_var (pv 0)) (SN.toE sn_int))) (se_var (pv 1))) (sb_one (ss_ret (sn_sub_ix (se_var (pv 0)) (SN.toE sn_int)))) sb_nil)
    (sb_one (ss_ret (sn_tup (sa_cons (se_var (pv 0)) sa_nil)))))
theorem ok_all_of (D_ : DefAt K mg "all_of" s_all_of) (c_parts_of : Cal P w K mg base C "parts_of" 1 2 m_parts_of) (z_len : mg "len" = none) (z_list : mg "list" = none) (z_tuple : mg "tuple" = none) (y_NO : GlobT K mg "NO" t_NO) : Cal P w K mg base C "all_of" 2 1 (m_all_of w) :=
  cal_def (N := ["statements", "seen", "statement", "part"]) (ps := ["statements"]) D_ sc_all_of (fun _ _ _ _ _ _ us hl => match us, hl with | [_], _ => rfl) rfl rfl (by decide) fun f cdv A outer s H E hr =>
    (sb_cons (ss_set (i := 1) sn_snew sc_all_of.nd)
    (sb_cons (ss_forN passOwnX rfl (pv 0) (pg_name (i := 2) sc_all_of.nd rfl (by first | exact Or.inl rfl | exact Or.inr rfl)) (sb_cons (ss_if (st_eq hr.units (se_var (pv 2)) (SN.toE (sn_globT (t := t_NO) y_NO))) (sb_one (ss_ret (sn_globT (t := t_NO) y_NO))) sb_nil)
      (sb_one (ss_forT passOwnX rfl (SN.toE (sn_cal c_parts_of (hr.mono (by decide)) passX (sa_cons (se_var (pv 2)) (sa_cons (SN.toE sn_str) sa_nil)))) (pg_name (i := 3) sc_all_of.nd rfl (by first | exact Or.inl rfl | exact Or.inr rfl)) (sb_one (ss_sput hr.units (pv 1) (se_var (pv 3)) (SN.toE sn_bl)))))))
    (sb_cons (ss_if (st_eq hr.units (SN.toE (sn_lenSn rfl (sa_cons (se_var (pv 1)) sa_nil) z_len)) (SN.toE sn_int)) (sb_one (ss_ret (sn_sub_ix (SN.toE (sn_listSn rfl (sa_cons (se_var (pv 1)) sa_nil) z_list)) (SN.toE sn_int)))) sb_nil)
    (sb_one (ss_ret (sn_tup (sa_cons (SN.toE sn_str) (sa_cons (SN.toE (sn_tupleSn rfl (sa_cons (se_var (pv 1)) sa_nil) z_tuple)) sa_nil))))))))
theorem ok_one_of (D_ : DefAt K mg "one_of" s_one_of) (c_parts_of : Cal P w K mg base C "parts_of" 1 2 m_parts_of) (z_len : mg "len" = none) (z_list : mg "list" = none) (z_tuple : mg "tuple" = none) (y_YES : GlobT K mg "YES" t_YES) : Cal P w K mg base C "one_of" 2 1 (m_one_of w) :=
  cal_def (N := ["statements", "seen", "statement", "part"]) (ps := ["statements"]) D_ sc_one_of (fun _ _ _ _ _ _ us hl => match us, hl with | [_], _ => rfl) rfl rfl (by decide) fun f cdv A outer s H E hr =>
    (sb_cons (ss_set (i := 1) sn_snew sc_one_of.nd)
    (sb_cons (ss_forN passOwnX rfl (pv 0) (pg_name (i := 2) sc_one_of.nd rfl (by first | exact Or.inl rfl | exact Or.inr rfl)) (sb_cons (ss_if (st_eq hr.units (se_var (pv 2)) (SN.toE (sn_globT (t := t_YES) y_YES))) (sb_one (ss_ret (sn_globT (t := t_YES) y_YES))) sb_nil)
      (sb_one (ss_forT passOwnX rfl (SN.toE (sn_cal c_parts_of (hr.mono (by decide)) passX (sa_cons (se_var (pv 2)) (sa_cons (SN.toE sn_str) sa_nil)))) (pg_name (i := 3) sc_one_of.nd rfl (by first | exact Or.inl rfl | exact Or.inr rfl)) (sb_one (ss_sput hr.units (pv 1) (se_var (pv 3)) (SN.toE sn_bl)))))))
    (sb_cons (ss_if (st_eq hr.units (SN.toE (sn_lenSn rfl (sa_cons (se_var (pv 1)) sa_nil) z_len)) (SN.toE sn_int)) (sb_one (ss_ret (sn_sub_ix (SN.toE (sn_listSn rfl (sa_cons (se_var (pv 1)) sa_nil) z_list)) (SN.toE sn_int)))) sb_nil)
    (sb_one (ss_ret (sn_tup (sa_cons (SN.toE sn_str) (sa_cons (SN.toE (sn_tupleSn rfl (sa_cons (se_var (pv 1)) sa_nil) z_tuple)) sa_nil))))))))
theorem ok_decided (D_ : DefAt K mg "decided" s_decided) (c_truth : Cal P w K mg base C "truth" 61 2 (m_truth 60)) (y_YES : GlobT K mg "YES" t_YES) (y_NO : GlobT K mg "NO" t_NO) : Cal P w K mg base C "decided" 62 1 m_decided :=
  cal_def (N := ["statement"]) (ps := ["statement"]) D_ sc_decided (fun _ _ _ _ _ _ us hl => match us, hl with | [_], _ => rfl) rfl rfl (by decide) fun f cdv A outer s H E hr =>
    (sb_cons (ss_if (st_ne hr.units (SN.toE (sn_sub_ix (SN.toE (sn_sub_ix (se_var (pv 0)) (SN.toE (sn_neg (SN.toE sn_int))))) (SN.toE sn_int))) (SN.toE (sn_tup sa_nil))) (sb_one (ss_retN (pv 0))) sb_nil)
    (sb_cons (ss_if (st_val (SN.toE (sn_cal c_truth (hr.mono (by decide)) passX (sa_cons (se_var (pv 0)) (sa_cons (SN.toE sn_dnew) sa_nil))))) (sb_one (ss_ret (sn_globT (t := t_YES) y_YES))) sb_nil)
    (sb_one (ss_ret (sn_globT (t := t_NO) y_NO)))))
theorem ok_filled (D_ : DefAt K mg "filled" s_filled) (c_all_of : Cal P w K mg base C "all_of" 2 1 (m_all_of w)) (c_one_of : Cal P w K mg base C "one_of" 2 1 (m_one_of w)) (c_put_in : Cal P w K mg base C "put_in" 3 3 m_put_in) (c_decided : Cal P w K mg base C "decided" 62 1 m_decided) (y_YES : GlobT K mg "YES" t_YES) (y_NO : GlobT K mg "NO" t_NO) : ∀ n : Nat, Cal P w K mg base C "filled" (62 + n) 3 (m_filled w n)
  | 0 => cal_none (ps := ["statement", "name", "other"]) D_ (fun _ _ _ _ _ _ us hl => match us, hl with | [_, _, _], _ => rfl) rfl
  | n + 1 => by
    have ih := ok_filled D_ c_all_of c_one_of c_put_in c_decided y_YES y_NO n
    exact cal_def (N := ["statement", "name", "other", "kind", "end", "part"]) (ps := ["statement", "name", "other"]) D_ sc_filled (fun _ _ _ _ _ _ us hl => match us, hl with | [_, _, _], _ => rfl) rfl rfl (by decide) fun f cdv A outer s H E hr =>
    (sb_cons (ss_set (i := 3) (sn_sub_ix (se_var (pv 0)) (SN.toE sn_int)) sc_filled.nd)
    (sb_cons (ss_if (st_eq hr.units (se_var (pv 3)) (SN.toE sn_str)) (sb_one (ss_ret (sn_cal c_all_of (hr.mono (Nat.le_trans (by decide) (Nat.le_add_right _ _))) passX (sa_cons (SN.toE (sn_lcT (x := "part") (j := 5) rfl sc_filled.nd (SN.toE (sn_sub_ix (se_var (pv 0)) (SN.toE sn_int))) (blkOk_by (N := ["statement", "name", "other", "kind", "end", "part"]) (sc := defScope s_filled) (own := [("part", 5)]) (by decide +kernel)) (fun _ _ _ _ _ => pg_name (i := 5) sc_filled.nd rfl (by first | exact Or.inl rfl | exact Or.inr rfl)) (fun _ _ _ _ _ => pts_can0) (fun _ _ _ _ _ => (sn_cal ih (hr.mono (Nat.le_refl _)) passL (sa_cons (se_var (pv 5)) (sa_cons (se_var (pv 1)) (sa_cons (se_var (pv 2)) sa_nil))))))) sa_nil)))) sb_nil)
    (sb_cons (ss_if (st_eq hr.units (se_var (pv 3)) (SN.toE sn_str)) (sb_one (ss_ret (sn_cal c_one_of (hr.mono (Nat.le_trans (by decide) (Nat.le_add_right _ _))) passX (sa_cons (SN.toE (sn_lcT (x := "part") (j := 5) rfl sc_filled.nd (SN.toE (sn_sub_ix (se_var (pv 0)) (SN.toE sn_int))) (blkOk_by (N := ["statement", "name", "other", "kind", "end", "part"]) (sc := defScope s_filled) (own := [("part", 5)]) (by decide +kernel)) (fun _ _ _ _ _ => pg_name (i := 5) sc_filled.nd rfl (by first | exact Or.inl rfl | exact Or.inr rfl)) (fun _ _ _ _ _ => pts_can0) (fun _ _ _ _ _ => (sn_cal ih (hr.mono (Nat.le_refl _)) passL (sa_cons (se_var (pv 5)) (sa_cons (se_var (pv 1)) (sa_cons (se_var (pv 2)) sa_nil))))))) sa_nil)))) sb_nil)
    (sb_cons (ss_if (st_eq hr.units (se_var (pv 3)) (SN.toE sn_str)) (sb_cons (ss_set (i := 4) (sn_cal ih (hr.mono (Nat.le_refl _)) passX (sa_cons (SN.toE (sn_sub_ix (se_var (pv 0)) (SN.toE sn_int))) (sa_cons (se_var (pv 1)) (sa_cons (se_var (pv 2)) sa_nil)))) sc_filled.nd)
      (sb_cons (ss_if (st_eq hr.units (se_var (pv 4)) (SN.toE (sn_globT (t := t_YES) y_YES))) (sb_one (ss_ret (sn_globT (t := t_NO) y_NO))) sb_nil)
      (sb_cons (ss_if (st_eq hr.units (se_var (pv 4)) (SN.toE (sn_globT (t := t_NO) y_NO))) (sb_one (ss_ret (sn_globT (t := t_YES) y_YES))) sb_nil)
      (sb_one (ss_ret (sn_tup (sa_cons (SN.toE sn_str) (sa_cons (se_var (pv 4)) sa_nil)))))))) sb_nil)
    (sb_cons (ss_if (st_eq hr.units (se_var (pv 3)) (SN.toE sn_str)) (sb_one (ss_ret (sn_cal c_decided (hr.mono (Nat.le_trans (by decide) (Nat.le_add_right _ _))) passX (sa_cons (SN.toE (sn_tup (sa_cons (SN.toE sn_str) (sa_cons (SN.toE (sn_sub_ix (se_var (pv 0)) (SN.toE sn_int))) (sa_cons (SN.toE (sn_cal c_put_in (hr.mono (Nat.le_trans (by decide) (Nat.le_add_right _ _))) passX (sa_cons (SN.toE (sn_sub_ix (se_var (pv 0)) (SN.toE sn_int))) (sa_cons (se_var (pv 1)) (sa_cons (se_var (pv 2)) sa_nil))))) sa_nil))))) sa_nil)))) sb_nil)
    (sb_one (ss_ret (sn_cal c_decided (hr.mono (Nat.le_trans (by decide) (Nat.le_add_right _ _))) passX (sa_cons (SN.toE (sn_tup (sa_cons (SN.toE sn_str) (sa_cons (SN.toE (sn_cal c_put_in (hr.mono (Nat.le_trans (by decide) (Nat.le_add_right _ _))) passX (sa_cons (SN.toE (sn_sub_ix (se_var (pv 0)) (SN.toE sn_int))) (sa_cons (se_var (pv 1)) (sa_cons (se_var (pv 2)) sa_nil))))) sa_nil)))) sa_nil)))))))))
theorem ok_turned (D_ : DefAt K mg "turned" s_turned) (c_times : Cal P w K mg base C "times" 2 2 m_times) (c_added : Cal P w K mg base C "added" 2 2 m_added) (z_tuple : mg "tuple" = none) : ∀ n : Nat, Cal P w K mg base C "turned" (2 + n) 2 (m_turned n)
  | 0 => cal_none (ps := ["statement", "yes"]) D_ (fun _ _ _ _ _ _ us hl => match us, hl with | [_, _], _ => rfl) rfl
  | n + 1 => by
    have ih := ok_turned D_ c_times c_added z_tuple n
    exact cal_def (N := ["statement", "yes", "kind", "one", "back", "parts", "part"]) (ps := ["statement", "yes"]) D_ sc_turned (fun _ _ _ _ _ _ us hl => match us, hl with | [_, _], _ => rfl) rfl rfl (by decide) fun f cdv A outer s H E hr =>
    (sb_cons (ss_set (i := 2) (sn_sub_ix (se_var (pv 0)) (SN.toE sn_int)) sc_turned.nd)
    (sb_cons (ss_if (st_eq hr.units (se_var (pv 2)) (SN.toE sn_str)) (sb_one (ss_ret (sn_cal ih (hr.mono (Nat.le_refl _)) passX (sa_cons (SN.toE (sn_sub_ix (se_var (pv 0)) (SN.toE sn_int))) (sa_cons (SN.toE (sn_not (se_var (pv 1)))) sa_nil))))) sb_nil)
    (sb_cons (ss_if (SW.st (sw_or (st_eq hr.units (se_var (pv 2)) (SN.toE sn_str)) (sw_or1 (st_eq hr.units (se_var (pv 2)) (SN.toE sn_str))))) (sb_cons (ss_set (i := 5) (sn_tuple (sa_cons (SN.toE (sn_lcT (x := "part") (j := 6) rfl sc_turned.nd (SN.toE (sn_sub_ix (se_var (pv 0)) (SN.toE sn_int))) (blkOk_by (N := ["statement", "yes", "kind", "one", "back", "parts", "part"]) (sc := defScope s_turned) (own := [("part", 6)]) (by decide +kernel)) (fun _ _ _ _ _ => pg_name (i := 6) sc_turned.nd rfl (by first | exact Or.inl rfl | exact Or.inr rfl)) (fun _ _ _ _ _ => pts_can0) (fun _ _ _ _ _ => (sn_cal ih (hr.mono (Nat.le_refl _)) passL (sa_cons (se_var (pv 6)) (sa_cons (se_var (pv 1)) sa_nil)))))) sa_nil) z_tuple) sc_turned.nd)
      (sb_cons (ss_if (st_eq hr.units (SN.toE (sn_eq hr.units (se_var (pv 2)) (SN.toE sn_str))) (se_var (pv 1))) (sb_one (ss_ret (sn_tup (sa_cons (SN.toE sn_str) (sa_cons (se_var (pv 5)) sa_nil))))) sb_nil)
      (sb_one (ss_ret (sn_tup (sa_cons (SN.toE sn_str) (sa_cons (se_var (pv 5)) sa_nil))))))) sb_nil)
    (sb_cons (ss_if (st_eq hr.units (se_var (pv 2)) (SN.toE sn_str)) (sb_cons (ss_if (st_val (se_var (pv 1))) (sb_one (ss_retN (pv 0))) sb_nil)
      (sb_one (ss_ret (sn_tup (sa_cons (SN.toE sn_str) (sa_cons (se_var (pv 0)) sa_nil)))))) sb_nil)
    (sb_cons (ss_set (i := 3) (sn_sub_ix (se_var (pv 0)) (SN.toE sn_int)) sc_turned.nd)
    (sb_cons (ss_set (i := 4) (sn_cal c_times (hr.mono (Nat.le_trans (by decide) (Nat.le_add_right _ _))) passX (sa_cons (SN.toE (sn_neg (SN.toE sn_int))) (sa_cons (se_var (pv 3)) sa_nil))) sc_turned.nd)
    (sb_cons (ss_if (st_eq hr.units (se_var (pv 2)) (SN.toE sn_str)) (sb_cons (ss_if (st_val (se_var (pv 1))) (sb_one (ss_retN (pv 0))) sb_nil)
      (sb_one (ss_ret (sn_tup (sa_cons (SN.toE sn_str) (sa_cons (SN.toE (sn_cal c_added (hr.mono (Nat.le_trans (by decide) (Nat.le_add_right _ _))) passX (sa_cons (SN.toE (sn_tup (sa_cons (SN.toE sn_int) (sa_cons (SN.toE (sn_tup sa_nil)) sa_nil)))) (sa_cons (se_var (pv 4)) sa_nil)))) sa_nil)))))) sb_nil)
    (sb_cons (ss_if (st_val (se_var (pv 1))) (sb_one (ss_ret (sn_tup (sa_cons (SN.toE sn_str) (sa_cons (SN.toE (sn_tup (sa_cons (SN.toE (sn_tup (sa_cons (SN.toE sn_str) (sa_cons (SN.toE (sn_cal c_added (hr.mono (Nat.le_trans (by decide) (Nat.le_add_right _ _))) passX (sa_cons (SN.toE (sn_tup (sa_cons (SN.toE sn_int) (sa_cons (SN.toE (sn_tup sa_nil)) sa_nil)))) (sa_cons (se_var (pv 3)) sa_nil)))) sa_nil)))) (sa_cons (SN.toE (sn_tup (sa_cons (SN.toE sn_str) (sa_cons (SN.toE (sn_cal c_added (hr.mono (Nat.le_trans (by decide) (Nat.le_add_right _ _))) passX (sa_cons (SN.toE (sn_tup (sa_cons (SN.toE sn_int) (sa_cons (SN.toE (sn_tup sa_nil)) sa_nil)))) (sa_cons (se_var (pv 4)) sa_nil)))) sa_nil)))) sa_nil)))) sa_nil))))) sb_nil)
    (sb_one (ss_ret (sn_tup (sa_cons (SN.toE sn_str) (sa_cons (SN.toE (sn_tup (sa_cons (SN.toE (sn_tup (sa_cons (SN.toE sn_str) (sa_cons (se_var (pv 3)) sa_nil)))) (sa_cons (SN.toE (sn_tup (sa_cons (SN.toE sn_str) (sa_cons (se_var (pv 4)) sa_nil)))) sa_nil)))) sa_nil)))))))))))))
theorem ok_ends_of (D_ : DefAt K mg "ends_of" s_ends_of) : ∀ n : Nat, Cal P w K mg base C "ends_of" (0 + n) 1 (m_ends_of n)
  | 0 => cal_none (ps := ["statement"]) D_ (fun _ _ _ _ _ _ us hl => match us, hl with | [_], _ => rfl) rfl
  | n + 1 => by
    have ih := ok_ends_of D_ n
    exact cal_def (N := ["statement", "kind", "ends", "part"]) (ps := ["statement"]) D_ sc_ends_of (fun _ _ _ _ _ _ us hl => match us, hl with | [_], _ => rfl) rfl rfl (by decide) fun f cdv A outer s H E hr =>
    (sb_cons (ss_set (i := 1) (sn_sub_ix (se_var (pv 0)) (SN.toE sn_int)) sc_ends_of.nd)
    (sb_cons (ss_if (SW.st (sw_or (st_eq hr.units (se_var (pv 1)) (SN.toE sn_str)) (sw_or1 (st_eq hr.units (se_var (pv 1)) (SN.toE sn_str))))) (sb_cons (ss_set (i := 2) (sn_lst sa_nil) sc_ends_of.nd)
      (sb_cons (ss_forT passOwnX rfl (SN.toE (sn_sub_ix (se_var (pv 0)) (SN.toE sn_int))) (pg_name (i := 3) sc_ends_of.nd rfl (by first | exact Or.inl rfl | exact Or.inr rfl)) (sb_one (ss_ext (pv 2) (SN.toE (sn_cal ih (hr.mono (Nat.le_refl _)) passX (sa_cons (se_var (pv 3)) sa_nil))))))
      (sb_one (ss_retN (pv 2))))) sb_nil)
    (sb_cons (ss_if (st_eq hr.units (se_var (pv 1)) (SN.toE sn_str)) (sb_one (ss_ret (sn_lst (sa_cons (SN.toE (sn_sub_ix (se_var (pv 0)) (SN.toE sn_int))) sa_nil)))) sb_nil)
    (sb_one (ss_ret (sn_lst (sa_cons (se_var (pv 0)) sa_nil)))))))
theorem ok_least_times (D_ : DefAt K mg "least_times" s_least_times) : Cal P w K mg base C "least_times" 1 2 m_least_times :=
  cal_def (N := ["one", "other", "high", "low"]) (ps := ["one", "other"]) D_ sc_least_times (fun _ _ _ _ _ _ us hl => match us, hl with | [_, _], _ => rfl) rfl rfl (by decide) fun f cdv A outer s H E hr =>
    (sb_cons (ss_par (i := 2) (j := 3) rfl sc_least_times.nd rfl rfl (by decide) rfl rfl (sa_cons (se_var (pv 0)) (sa_cons (se_var (pv 1)) sa_nil)) (fun ta pa => ps_par rfl sc_least_times.nd rfl rfl (by decide) rfl rfl pa (by rfl)))
    (sb_cons (ss_while passOwnX (st_gt (se_var (pv 3)) (SN.toE sn_int)) (sb_one (ss_par (i := 2) (j := 3) rfl sc_least_times.nd rfl rfl (by decide) rfl rfl (sa_cons (se_var (pv 3)) (sa_cons (SN.toE (sn_mod (se_var (pv 2)) (se_var (pv 3)))) sa_nil)) (fun ta pa => ps_par rfl sc_least_times.nd rfl rfl (by decide) rfl rfl pa (by rfl)))))
    (sb_one (ss_ret (sn_mul (SN.toE (sn_div (se_var (pv 0)) (se_var (pv 2)))) (se_var (pv 1)))))))
theorem ok_end_stretched (D_ : DefAt K mg "end_stretched" s_end_stretched) (c_share : Cal P w K mg base C "share" 1 2 m_share) (c_without : Cal P w K mg base C "without" 1 2 m_without) (c_times : Cal P w K mg base C "times" 2 2 m_times) (c_added : Cal P w K mg base C "added" 2 2 m_added) (z_abs : mg "abs" = none) : Cal P w K mg base C "end_stretched" 3 3 m_end_stretched :=
  cal_def (N := ["end", "name", "size", "by", "far", "longer"]) (ps := ["end", "name", "size"]) D_ sc_end_stretched (fun _ _ _ _ _ _ us hl => match us, hl with | [_, _, _], _ => rfl) rfl rfl (by decide) fun f cdv A outer s H E hr =>
    (sb_cons (ss_set (i := 3) (sn_cal c_share (hr.mono (by decide)) passX (sa_cons (SN.toE (sn_sub_ix (se_var (pv 0)) (SN.toE (sn_neg (SN.toE sn_int))))) (sa_cons (se_var (pv 1)) sa_nil))) sc_end_stretched.nd)
    (sb_cons (ss_if (st_eq hr.units (se_var (pv 3)) (SN.toE sn_int)) (sb_one (ss_retN (pv 0))) sb_nil)
    (sb_cons (ss_set (i := 4) (sn_div (se_var (pv 2)) (SN.toE (sn_abs (sa_cons (se_var (pv 3)) sa_nil) z_abs))) sc_end_stretched.nd)
    (sb_cons (ss_set (i := 5) (sn_cal c_added (hr.mono (by decide)) passX (sa_cons (SN.toE (sn_cal c_times (hr.mono (by decide)) passX (sa_cons (se_var (pv 4)) (sa_cons (SN.toE (sn_cal c_without (hr.mono (by decide)) passX (sa_cons (SN.toE (sn_sub_ix (se_var (pv 0)) (SN.toE (sn_neg (SN.toE sn_int))))) (sa_cons (se_var (pv 1)) sa_nil)))) sa_nil)))) (sa_cons (SN.toE (sn_tup (sa_cons (SN.toE sn_int) (sa_cons (SN.toE (sn_tup (sa_cons (SN.toE (sn_tup (sa_cons (se_var (pv 1)) (sa_cons (SN.toE (sn_div (se_var (pv 3)) (SN.toE (sn_abs (sa_cons (se_var (pv 3)) sa_nil) z_abs)))) sa_nil)))) sa_nil))) sa_nil)))) sa_nil))) sc_end_stretched.nd)
    (sb_cons (ss_if (st_eq hr.units (SN.toE (sn_sub_ix (se_var (pv 0)) (SN.toE sn_int))) (SN.toE sn_str)) (sb_one (ss_ret (sn_tup (sa_cons (SN.toE sn_str) (sa_cons (SN.toE (sn_mul (se_var (pv 4)) (SN.toE (sn_sub_ix (se_var (pv 0)) (SN.toE sn_int))))) (sa_cons (se_var (pv 5)) sa_nil)))))) sb_nil)
    (sb_one (ss_ret (sn_tup (sa_cons (SN.toE sn_str) (sa_cons (se_var (pv 5)) sa_nil))))))))))
theorem ok_stretched (D_ : DefAt K mg "stretched" s_stretched) (c_end_stretched : Cal P w K mg base C "end_stretched" 3 3 m_end_stretched) (z_tuple : mg "tuple" = none) : ∀ n : Nat, Cal P w K mg base C "stretched" (3 + n) 3 (m_stretched n)
  | 0 => cal_none (ps := ["statement", "name", "size"]) D_ (fun _ _ _ _ _ _ us hl => match us, hl with | [_, _, _], _ => rfl) rfl
  | n + 1 => by
    have ih := ok_stretched D_ c_end_stretched z_tuple n
    exact cal_def (N := ["statement", "name", "size", "kind", "part"]) (ps := ["statement", "name", "size"]) D_ sc_stretched (fun _ _ _ _ _ _ us hl => match us, hl with | [_, _, _], _ => rfl) rfl rfl (by decide) fun f cdv A outer s H E hr =>
    (sb_cons (ss_set (i := 3) (sn_sub_ix (se_var (pv 0)) (SN.toE sn_int)) sc_stretched.nd)
    (sb_cons (ss_if (SW.st (sw_or (st_eq hr.units (se_var (pv 3)) (SN.toE sn_str)) (sw_or1 (st_eq hr.units (se_var (pv 3)) (SN.toE sn_str))))) (sb_one (ss_ret (sn_tup (sa_cons (se_var (pv 3)) (sa_cons (SN.toE (sn_tuple (sa_cons (SN.toE (sn_lcT (x := "part") (j := 4) rfl sc_stretched.nd (SN.toE (sn_sub_ix (se_var (pv 0)) (SN.toE sn_int))) (blkOk_by (N := ["statement", "name", "size", "kind", "part"]) (sc := defScope s_stretched) (own := [("part", 4)]) (by decide +kernel)) (fun _ _ _ _ _ => pg_name (i := 4) sc_stretched.nd rfl (by first | exact Or.inl rfl | exact Or.inr rfl)) (fun _ _ _ _ _ => pts_can0) (fun _ _ _ _ _ => (sn_cal ih (hr.mono (Nat.le_refl _)) passL (sa_cons (se_var (pv 4)) (sa_cons (se_var (pv 1)) (sa_cons (se_var (pv 2)) sa_nil))))))) sa_nil) z_tuple)) sa_nil))))) sb_nil)
    (sb_cons (ss_if (st_eq hr.units (se_var (pv 3)) (SN.toE sn_str)) (sb_one (ss_ret (sn_tup (sa_cons (SN.toE sn_str) (sa_cons (SN.toE (sn_cal c_end_stretched (hr.mono (Nat.le_trans (by decide) (Nat.le_add_right _ _))) passX (sa_cons (SN.toE (sn_sub_ix (se_var (pv 0)) (SN.toE sn_int))) (sa_cons (se_var (pv 1)) (sa_cons (se_var (pv 2)) sa_nil))))) sa_nil))))) sb_nil)
    (sb_one (ss_ret (sn_cal c_end_stretched (hr.mono (Nat.le_trans (by decide) (Nat.le_add_right _ _))) passX (sa_cons (se_var (pv 0)) (sa_cons (se_var (pv 1)) (sa_cons (se_var (pv 2)) sa_nil)))))))))
theorem ok_prepared (D_ : DefAt K mg "prepared" s_prepared) (c_turned : Cal P w K mg base C "turned" 62 2 (m_turned 60)) (c_ends_of : Cal P w K mg base C "ends_of" 60 1 (m_ends_of 60)) (c_share : Cal P w K mg base C "share" 1 2 m_share) (c_least_times : Cal P w K mg base C "least_times" 1 2 m_least_times) (c_stretched : Cal P w K mg base C "stretched" 63 3 (m_stretched 60)) (z_abs : mg "abs" = none) : Cal P w K mg base C "prepared" 64 2 m_prepared :=
  cal_def (N := ["statement", "name", "lined", "size", "end", "step", "by"]) (ps := ["statement", "name"]) D_ sc_prepared (fun _ _ _ _ _ _ us hl => match us, hl with | [_, _], _ => rfl) rfl rfl (by decide) fun f cdv A outer s H E hr =>
    (sb_cons (ss_set (i := 2) (sn_cal c_turned (hr.mono (by decide)) passX (sa_cons (se_var (pv 0)) (sa_cons (SN.toE sn_bl) sa_nil))) sc_prepared.nd)
    (sb_cons (ss_set (i := 3) sn_int sc_prepared.nd)
    (sb_cons (ss_forL passOwnX rfl (sn_cal c_ends_of (hr.mono (by decide)) passX (sa_cons (se_var (pv 2)) sa_nil)) (pg_name (i := 4) sc_prepared.nd rfl (by first | exact Or.inl rfl | exact Or.inr rfl)) (sb_cons (ss_set (i := 6) (sn_cal c_share (hr.mono (by decide)) passX (sa_cons (SN.toE (sn_sub_ix (se_var (pv 4)) (SN.toE (sn_neg (SN.toE sn_int))))) (sa_cons (se_var (pv 1)) sa_nil))) sc_prepared.nd)
      (sb_one (ss_if (st_ne hr.units (se_var (pv 6)) (SN.toE sn_int)) (sb_one (ss_set (i := 3) (sn_cal c_least_times (hr.mono (by decide)) passX (sa_cons (se_var (pv 3)) (sa_cons (SN.toE (sn_abs (sa_cons (se_var (pv 6)) sa_nil) z_abs)) sa_nil))) sc_prepared.nd)) sb_nil))))
    (sb_cons (ss_set (i := 2) (sn_cal c_stretched (hr.mono (by decide)) passX (sa_cons (se_var (pv 2)) (sa_cons (se_var (pv 1)) (sa_cons (se_var (pv 3)) sa_nil)))) sc_prepared.nd)
    (sb_cons (ss_if (st_gt (se_var (pv 3)) (SN.toE sn_int)) (sb_one (ss_set (i := 2) (sn_tup (sa_cons (SN.toE sn_str) (sa_cons (SN.toE (sn_tup (sa_cons (se_var (pv 2)) (sa_cons (SN.toE (sn_tup (sa_cons (SN.toE sn_str) (sa_cons (se_var (pv 3)) (sa_cons (SN.toE (sn_tup (sa_cons (SN.toE sn_int) (sa_cons (SN.toE (sn_tup (sa_cons (SN.toE (sn_tup (sa_cons (se_var (pv 1)) (sa_cons (SN.toE sn_int) sa_nil)))) sa_nil))) sa_nil)))) sa_nil))))) sa_nil)))) sa_nil))) sc_prepared.nd)) sb_nil)
    (sb_cons (ss_set (i := 5) sn_int sc_prepared.nd)
    (sb_cons (ss_forL passOwnX rfl (sn_cal c_ends_of (hr.mono (by decide)) passX (sa_cons (se_var (pv 2)) sa_nil)) (pg_name (i := 4) sc_prepared.nd rfl (by first | exact Or.inl rfl | exact Or.inr rfl)) (sb_one (ss_if (SW.st (sw_and (st_eq hr.units (SN.toE (sn_sub_ix (se_var (pv 4)) (SN.toE sn_int))) (SN.toE sn_str)) (sw_and1 (st_ne hr.units (SN.toE (sn_cal c_share (hr.mono (by decide)) passX (sa_cons (SN.toE (sn_sub_ix (se_var (pv 4)) (SN.toE sn_int))) (sa_cons (se_var (pv 1)) sa_nil)))) (SN.toE sn_int))))) (sb_one (ss_set (i := 5) (sn_cal c_least_times (hr.mono (by decide)) passX (sa_cons (se_var (pv 5)) (sa_cons (SN.toE (sn_sub_ix (se_var (pv 4)) (SN.toE sn_int))) sa_nil))) sc_prepared.nd)) sb_nil)))
    (sb_one (ss_ret (sn_tup (sa_cons (se_var (pv 2)) (sa_cons (se_var (pv 3)) (sa_cons (se_var (pv 5)) sa_nil)))))))))))))
theorem ok_bounds_of (D_ : DefAt K mg "bounds_of" s_bounds_of) (c_ends_of : Cal P w K mg base C "ends_of" 60 1 (m_ends_of 60)) (c_share : Cal P w K mg base C "share" 1 2 m_share) (c_without : Cal P w K mg base C "without" 1 2 m_without) (c_times : Cal P w K mg base C "times" 2 2 m_times) (z_list : mg "list" = none) : Cal P w K mg base C "bounds_of" 61 3 (m_bounds_of w) :=
  cal_def (N := ["statement", "name", "sign", "seen", "end"]) (ps := ["statement", "name", "sign"]) D_ sc_bounds_of (fun _ _ _ _ _ _ us hl => match us, hl with | [_, _, _], _ => rfl) rfl rfl (by decide) fun f cdv A outer s H E hr =>
    (sb_cons (ss_set (i := 3) sn_snew sc_bounds_of.nd)
    (sb_cons (ss_forL passOwnX rfl (sn_cal c_ends_of (hr.mono (by decide)) passX (sa_cons (se_var (pv 0)) sa_nil)) (pg_name (i := 4) sc_bounds_of.nd rfl (by first | exact Or.inl rfl | exact Or.inr rfl)) (sb_one (ss_if (SW.st (sw_and (st_eq hr.units (SN.toE (sn_sub_ix (se_var (pv 4)) (SN.toE sn_int))) (SN.toE sn_str)) (sw_and1 (st_eq hr.units (SN.toE (sn_cal c_share (hr.mono (by decide)) passX (sa_cons (SN.toE (sn_sub_ix (se_var (pv 4)) (SN.toE sn_int))) (sa_cons (se_var (pv 1)) sa_nil)))) (se_var (pv 2)))))) (sb_one (ss_sput hr.units (pv 3) (SN.toE (sn_cal c_times (hr.mono (by decide)) passX (sa_cons (SN.toE (sn_neg (se_var (pv 2)))) (sa_cons (SN.toE (sn_cal c_without (hr.mono (by decide)) passX (sa_cons (SN.toE (sn_sub_ix (se_var (pv 4)) (SN.toE sn_int))) (sa_cons (se_var (pv 1)) sa_nil)))) sa_nil)))) (SN.toE sn_bl))) sb_nil)))
    (sb_one (ss_ret (sn_listSn rfl (sa_cons (se_var (pv 3)) sa_nil) z_list)))))
theorem ok_far_below (D_ : DefAt K mg "far_below" s_far_below) (c_all_of : Cal P w K mg base C "all_of" 2 1 (m_all_of w)) (c_one_of : Cal P w K mg base C "one_of" 2 1 (m_one_of w)) (c_share : Cal P w K mg base C "share" 1 2 m_share) (y_NO : GlobT K mg "NO" t_NO) (y_YES : GlobT K mg "YES" t_YES) : ∀ n : Nat, Cal P w K mg base C "far_below" (2 + n) 2 (m_far_below w n)
  | 0 => cal_none (ps := ["statement", "name"]) D_ (fun _ _ _ _ _ _ us hl => match us, hl with | [_, _], _ => rfl) rfl
  | n + 1 => by
    have ih := ok_far_below D_ c_all_of c_one_of c_share y_NO y_YES n
    exact cal_def (N := ["statement", "name", "kind", "part"]) (ps := ["statement", "name"]) D_ sc_far_below (fun _ _ _ _ _ _ us hl => match us, hl with | [_, _], _ => rfl) rfl rfl (by decide) fun f cdv A outer s H E hr =>
    (sb_cons (ss_set (i := 2) (sn_sub_ix (se_var (pv 0)) (SN.toE sn_int)) sc_far_below.nd)
    (sb_cons (ss_if (st_eq hr.units (se_var (pv 2)) (SN.toE sn_str)) (sb_one (ss_ret (sn_cal c_all_of (hr.mono (Nat.le_trans (by decide) (Nat.le_add_right _ _))) passX (sa_cons (SN.toE (sn_lcT (x := "part") (j := 3) rfl sc_far_below.nd (SN.toE (sn_sub_ix (se_var (pv 0)) (SN.toE sn_int))) (blkOk_by (N := ["statement", "name", "kind", "part"]) (sc := defScope s_far_below) (own := [("part", 3)]) (by decide +kernel)) (fun _ _ _ _ _ => pg_name (i := 3) sc_far_below.nd rfl (by first | exact Or.inl rfl | exact Or.inr rfl)) (fun _ _ _ _ _ => pts_can0) (fun _ _ _ _ _ => (sn_cal ih (hr.mono (Nat.le_refl _)) passL (sa_cons (se_var (pv 3)) (sa_cons (se_var (pv 1)) sa_nil)))))) sa_nil)))) sb_nil)
    (sb_cons (ss_if (st_eq hr.units (se_var (pv 2)) (SN.toE sn_str)) (sb_one (ss_ret (sn_cal c_one_of (hr.mono (Nat.le_trans (by decide) (Nat.le_add_right _ _))) passX (sa_cons (SN.toE (sn_lcT (x := "part") (j := 3) rfl sc_far_below.nd (SN.toE (sn_sub_ix (se_var (pv 0)) (SN.toE sn_int))) (blkOk_by (N := ["statement", "name", "kind", "part"]) (sc := defScope s_far_below) (own := [("part", 3)]) (by decide +kernel)) (fun _ _ _ _ _ => pg_name (i := 3) sc_far_below.nd rfl (by first | exact Or.inl rfl | exact Or.inr rfl)) (fun _ _ _ _ _ => pts_can0) (fun _ _ _ _ _ => (sn_cal ih (hr.mono (Nat.le_refl _)) passL (sa_cons (se_var (pv 3)) (sa_cons (se_var (pv 1)) sa_nil)))))) sa_nil)))) sb_nil)
    (sb_cons (ss_if (st_ne hr.units (se_var (pv 2)) (SN.toE sn_str)) (sb_one (ss_retN (pv 0))) sb_nil)
    (sb_one (ss_ret (sn_sub_ix (SN.toE (sn_lst (sa_cons (SN.toE (sn_globT (t := t_NO) y_NO)) (sa_cons (se_var (pv 0)) (sa_cons (SN.toE (sn_globT (t := t_YES) y_YES)) sa_nil))))) (SN.toE (sn_sub (SN.toE sn_int) (SN.toE (sn_cal c_share (hr.mono (Nat.le_trans (by decide) (Nat.le_add_right _ _))) passX (sa_cons (SN.toE (sn_sub_ix (se_var (pv 0)) (SN.toE sn_int))) (sa_cons (se_var (pv 1)) sa_nil)))))))))))))
theorem ok_taken (D_ : DefAt K mg "taken" s_taken) (c_need_plain : Cal P w K mg base C "need_plain" 61 1 m_need_plain) (c_unknowns : Cal P w K mg base C "unknowns" 61 1 m_unknowns) (c_prepared : Cal P w K mg base C "prepared" 64 2 m_prepared) (c_far_below : Cal P w K mg base C "far_below" 62 2 (m_far_below w 60)) (c_filled : Cal P w K mg base C "filled" 122 3 (m_filled w 60)) (c_bounds_of : Cal P w K mg base C "bounds_of" 61 3 (m_bounds_of w)) (c_added : Cal P w K mg base C "added" 2 2 m_added) (c_one_of : Cal P w K mg base C "one_of" 2 1 (m_one_of w)) (z_range : mg "range" = none) : Cal P w K mg base C "taken" 123 2 (m_taken w) :=
  cal_def (N := ["name", "statement", "below", "parts", "bound", "lined", "size", "step", "k"]) (ps := ["name", "statement"]) D_ sc_taken (fun _ _ _ _ _ _ us hl => match us, hl with | [_, _], _ => rfl) rfl rfl (by decide) fun f cdv A outer s H E hr =>
    (sb_cons (ss_expr (SN.toE (sn_cal c_need_plain (hr.mono (by decide)) passX (sa_cons (se_var (pv 1)) sa_nil))))
    (sb_cons (ss_if (st_nin (hu_of hr) (se_var (pv 0)) (SN.toE (sn_cal c_unknowns (hr.mono (by decide)) passX (sa_cons (se_var (pv 1)) sa_nil)))) (sb_one (ss_retN (pv 1))) sb_nil)
    (sb_cons (ss_unp (is := [5, 6, 7]) rfl (SN.toE (sn_cal c_prepared (hr.mono (by decide)) passX (sa_cons (se_var (pv 1)) (sa_cons (se_var (pv 0)) sa_nil)))) (pg_tup rfl (pgs_cons (pg_name (i := 5) sc_taken.nd rfl (Or.inl rfl)) (pgs_cons (pg_name (i := 6) sc_taken.nd rfl (Or.inl rfl)) (pgs_cons (pg_name (i := 7) sc_taken.nd rfl (Or.inl rfl)) pgs_nil)))))
    (sb_cons (ss_set (i := 2) (sn_cal c_far_below (hr.mono (by decide)) passX (sa_cons (se_var (pv 5)) (sa_cons (se_var (pv 0)) sa_nil))) sc_taken.nd)
    (sb_cons (ss_lcR2 (i := 3) (x := "k") (j := 8) rfl sc_taken.nd rfl rfl (sw_true rfl rfl rfl (by decide +kernel)) z_range (sa_cons (SN.toE sn_int) (sa_cons (SN.toE (sn_add (se_var (pv 7)) (SN.toE sn_int))) sa_nil)) (blkOk_by (N := ["name", "statement", "below", "parts", "bound", "lined", "size", "step", "k"]) (sc := defScope s_taken) (own := [("k", 8)]) (by decide +kernel)) (fun _ _ _ _ _ => pg_name (i := 8) sc_taken.nd rfl (by first | exact Or.inl rfl | exact Or.inr rfl)) (fun _ _ _ _ _ => pts_can0) (fun _ _ _ _ _ => (sn_cal c_filled (hr.mono (by decide)) passL (sa_cons (se_var (pv 2)) (sa_cons (se_var (pv 0)) (sa_cons (SN.toE (sn_tup (sa_cons (se_var (pv 8)) (sa_cons (SN.toE (sn_tup sa_nil)) sa_nil)))) sa_nil))))))
    (sb_cons (ss_forL passOwnX rfl (sn_cal c_bounds_of (hr.mono (by decide)) passX (sa_cons (se_var (pv 5)) (sa_cons (se_var (pv 0)) (sa_cons (SN.toE sn_int) sa_nil)))) (pg_name (i := 4) sc_taken.nd rfl (by first | exact Or.inl rfl | exact Or.inr rfl)) (sb_one (ss_forR2 passOwnX rfl z_range (sa_cons (SN.toE sn_int) (sa_cons (SN.toE (sn_add (se_var (pv 7)) (SN.toE sn_int))) sa_nil)) (pg_name (i := 8) sc_taken.nd rfl (by first | exact Or.inl rfl | exact Or.inr rfl)) (sb_one (ss_app (pv 3) (SN.toE (sn_cal c_filled (hr.mono (by decide)) passX (sa_cons (se_var (pv 5)) (sa_cons (se_var (pv 0)) (sa_cons (SN.toE (sn_cal c_added (hr.mono (by decide)) passX (sa_cons (se_var (pv 4)) (sa_cons (SN.toE (sn_tup (sa_cons (se_var (pv 8)) (sa_cons (SN.toE (sn_tup sa_nil)) sa_nil)))) sa_nil)))) sa_nil))))))))))
    (sb_one (ss_ret (sn_cal c_one_of (hr.mono (by decide)) passX (sa_cons (se_var (pv 3)) sa_nil))))))))))
theorem ok_left (D_ : DefAt K mg "left" s_left) (c_taken : Cal P w K mg base C "taken" 123 2 (m_taken w)) (z_tuple : mg "tuple" = none) : ∀ n : Nat, Cal P w K mg base C "left" (123 + n) 1 (m_left w n)
  | 0 => cal_none (ps := ["statement"]) D_ (fun _ _ _ _ _ _ us hl => match us, hl with | [_], _ => rfl) rfl
  | n + 1 => by
    have ih := ok_left D_ c_taken z_tuple n
    exact cal_def (N := ["statement", "kind", "part"]) (ps := ["statement"]) D_ sc_left (fun _ _ _ _ _ _ us hl => match us, hl with | [_], _ => rfl) rfl rfl (by decide) fun f cdv A outer s H E hr =>
    (sb_cons (ss_set (i := 1) (sn_sub_ix (se_var (pv 0)) (SN.toE sn_int)) sc_left.nd)
    (sb_cons (ss_if (st_eq hr.units (se_var (pv 1)) (SN.toE sn_str)) (sb_one (ss_ret (sn_tup (sa_cons (SN.toE sn_str) (sa_cons (SN.toE (sn_cal ih (hr.mono (Nat.le_refl _)) passX (sa_cons (SN.toE (sn_sub_ix (se_var (pv 0)) (SN.toE sn_int))) sa_nil))) sa_nil))))) sb_nil)
    (sb_cons (ss_if (SW.st (sw_or (st_eq hr.units (se_var (pv 1)) (SN.toE sn_str)) (sw_or1 (st_eq hr.units (se_var (pv 1)) (SN.toE sn_str))))) (sb_one (ss_ret (sn_tup (sa_cons (se_var (pv 1)) (sa_cons (SN.toE (sn_tuple (sa_cons (SN.toE (sn_lcT (x := "part") (j := 2) rfl sc_left.nd (SN.toE (sn_sub_ix (se_var (pv 0)) (SN.toE sn_int))) (blkOk_by (N := ["statement", "kind", "part"]) (sc := defScope s_left) (own := [("part", 2)]) (by decide +kernel)) (fun _ _ _ _ _ => pg_name (i := 2) sc_left.nd rfl (by first | exact Or.inl rfl | exact Or.inr rfl)) (fun _ _ _ _ _ => pts_can0) (fun _ _ _ _ _ => (sn_cal ih (hr.mono (Nat.le_refl _)) passL (sa_cons (se_var (pv 2)) sa_nil))))) sa_nil) z_tuple)) sa_nil))))) sb_nil)
    (sb_cons (ss_if (st_eq hr.units (se_var (pv 1)) (SN.toE sn_str)) (sb_one (ss_ret (sn_cal c_taken (hr.mono (Nat.le_trans (by decide) (Nat.le_add_right _ _))) passX (sa_cons (SN.toE (sn_sub_ix (se_var (pv 0)) (SN.toE sn_int))) (sa_cons (SN.toE (sn_cal ih (hr.mono (Nat.le_refl _)) passX (sa_cons (SN.toE (sn_sub_ix (se_var (pv 0)) (SN.toE sn_int))) sa_nil))) sa_nil))))) sb_nil)
    (sb_cons (ss_if (st_eq hr.units (se_var (pv 1)) (SN.toE sn_str)) (sb_one (ss_ret (sn_tup (sa_cons (SN.toE sn_str) (sa_cons (SN.toE (sn_cal c_taken (hr.mono (Nat.le_trans (by decide) (Nat.le_add_right _ _))) passX (sa_cons (SN.toE (sn_sub_ix (se_var (pv 0)) (SN.toE sn_int))) (sa_cons (SN.toE (sn_tup (sa_cons (SN.toE sn_str) (sa_cons (SN.toE (sn_cal ih (hr.mono (Nat.le_refl _)) passX (sa_cons (SN.toE (sn_sub_ix (se_var (pv 0)) (SN.toE sn_int))) sa_nil))) sa_nil)))) sa_nil)))) sa_nil))))) sb_nil)
    (sb_one (ss_retN (pv 0))))))))
theorem ok_holds (D_ : DefAt K mg "holds" s_holds) (c_unknowns : Cal P w K mg base C "unknowns" 61 1 m_unknowns) (c_need_values : Cal P w K mg base C "need_values" 1 2 m_need_values) (c_left : Cal P w K mg base C "left" 183 1 (m_left w 60)) (c_is_true : Cal P w K mg base C "is_true" 62 2 m_is_true) : Cal P w K mg base C "holds" 184 2 (m_holds w) :=
  cal_def (N := ["statement", "values"]) (ps := ["statement", "values"]) D_ sc_holds (fun _ _ _ _ _ _ us hl => match us, hl with | [_, _], _ => rfl) rfl rfl (by decide) fun f cdv A outer s H E hr =>
    (sb_cons (ss_expr (SN.toE (sn_cal c_need_values (hr.mono (by decide)) passX (sa_cons (SN.toE (sn_cal c_unknowns (hr.mono (by decide)) passX (sa_cons (se_var (pv 0)) sa_nil))) (sa_cons (se_var (pv 1)) sa_nil)))))
    (sb_one (ss_ret (sn_cal c_is_true (hr.mono (by decide)) passX (sa_cons (SN.toE (sn_cal c_left (hr.mono (by decide)) passX (sa_cons (se_var (pv 0)) sa_nil))) (sa_cons (se_var (pv 1)) sa_nil))))))
theorem ok_tries_of (D_ : DefAt K mg "tries_of" s_tries_of) (c_bounds_of : Cal P w K mg base C "bounds_of" 61 3 (m_bounds_of w)) (z_min : mg "min" = none) (z_range : mg "range" = none) : Cal P w K mg base C "tries_of" 62 3 (m_tries_of w) :=
  cal_def (N := ["lined", "name", "step", "lows", "highs", "least", "tries", "low", "k", "bound"]) (ps := ["lined", "name", "step"]) D_ sc_tries_of (fun _ _ _ _ _ _ us hl => match us, hl with | [_, _, _], _ => rfl) rfl rfl (by decide) fun f cdv A outer s H E hr =>
    (sb_cons (ss_lcL (i := 3) (x := "bound") (j := 9) rfl sc_tries_of.nd rfl rfl (sw_true rfl rfl rfl (by decide +kernel)) (SN.toE (sn_cal c_bounds_of (hr.mono (by decide)) passX (sa_cons (se_var (pv 0)) (sa_cons (se_var (pv 1)) (sa_cons (SN.toE sn_int) sa_nil))))) (blkOk_by (N := ["lined", "name", "step", "lows", "highs", "least", "tries", "low", "k", "bound"]) (sc := defScope s_tries_of) (own := [("bound", 9)]) (by decide +kernel)) (fun _ _ _ _ _ => pg_name (i := 9) sc_tries_of.nd rfl (by first | exact Or.inl rfl | exact Or.inr rfl)) (fun _ _ _ _ _ => pts_can0) (fun _ _ _ _ _ => (sn_sub_ix (se_var (pv 9)) (SN.toE sn_int))))
    (sb_cons (ss_lcL (i := 4) (x := "bound") (j := 9) rfl sc_tries_of.nd rfl rfl (sw_true rfl rfl rfl (by decide +kernel)) (SN.toE (sn_cal c_bounds_of (hr.mono (by decide)) passX (sa_cons (se_var (pv 0)) (sa_cons (se_var (pv 1)) (sa_cons (SN.toE (sn_neg (SN.toE sn_int))) sa_nil))))) (blkOk_by (N := ["lined", "name", "step", "lows", "highs", "least", "tries", "low", "k", "bound"]) (sc := defScope s_tries_of) (own := [("bound", 9)]) (by decide +kernel)) (fun _ _ _ _ _ => pg_name (i := 9) sc_tries_of.nd rfl (by first | exact Or.inl rfl | exact Or.inr rfl)) (fun _ _ _ _ _ => pts_can0) (fun _ _ _ _ _ => (sn_sub_ix (se_var (pv 9)) (SN.toE sn_int))))
    (sb_cons (ss_set (i := 5) (sn_sub (SN.toE (sn_mdef (cr_minDef rfl hr.units) (SN.toE (sn_add (se_var (pv 3)) (se_var (pv 4)))) z_min (by decide +kernel))) (SN.toE sn_int)) sc_tries_of.nd)
    (sb_cons (ss_lcR1 (i := 6) (x := "k") (j := 8) rfl sc_tries_of.nd rfl rfl (sw_true rfl rfl rfl (by decide +kernel)) z_range (sa_cons (se_var (pv 2)) sa_nil) (blkOk_by (N := ["lined", "name", "step", "lows", "highs", "least", "tries", "low", "k", "bound"]) (sc := defScope s_tries_of) (own := [("k", 8)]) (by decide +kernel)) (fun _ _ _ _ _ => pg_name (i := 8) sc_tries_of.nd rfl (by first | exact Or.inl rfl | exact Or.inr rfl)) (fun _ _ _ _ _ => pts_can0) (fun _ _ _ _ _ => (sn_sub (se_var (pv 5)) (se_var (pv 8)))))
    (sb_cons (ss_forN passOwnX rfl (pv 3) (pg_name (i := 7) sc_tries_of.nd rfl (by first | exact Or.inl rfl | exact Or.inr rfl)) (sb_one (ss_forR2 passOwnX rfl z_range (sa_cons (SN.toE sn_int) (sa_cons (SN.toE (sn_add (se_var (pv 2)) (SN.toE sn_int))) sa_nil)) (pg_name (i := 8) sc_tries_of.nd rfl (by first | exact Or.inl rfl | exact Or.inr rfl)) (sb_one (ss_app (pv 6) (SN.toE (sn_add (se_var (pv 7)) (se_var (pv 8)))))))))
    (sb_one (ss_retN (pv 6))))))))
theorem ok_told (D_ : DefAt K mg "told" s_told) (c_unknowns : Cal P w K mg base C "unknowns" 61 1 m_unknowns) (c_need_values : Cal P w K mg base C "need_values" 1 2 m_need_values) (c_left : Cal P w K mg base C "left" 183 1 (m_left w 60)) (c_put : Cal P w K mg base C "put" 64 3 m_put) (c_prepared : Cal P w K mg base C "prepared" 64 2 m_prepared) (c_tries_of : Cal P w K mg base C "tries_of" 62 3 (m_tries_of w)) (c_truth : Cal P w K mg base C "truth" 61 2 (m_truth 60)) : Cal P w K mg base C "told" 184 3 (m_told w) :=
  cal_def (N := ["name", "statement", "values", "plain", "other", "number", "lined", "size", "step"]) (ps := ["name", "statement", "values"]) D_ sc_told (fun _ _ _ _ _ _ us hl => match us, hl with | [_, _, _], _ => rfl) rfl rfl (by decide) fun f cdv A outer s H E hr =>
    (sb_cons (ss_expr (SN.toE (sn_cal c_need_values (hr.mono (by decide)) passX (sa_cons (SN.toE (sn_lcL (x := "other") (j := 4) rfl sc_told.nd (SN.toE (sn_cal c_unknowns (hr.mono (by decide)) passX (sa_cons (se_var (pv 1)) sa_nil))) (blkOk_by (N := ["name", "statement", "values", "plain", "other", "number", "lined", "size", "step"]) (sc := defScope s_told) (own := [("other", 4)]) (by decide +kernel)) (fun _ _ _ _ _ => pg_name (i := 4) sc_told.nd rfl (by first | exact Or.inl rfl | exact Or.inr rfl)) (fun _ _ _ _ _ => (pts_can1 (st_ne hr.units (se_var (pv 4)) (se_var (pv 0))))) (fun _ _ _ _ _ => (sn_var (pv 4))))) (sa_cons (se_var (pv 2)) sa_nil)))))
    (sb_cons (ss_set (i := 3) (sn_cal c_left (hr.mono (by decide)) passX (sa_cons (se_var (pv 1)) sa_nil)) sc_told.nd)
    (sb_cons (ss_forL passOwnX rfl (sn_cal c_unknowns (hr.mono (by decide)) passX (sa_cons (se_var (pv 3)) sa_nil)) (pg_name (i := 4) sc_told.nd rfl (by first | exact Or.inl rfl | exact Or.inr rfl)) (sb_one (ss_if (st_ne hr.units (se_var (pv 4)) (se_var (pv 0))) (sb_one (ss_set (i := 3) (sn_cal c_put (hr.mono (by decide)) passX (sa_cons (se_var (pv 3)) (sa_cons (se_var (pv 4)) (sa_cons (SN.toE (sn_tup (sa_cons (SN.toE (sn_dget (hu_of hr) (se_var (pv 2)) (se_var (pv 4)))) (sa_cons (SN.toE (sn_tup sa_nil)) sa_nil)))) sa_nil)))) sc_told.nd)) sb_nil)))
    (sb_cons (ss_unp (is := [6, 7, 8]) rfl (SN.toE (sn_cal c_prepared (hr.mono (by decide)) passX (sa_cons (se_var (pv 3)) (sa_cons (se_var (pv 0)) sa_nil)))) (pg_tup rfl (pgs_cons (pg_name (i := 6) sc_told.nd rfl (Or.inl rfl)) (pgs_cons (pg_name (i := 7) sc_told.nd rfl (Or.inl rfl)) (pgs_cons (pg_name (i := 8) sc_told.nd rfl (Or.inl rfl)) pgs_nil)))))
    (sb_cons (ss_forL passOwnX rfl (sn_cal c_tries_of (hr.mono (by decide)) passX (sa_cons (se_var (pv 6)) (sa_cons (se_var (pv 0)) (sa_cons (se_var (pv 8)) sa_nil)))) (pg_name (i := 5) sc_told.nd rfl (by first | exact Or.inl rfl | exact Or.inr rfl)) (sb_one (ss_if (st_val (SN.toE (sn_cal c_truth (hr.mono (by decide)) passX (sa_cons (se_var (pv 6)) (sa_cons (SN.toE (sn_d1 (se_var (pv 0)) (se_var (pv 5)))) sa_nil))))) (sb_one (ss_ret (sn_div (se_var (pv 5)) (se_var (pv 7))))) sb_nil)))
    (sb_one (ss_ret sn_non)))))))
theorem ok_law_cell_at (D_ : DefAt K mg "_law_cell_at" s_law_cell_at) (z_len : mg "len" = none) : Cal P w K mg base C "_law_cell_at" 1 2 m_law_cell_at :=
  cal_def (N := ["_law_script", "_law_k"]) (ps := ["_law_script", "_law_k"]) D_ sc_law_cell_at (fun _ _ _ _ _ _ us hl => match us, hl with | [_, _], _ => rfl) rfl rfl (by decide) fun f cdv A outer s H E hr =>
    (sb_cons (ss_if (st_lt (se_var (pv 1)) (SN.toE (sn_len (sa_cons (se_var (pv 0)) sa_nil) z_len))) (sb_one (ss_ret (sn_sub_ix (se_var (pv 0)) (se_var (pv 1))))) sb_nil)
    (sb_one (ss_ret sn_int)))
theorem ok_law_whole (D_ : DefAt K mg "_law_whole" s_law_whole) (z_isinstance : mg "isinstance" = none) (z_bool : mg "bool" = none) (z_int : mg "int" = none) : Cal P w K mg base C "_law_whole" 1 1 m_law_whole :=
  cal_def (N := ["_law_got"]) (ps := ["_law_got"]) D_ sc_law_whole (fun _ _ _ _ _ _ us hl => match us, hl with | [_], _ => rfl) rfl rfl (by decide) fun f cdv A outer s H E hr =>
    (sb_one (ss_ret (sn_and (SN.toE (sn_isi (se_var (pv 0)) z_isinstance z_int (by decide +kernel))) (sn_one (sn_not (SN.toE (sn_isi (se_var (pv 0)) z_isinstance z_bool (by decide +kernel))))))))
theorem ok_law_names_by (D_ : DefAt K mg "_law_names_by" s_law_names_by) (z_range : mg "range" = none) : Cal P w K mg base C "_law_names_by" 1 1 m_law_names_by :=
  cal_def (N := ["_law_cell", "_law_letters", "_law_size", "_law_word", "_law_number", "_law_k", "_law_spot", "_law_usual"]) (ps := ["_law_cell"]) D_ sc_law_names_by (fun _ _ _ _ _ _ us hl => match us, hl with | [_], _ => rfl) rfl rfl (by decide) fun f cdv A outer s H E hr =>
    (sb_cons (ss_set (i := 1) sn_str sc_law_names_by.nd)
    (sb_cons (ss_set (i := 2) (sn_add (SN.toE sn_int) (SN.toE (sn_mod (se_var (pv 0)) (SN.toE sn_int)))) sc_law_names_by.nd)
    (sb_cons (ss_set (i := 3) sn_str sc_law_names_by.nd)
    (sb_cons (ss_set (i := 4) (sn_var (pv 0)) sc_law_names_by.nd)
    (sb_cons (ss_forR1 passOwnX rfl z_range (sa_cons (se_var (pv 2)) sa_nil) (pg_name (i := 5) sc_law_names_by.nd rfl (by first | exact Or.inl rfl | exact Or.inr rfl)) (sb_cons (ss_set (i := 4) (sn_mod (SN.toE (sn_add (SN.toE (sn_mul (se_var (pv 4)) (SN.toE sn_int))) (SN.toE sn_int))) (SN.toE sn_int)) sc_law_names_by.nd)
      (sb_one (ss_set (i := 3) (sn_add (se_var (pv 3)) (SN.toE (sn_sub_ix (se_var (pv 1)) (SN.toE (sn_mod (SN.toE (sn_div (se_var (pv 4)) (SN.toE sn_int))) (SN.toE sn_int)))))) sc_law_names_by.nd))))
    (sb_cons (ss_if (st_eq hr.units (SN.toE (sn_mod (SN.toE (sn_div (se_var (pv 0)) (SN.toE sn_int))) (SN.toE sn_int))) (SN.toE sn_int)) (sb_one (ss_ret (sn_lcR1 (x := "_law_k") (j := 5) rfl sc_law_names_by.nd z_range (sa_cons (SN.toE sn_int) sa_nil) (blkOk_by (N := ["_law_cell", "_law_letters", "_law_size", "_law_word", "_law_number", "_law_k", "_law_spot", "_law_usual"]) (sc := defScope s_law_names_by) (own := [("_law_k", 5)]) (by decide +kernel)) (fun _ _ _ _ _ => pg_name (i := 5) sc_law_names_by.nd rfl (by first | exact Or.inl rfl | exact Or.inr rfl)) (fun _ _ _ _ _ => pts_can0) (fun _ _ _ _ _ => (sn_mul (SN.toE (sn_slice (se_var (pv 3)) so_none (so_some (SN.toE sn_int)))) (SN.toE (sn_add (SN.toE sn_int) (SN.toE (sn_mod (SN.toE (sn_add (se_var (pv 5)) (SN.toE (sn_div (se_var (pv 0)) (SN.toE sn_int))))) (SN.toE sn_int)))))))))) sb_nil)
    (sb_cons (ss_if (st_in (hu_of hr) (SN.toE (sn_mod (SN.toE (sn_div (se_var (pv 0)) (SN.toE sn_int))) (SN.toE sn_int))) (SN.toE (sn_lst (sa_cons (SN.toE sn_int) (sa_cons (SN.toE sn_int) (sa_cons (SN.toE sn_int) sa_nil)))))) (sb_cons (ss_set (i := 7) (sn_lst (sa_cons (SN.toE sn_str) (sa_cons (SN.toE sn_str) (sa_cons (SN.toE sn_str) (sa_cons (SN.toE sn_str) (sa_cons (SN.toE sn_str) (sa_cons (SN.toE sn_str) (sa_cons (SN.toE sn_str) (sa_cons (SN.toE sn_str) (sa_cons (SN.toE sn_str) (sa_cons (SN.toE sn_str) (sa_cons (SN.toE sn_str) (sa_cons (SN.toE sn_str) (sa_cons (SN.toE sn_str) (sa_cons (SN.toE sn_str) sa_nil))))))))))))))) sc_law_names_by.nd)
      (sb_cons (ss_set (i := 7) (sn_add (se_var (pv 7)) (SN.toE (sn_lst (sa_cons (SN.toE sn_str) (sa_cons (SN.toE sn_str) (sa_cons (SN.toE sn_str) (sa_cons (SN.toE sn_str) (sa_cons (SN.toE sn_str) (sa_cons (SN.toE sn_str) (sa_cons (SN.toE sn_str) (sa_cons (SN.toE sn_str) (sa_cons (SN.toE sn_str) (sa_cons (SN.toE sn_str) (sa_cons (SN.toE sn_str) sa_nil)))))))))))))) sc_law_names_by.nd)
      (sb_one (ss_ret (sn_lcR1 (x := "_law_k") (j := 5) rfl sc_law_names_by.nd z_range (sa_cons (SN.toE sn_int) sa_nil) (blkOk_by (N := ["_law_cell", "_law_letters", "_law_size", "_law_word", "_law_number", "_law_k", "_law_spot", "_law_usual"]) (sc := defScope s_law_names_by) (own := [("_law_k", 5)]) (by decide +kernel)) (fun _ _ _ _ _ => pg_name (i := 5) sc_law_names_by.nd rfl (by first | exact Or.inl rfl | exact Or.inr rfl)) (fun _ _ _ _ _ => pts_can0) (fun _ _ _ _ _ => (sn_sub_ix (se_var (pv 7)) (SN.toE (sn_mod (SN.toE (sn_add (SN.toE (sn_div (se_var (pv 0)) (SN.toE sn_int))) (SN.toE (sn_sub_ix (SN.toE (sn_lst (sa_cons (SN.toE sn_int) (sa_cons (SN.toE sn_int) (sa_cons (SN.toE sn_int) (sa_cons (SN.toE sn_int) sa_nil)))))) (se_var (pv 5)))))) (SN.toE sn_int)))))))))) sb_nil)
    (sb_cons (ss_set (i := 6) (sn_mod (SN.toE (sn_div (se_var (pv 0)) (SN.toE sn_int))) (se_var (pv 2))) sc_law_names_by.nd)
    (sb_one (ss_ret (sn_lcR1 (x := "_law_k") (j := 5) rfl sc_law_names_by.nd z_range (sa_cons (SN.toE sn_int) sa_nil) (blkOk_by (N := ["_law_cell", "_law_letters", "_law_size", "_law_word", "_law_number", "_law_k", "_law_spot", "_law_usual"]) (sc := defScope s_law_names_by) (own := [("_law_k", 5)]) (by decide +kernel)) (fun _ _ _ _ _ => pg_name (i := 5) sc_law_names_by.nd rfl (by first | exact Or.inl rfl | exact Or.inr rfl)) (fun _ _ _ _ _ => pts_can0) (fun _ _ _ _ _ => (sn_add (SN.toE (sn_add (SN.toE (sn_slice (se_var (pv 3)) so_none (so_some (se_var (pv 6))))) (SN.toE (sn_sub_ix (se_var (pv 1)) (SN.toE (sn_mod (SN.toE (sn_add (SN.toE (sn_div (se_var (pv 0)) (SN.toE sn_int))) (SN.toE (sn_mul (SN.toE sn_int) (se_var (pv 5)))))) (SN.toE sn_int))))))) (SN.toE (sn_slice (se_var (pv 3)) (so_some (SN.toE (sn_add (se_var (pv 6)) (SN.toE sn_int)))) so_none)))))))))))))))
theorem ok_law_big_by (D_ : DefAt K mg "_law_big_by" s_law_big_by) (z_range : mg "range" = none) : Cal P w K mg base C "_law_big_by" 1 1 m_law_big_by :=
  cal_def (N := ["_law_cell", "_law_number", "_law_mixed", "_law_k"]) (ps := ["_law_cell"]) D_ sc_law_big_by (fun _ _ _ _ _ _ us hl => match us, hl with | [_], _ => rfl) rfl rfl (by decide) fun f cdv A outer s H E hr =>
    (sb_cons (ss_if (st_gt (SN.toE (sn_mod (se_var (pv 0)) (SN.toE sn_int))) (SN.toE sn_int)) (sb_one (ss_ret (sn_sub (SN.toE (sn_mod (SN.toE (sn_div (se_var (pv 0)) (SN.toE sn_int))) (SN.toE sn_int))) (SN.toE sn_int)))) sb_nil)
    (sb_cons (ss_set (i := 1) sn_int sc_law_big_by.nd)
    (sb_cons (ss_set (i := 2) (sn_var (pv 0)) sc_law_big_by.nd)
    (sb_cons (ss_forR1 passOwnX rfl z_range (sa_cons (SN.toE (sn_add (SN.toE sn_int) (SN.toE (sn_mod (SN.toE (sn_div (se_var (pv 0)) (SN.toE sn_int))) (SN.toE sn_int))))) sa_nil) (pg_name (i := 3) sc_law_big_by.nd rfl (by first | exact Or.inl rfl | exact Or.inr rfl)) (sb_cons (ss_set (i := 2) (sn_mod (SN.toE (sn_add (SN.toE (sn_mul (se_var (pv 2)) (SN.toE sn_int))) (SN.toE sn_int))) (SN.toE sn_int)) sc_law_big_by.nd)
      (sb_one (ss_set (i := 1) (sn_add (SN.toE (sn_mul (se_var (pv 1)) (SN.toE sn_int))) (SN.toE (sn_mod (SN.toE (sn_div (se_var (pv 2)) (SN.toE sn_int))) (SN.toE sn_int)))) sc_law_big_by.nd))))
    (sb_one (ss_ret (sn_mul (SN.toE (sn_sub_ix (SN.toE (sn_lst (sa_cons (SN.toE sn_int) (sa_cons (SN.toE (sn_neg (SN.toE sn_int))) sa_nil)))) (SN.toE (sn_mod (SN.toE (sn_div (se_var (pv 0)) (SN.toE sn_int))) (SN.toE sn_int))))) (se_var (pv 1)))))))))
theorem ok_law_value (D_ : DefAt K mg "_law_value" s_law_value) : Cal P w K mg base C "_law_value" 1 2 m_law_value :=
  cal_def (N := ["_law_one", "_law_values", "_law_total", "_law_pair"]) (ps := ["_law_one", "_law_values"]) D_ sc_law_value (fun _ _ _ _ _ _ us hl => match us, hl with | [_, _], _ => rfl) rfl rfl (by decide) fun f cdv A outer s H E hr =>
    (sb_cons (ss_set (i := 2) (sn_sub_ix (se_var (pv 0)) (SN.toE sn_int)) sc_law_value.nd)
    (sb_cons (ss_forT passOwnX rfl (SN.toE (sn_sub_ix (se_var (pv 0)) (SN.toE sn_int))) (pg_name (i := 3) sc_law_value.nd rfl (by first | exact Or.inl rfl | exact Or.inr rfl)) (sb_one (ss_set (i := 2) (sn_add (se_var (pv 2)) (SN.toE (sn_mul (SN.toE (sn_sub_ix (se_var (pv 3)) (SN.toE sn_int))) (SN.toE (sn_dget (hu_of hr) (se_var (pv 1)) (SN.toE (sn_sub_ix (se_var (pv 3)) (SN.toE sn_int)))))))) sc_law_value.nd)))
    (sb_one (ss_retN (pv 2)))))
theorem ok_law_true (D_ : DefAt K mg "_law_true" s_law_true) (c_law_value : Cal P w K mg base C "_law_value" 1 2 m_law_value) : ∀ n : Nat, Cal P w K mg base C "_law_true" (1 + n) 2 (m_law_true n)
  | 0 => cal_none (ps := ["_law_statement", "_law_values"]) D_ (fun _ _ _ _ _ _ us hl => match us, hl with | [_, _], _ => rfl) rfl
  | n + 1 => by
    have ih := ok_law_true D_ c_law_value n
    exact cal_def (N := ["_law_statement", "_law_values", "_law_kind_here", "_law_number", "_law_part"]) (ps := ["_law_statement", "_law_values"]) D_ sc_law_true (fun _ _ _ _ _ _ us hl => match us, hl with | [_, _], _ => rfl) rfl rfl (by decide) fun f cdv A outer s H E hr =>
    (sb_cons (ss_set (i := 2) (sn_sub_ix (se_var (pv 0)) (SN.toE sn_int)) sc_law_true.nd)
    (sb_cons (ss_if (st_eq hr.units (se_var (pv 2)) (SN.toE sn_str)) (sb_one (ss_ret (sn_not (SN.toE (sn_cal ih (hr.mono (Nat.le_refl _)) passX (sa_cons (SN.toE (sn_sub_ix (se_var (pv 0)) (SN.toE sn_int))) (sa_cons (se_var (pv 1)) sa_nil))))))) sb_nil)
    (sb_cons (ss_if (SW.st (sw_or (st_eq hr.units (se_var (pv 2)) (SN.toE sn_str)) (sw_or1 (st_eq hr.units (se_var (pv 2)) (SN.toE sn_str))))) (sb_cons (ss_forT passOwnX rfl (SN.toE (sn_sub_ix (se_var (pv 0)) (SN.toE sn_int))) (pg_name (i := 4) sc_law_true.nd rfl (by first | exact Or.inl rfl | exact Or.inr rfl)) (sb_one (ss_if (st_eq hr.units (SN.toE (sn_cal ih (hr.mono (Nat.le_refl _)) passX (sa_cons (se_var (pv 4)) (sa_cons (se_var (pv 1)) sa_nil)))) (SN.toE (sn_eq hr.units (se_var (pv 2)) (SN.toE sn_str)))) (sb_one (ss_ret (sn_eq hr.units (se_var (pv 2)) (SN.toE sn_str)))) sb_nil)))
      (sb_one (ss_ret (sn_eq hr.units (se_var (pv 2)) (SN.toE sn_str))))) sb_nil)
    (sb_cons (ss_set (i := 3) (sn_cal c_law_value (hr.mono (Nat.le_trans (by decide) (Nat.le_add_right _ _))) passX (sa_cons (SN.toE (sn_sub_ix (se_var (pv 0)) (SN.toE (sn_neg (SN.toE sn_int))))) (sa_cons (se_var (pv 1)) sa_nil))) sc_law_true.nd)
    (sb_cons (ss_if (st_eq hr.units (se_var (pv 2)) (SN.toE sn_str)) (sb_one (ss_ret (sn_eq hr.units (SN.toE (sn_mod (se_var (pv 3)) (SN.toE (sn_sub_ix (se_var (pv 0)) (SN.toE sn_int))))) (SN.toE sn_int)))) sb_nil)
    (sb_cons (ss_if (st_eq hr.units (se_var (pv 2)) (SN.toE sn_str)) (sb_one (ss_ret (sn_gt (se_var (pv 3)) (SN.toE sn_int)))) sb_nil)
    (sb_one (ss_ret (sn_eq hr.units (se_var (pv 3)) (SN.toE sn_int))))))))))
theorem ok_law_sum_is (D_ : DefAt K mg "_law_sum_is" s_law_sum_is) (c_law_whole : Cal P w K mg base C "_law_whole" 1 1 m_law_whole) (z_isinstance : mg "isinstance" = none) (z_tuple : mg "tuple" = none) (z_len : mg "len" = none) (z_str : mg "str" = none) : Cal P w K mg base C "_law_sum_is" 2 2 m_law_sum_is :=
  cal_def (N := ["_law_one", "_law_names", "_law_last", "_law_pair"]) (ps := ["_law_one", "_law_names"]) D_ sc_law_sum_is (fun _ _ _ _ _ _ us hl => match us, hl with | [_, _], _ => rfl) rfl rfl (by decide) fun f cdv A outer s H E hr =>
    (sb_cons (ss_if (SW.st (sw_or (st_not (st_val (SN.toE (sn_isi (se_var (pv 0)) z_isinstance z_tuple (by decide +kernel))))) (sw_or (st_ne hr.units (SN.toE (sn_len (sa_cons (se_var (pv 0)) sa_nil) z_len)) (SN.toE sn_int)) (sw_or (st_not (st_val (SN.toE (sn_cal c_law_whole (hr.mono (by decide)) passX (sa_cons (SN.toE (sn_sub_ix (se_var (pv 0)) (SN.toE sn_int))) sa_nil))))) (sw_or1 (st_not (st_val (SN.toE (sn_isi (SN.toE (sn_sub_ix (se_var (pv 0)) (SN.toE sn_int))) z_isinstance z_tuple (by decide +kernel)))))))))) (sb_one (ss_ret sn_bl)) sb_nil)
    (sb_cons (ss_set (i := 2) sn_str sc_law_sum_is.nd)
    (sb_cons (ss_forT passOwnX rfl (SN.toE (sn_sub_ix (se_var (pv 0)) (SN.toE sn_int))) (pg_name (i := 3) sc_law_sum_is.nd rfl (by first | exact Or.inl rfl | exact Or.inr rfl)) (sb_cons (ss_if (SW.st (sw_or (st_not (st_val (SN.toE (sn_isi (se_var (pv 3)) z_isinstance z_tuple (by decide +kernel))))) (sw_or (st_ne hr.units (SN.toE (sn_len (sa_cons (se_var (pv 3)) sa_nil) z_len)) (SN.toE sn_int)) (sw_or1 (st_not (st_val (SN.toE (sn_isi (SN.toE (sn_sub_ix (se_var (pv 3)) (SN.toE sn_int))) z_isinstance z_str (by decide +kernel))))))))) (sb_one (ss_ret sn_bl)) sb_nil)
      (sb_cons (ss_if (SW.st (sw_or (st_not (st_val (SN.toE (sn_cal c_law_whole (hr.mono (by decide)) passX (sa_cons (SN.toE (sn_sub_ix (se_var (pv 3)) (SN.toE sn_int))) sa_nil))))) (sw_or (st_eq hr.units (SN.toE (sn_sub_ix (se_var (pv 3)) (SN.toE sn_int))) (SN.toE sn_int)) (sw_or (st_le (SN.toE (sn_sub_ix (se_var (pv 3)) (SN.toE sn_int))) (se_var (pv 2))) (sw_or1 (st_nin (hu_of hr) (SN.toE (sn_sub_ix (se_var (pv 3)) (SN.toE sn_int))) (se_var (pv 1)))))))) (sb_one (ss_ret sn_bl)) sb_nil)
      (sb_one (ss_set (i := 2) (sn_sub_ix (se_var (pv 3)) (SN.toE sn_int)) sc_law_sum_is.nd)))))
    (sb_one (ss_ret sn_bl)))))
theorem ok_law_plain_is (D_ : DefAt K mg "_law_plain_is" s_law_plain_is) (c_law_sum_is : Cal P w K mg base C "_law_sum_is" 2 2 m_law_sum_is) (c_law_whole : Cal P w K mg base C "_law_whole" 1 1 m_law_whole) (z_isinstance : mg "isinstance" = none) (z_str : mg "str" = none) (z_len : mg "len" = none) (z_tuple : mg "tuple" = none) : ∀ n : Nat, Cal P w K mg base C "_law_plain_is" (2 + n) 2 (m_law_plain_is n)
  | 0 => cal_none (ps := ["_law_statement", "_law_names"]) D_ (fun _ _ _ _ _ _ us hl => match us, hl with | [_, _], _ => rfl) rfl
  | n + 1 => by
    have ih := ok_law_plain_is D_ c_law_sum_is c_law_whole z_isinstance z_str z_len z_tuple n
    exact cal_def (N := ["_law_statement", "_law_names", "_law_kind_here", "_law_part"]) (ps := ["_law_statement", "_law_names"]) D_ sc_law_plain_is (fun _ _ _ _ _ _ us hl => match us, hl with | [_, _], _ => rfl) rfl rfl (by decide) fun f cdv A outer s H E hr =>
    (sb_cons (ss_if (SW.st (sw_or (st_not (st_val (SN.toE (sn_isi (se_var (pv 0)) z_isinstance z_tuple (by decide +kernel))))) (sw_or (st_lt (SN.toE (sn_len (sa_cons (se_var (pv 0)) sa_nil) z_len)) (SN.toE sn_int)) (sw_or1 (st_not (st_val (SN.toE (sn_isi (SN.toE (sn_sub_ix (se_var (pv 0)) (SN.toE sn_int))) z_isinstance z_str (by decide +kernel))))))))) (sb_one (ss_ret sn_bl)) sb_nil)
    (sb_cons (ss_set (i := 2) (sn_sub_ix (se_var (pv 0)) (SN.toE sn_int)) sc_law_plain_is.nd)
    (sb_cons (ss_if (SW.st (sw_and (st_eq hr.units (se_var (pv 2)) (SN.toE sn_str)) (sw_and1 (st_eq hr.units (SN.toE (sn_len (sa_cons (se_var (pv 0)) sa_nil) z_len)) (SN.toE sn_int))))) (sb_one (ss_ret (sn_and (SN.toE (sn_cal c_law_whole (hr.mono (Nat.le_trans (by decide) (Nat.le_add_right _ _))) passX (sa_cons (SN.toE (sn_sub_ix (se_var (pv 0)) (SN.toE sn_int))) sa_nil))) (sn_and (SN.toE (sn_gt (SN.toE (sn_sub_ix (se_var (pv 0)) (SN.toE sn_int))) (SN.toE sn_int))) (sn_one (sn_cal c_law_sum_is (hr.mono (Nat.le_trans (by decide) (Nat.le_add_right _ _))) passX (sa_cons (SN.toE (sn_sub_ix (se_var (pv 0)) (SN.toE sn_int))) (sa_cons (se_var (pv 1)) sa_nil)))))))) sb_nil)
    (sb_cons (ss_if (st_ne hr.units (SN.toE (sn_len (sa_cons (se_var (pv 0)) sa_nil) z_len)) (SN.toE sn_int)) (sb_one (ss_ret sn_bl)) sb_nil)
    (sb_cons (ss_if (st_eq hr.units (se_var (pv 2)) (SN.toE sn_str)) (sb_one (ss_ret (sn_cal ih (hr.mono (Nat.le_refl _)) passX (sa_cons (SN.toE (sn_sub_ix (se_var (pv 0)) (SN.toE sn_int))) (sa_cons (se_var (pv 1)) sa_nil))))) sb_nil)
    (sb_cons (ss_if (SW.st (sw_or (st_eq hr.units (se_var (pv 2)) (SN.toE sn_str)) (sw_or1 (st_eq hr.units (se_var (pv 2)) (SN.toE sn_str))))) (sb_cons (ss_if (st_not (st_val (SN.toE (sn_isi (SN.toE (sn_sub_ix (se_var (pv 0)) (SN.toE sn_int))) z_isinstance z_tuple (by decide +kernel))))) (sb_one (ss_ret sn_bl)) sb_nil)
      (sb_cons (ss_forT passOwnX rfl (SN.toE (sn_sub_ix (se_var (pv 0)) (SN.toE sn_int))) (pg_name (i := 3) sc_law_plain_is.nd rfl (by first | exact Or.inl rfl | exact Or.inr rfl)) (sb_one (ss_if (st_not (st_val (SN.toE (sn_cal ih (hr.mono (Nat.le_refl _)) passX (sa_cons (se_var (pv 3)) (sa_cons (se_var (pv 1)) sa_nil)))))) (sb_one (ss_ret sn_bl)) sb_nil)))
      (sb_one (ss_ret sn_bl)))) sb_nil)
    (sb_one (ss_ret (sn_and (SN.toE (sn_or (SN.toE (sn_eq hr.units (se_var (pv 2)) (SN.toE sn_str))) (sn_one (sn_eq hr.units (se_var (pv 2)) (SN.toE sn_str))))) (sn_one (sn_cal c_law_sum_is (hr.mono (Nat.le_trans (by decide) (Nat.le_add_right _ _))) passX (sa_cons (SN.toE (sn_sub_ix (se_var (pv 0)) (SN.toE sn_int))) (sa_cons (se_var (pv 1)) sa_nil)))))))))))))
theorem ok_law_sum (D_ : DefAt K mg "_law_sum" s_law_sum) (z_tuple : mg "tuple" = none) (z_sorted : mg "sorted" = none) : Cal P w K mg base C "_law_sum" 1 2 m_law_sum :=
  cal_def (N := ["_law_number", "_law_pairs", "_law_pair"]) (ps := ["_law_number", "_law_pairs"]) D_ sc_law_sum (fun _ _ _ _ _ _ us hl => match us, hl with | [_, _], _ => rfl) rfl rfl (by decide) fun f cdv A outer s H E hr =>
    (sb_one (ss_ret (sn_tup (sa_cons (se_var (pv 0)) (sa_cons (SN.toE (sn_tuple (sa_cons (SN.toE (sn_sortPD hr.units (sa_cons (SN.toE (sn_lcL (x := "_law_pair") (j := 2) rfl sc_law_sum.nd (se_var (pv 1)) (blkOk_by (N := ["_law_number", "_law_pairs", "_law_pair"]) (sc := defScope s_law_sum) (own := [("_law_pair", 2)]) (by decide +kernel)) (fun _ _ _ _ _ => pg_name (i := 2) sc_law_sum.nd rfl (by first | exact Or.inl rfl | exact Or.inr rfl)) (fun _ _ _ _ _ => (pts_can1 (st_ne hr.units (SN.toE (sn_sub_ix (se_var (pv 2)) (SN.toE sn_int))) (SN.toE sn_int)))) (fun _ _ _ _ _ => (sn_var (pv 2))))) sa_nil) z_sorted)) sa_nil) z_tuple)) sa_nil)))))
theorem ok_law_kind (D_ : DefAt K mg "_law_kind" s_law_kind) (c_law_cell_at : Cal P w K mg base C "_law_cell_at" 1 2 m_law_cell_at) (c_law_sum : Cal P w K mg base C "_law_sum" 1 2 m_law_sum) (z_tuple : mg "tuple" = none) : Cal P w K mg base C "_law_kind" 2 3 m_law_kind :=
  cal_def (N := ["_law_script", "_law_names", "_law_values", "_law_by", "_law_low", "_law_high", "_law_between", "_law_way", "_law_parts", "_law_x", "_law_y", "_law_z", "_law_rest"]) (ps := ["_law_script", "_law_names", "_law_values"]) D_ sc_law_kind (fun _ _ _ _ _ _ us hl => match us, hl with | [_, _, _], _ => rfl) rfl rfl (by decide) fun f cdv A outer s H E hr =>
    (sb_cons (ss_set (i := 3) (sn_add (SN.toE sn_int) (SN.toE (sn_mod (SN.toE (sn_cal c_law_cell_at (hr.mono (by decide)) passX (sa_cons (se_var (pv 0)) (sa_cons (SN.toE sn_int) sa_nil)))) (SN.toE sn_int)))) sc_law_kind.nd)
    (sb_cons (ss_unpL (is := [9, 10, 11]) rfl (SN.toE (sn_slice (se_var (pv 1)) so_none (so_some (SN.toE sn_int)))) (pg_lst rfl (pgs_cons (pg_name (i := 9) sc_law_kind.nd rfl (Or.inl rfl)) (pgs_cons (pg_name (i := 10) sc_law_kind.nd rfl (Or.inl rfl)) (pgs_cons (pg_name (i := 11) sc_law_kind.nd rfl (Or.inl rfl)) pgs_nil)))))
    (sb_cons (ss_set (i := 4) (sn_dget (hu_of hr) (se_var (pv 2)) (se_var (pv 10))) sc_law_kind.nd)
    (sb_cons (ss_set (i := 5) (sn_dget (hu_of hr) (se_var (pv 2)) (se_var (pv 11))) sc_law_kind.nd)
    (sb_cons (ss_set (i := 6) (sn_lst (sa_cons (SN.toE (sn_tup (sa_cons (SN.toE sn_str) (sa_cons (SN.toE (sn_cal c_law_sum (hr.mono (by decide)) passX (sa_cons (SN.toE sn_int) (sa_cons (SN.toE (sn_lst (sa_cons (SN.toE (sn_tup (sa_cons (se_var (pv 9)) (sa_cons (se_var (pv 3)) sa_nil)))) (sa_cons (SN.toE (sn_tup (sa_cons (se_var (pv 10)) (sa_cons (SN.toE (sn_neg (SN.toE sn_int))) sa_nil)))) sa_nil)))) sa_nil)))) sa_nil)))) (sa_cons (SN.toE (sn_tup (sa_cons (SN.toE sn_str) (sa_cons (SN.toE (sn_cal c_law_sum (hr.mono (by decide)) passX (sa_cons (SN.toE sn_int) (sa_cons (SN.toE (sn_lst (sa_cons (SN.toE (sn_tup (sa_cons (se_var (pv 9)) (sa_cons (SN.toE (sn_sub (SN.toE sn_int) (se_var (pv 3)))) sa_nil)))) (sa_cons (SN.toE (sn_tup (sa_cons (se_var (pv 11)) (sa_cons (SN.toE sn_int) sa_nil)))) sa_nil)))) sa_nil)))) sa_nil)))) sa_nil))) sc_law_kind.nd)
    (sb_cons (ss_set (i := 7) (sn_mod (SN.toE (sn_cal c_law_cell_at (hr.mono (by decide)) passX (sa_cons (se_var (pv 0)) (sa_cons (SN.toE sn_int) sa_nil)))) (SN.toE sn_int)) sc_law_kind.nd)
    (sb_cons (ss_if (st_eq hr.units (se_var (pv 7)) (SN.toE sn_int)) (sb_one (ss_ret (sn_tup (sa_cons (SN.toE sn_str) (sa_cons (SN.toE (sn_tup (sa_cons (SN.toE sn_str) (sa_cons (SN.toE (sn_tuple (sa_cons (se_var (pv 6)) sa_nil) z_tuple)) sa_nil)))) (sa_cons (SN.toE (sn_lt (SN.toE (sn_mul (SN.toE (sn_add (SN.toE (sn_div (se_var (pv 4)) (se_var (pv 3)))) (SN.toE sn_int))) (se_var (pv 3)))) (se_var (pv 5)))) sa_nil)))))) sb_nil)
    (sb_cons (ss_if (st_eq hr.units (se_var (pv 7)) (SN.toE sn_int)) (sb_one (ss_ret (sn_tup (sa_cons (SN.toE sn_str) (sa_cons (SN.toE (sn_tup (sa_cons (SN.toE sn_str) (sa_cons (SN.toE (sn_cal c_law_sum (hr.mono (by decide)) passX (sa_cons (SN.toE sn_int) (sa_cons (SN.toE (sn_lst (sa_cons (SN.toE (sn_tup (sa_cons (se_var (pv 9)) (sa_cons (se_var (pv 3)) sa_nil)))) (sa_cons (SN.toE (sn_tup (sa_cons (se_var (pv 10)) (sa_cons (SN.toE (sn_neg (SN.toE sn_int))) sa_nil)))) sa_nil)))) sa_nil)))) sa_nil)))) (sa_cons (SN.toE (sn_eq hr.units (SN.toE (sn_mod (se_var (pv 4)) (se_var (pv 3)))) (SN.toE sn_int))) sa_nil)))))) sb_nil)
    (sb_cons (ss_if (st_eq hr.units (se_var (pv 7)) (SN.toE sn_int)) (sb_cons (ss_set (i := 12) (sn_tup (sa_cons (SN.toE sn_str) (sa_cons (se_var (pv 3)) (sa_cons (SN.toE (sn_cal c_law_sum (hr.mono (by decide)) passX (sa_cons (SN.toE sn_int) (sa_cons (SN.toE (sn_lst (sa_cons (SN.toE (sn_tup (sa_cons (se_var (pv 9)) (sa_cons (SN.toE sn_int) sa_nil)))) (sa_cons (SN.toE (sn_tup (sa_cons (se_var (pv 10)) (sa_cons (SN.toE sn_int) sa_nil)))) sa_nil)))) sa_nil)))) sa_nil)))) sc_law_kind.nd)
      (sb_one (ss_ret (sn_tup (sa_cons (SN.toE sn_str) (sa_cons (SN.toE (sn_tup (sa_cons (SN.toE sn_str) (sa_cons (SN.toE (sn_tup (sa_cons (se_var (pv 12)) (sa_cons (SN.toE (sn_tup (sa_cons (SN.toE sn_str) (sa_cons (SN.toE (sn_cal c_law_sum (hr.mono (by decide)) passX (sa_cons (SN.toE sn_int) (sa_cons (SN.toE (sn_lst (sa_cons (SN.toE (sn_tup (sa_cons (se_var (pv 9)) (sa_cons (SN.toE sn_int) sa_nil)))) (sa_cons (SN.toE (sn_tup (sa_cons (se_var (pv 11)) (sa_cons (SN.toE (sn_neg (SN.toE sn_int))) sa_nil)))) sa_nil)))) sa_nil)))) sa_nil)))) sa_nil)))) sa_nil)))) (sa_cons (SN.toE sn_bl) sa_nil))))))) sb_nil)
    (sb_cons (ss_set (i := 8) (sn_tup (sa_cons (SN.toE (sn_tup (sa_cons (SN.toE sn_str) (sa_cons (SN.toE (sn_cal c_law_sum (hr.mono (by decide)) passX (sa_cons (SN.toE sn_int) (sa_cons (SN.toE (sn_lst (sa_cons (SN.toE (sn_tup (sa_cons (se_var (pv 9)) (sa_cons (SN.toE sn_int) sa_nil)))) (sa_cons (SN.toE (sn_tup (sa_cons (se_var (pv 10)) (sa_cons (SN.toE (sn_neg (SN.toE sn_int))) sa_nil)))) sa_nil)))) sa_nil)))) sa_nil)))) (sa_cons (SN.toE (sn_tup (sa_cons (SN.toE sn_str) (sa_cons (SN.toE (sn_cal c_law_sum (hr.mono (by decide)) passX (sa_cons (SN.toE sn_int) (sa_cons (SN.toE (sn_lst (sa_cons (SN.toE (sn_tup (sa_cons (se_var (pv 9)) (sa_cons (SN.toE (sn_neg (SN.toE sn_int))) sa_nil)))) (sa_cons (SN.toE (sn_tup (sa_cons (se_var (pv 11)) (sa_cons (SN.toE sn_int) sa_nil)))) sa_nil)))) sa_nil)))) sa_nil)))) sa_nil))) sc_law_kind.nd)
    (sb_one (ss_ret (sn_tup (sa_cons (SN.toE sn_str) (sa_cons (SN.toE (sn_tup (sa_cons (SN.toE sn_str) (sa_cons (se_var (pv 8)) sa_nil)))) (sa_cons (SN.toE (sn_lt (se_var (pv 4)) (se_var (pv 5)))) sa_nil))))))))))))))))
theorem ok_law_same (D_ : DefAt K mg "_law_same" s_law_same) (z_isinstance : mg "isinstance" = none) (z_bool : mg "bool" = none) : Cal P w K mg base C "_law_same" 1 2 m_law_same :=
  cal_def (N := ["_law_got", "_law_due"]) (ps := ["_law_got", "_law_due"]) D_ sc_law_same (fun _ _ _ _ _ _ us hl => match us, hl with | [_, _], _ => rfl) rfl rfl (by decide) fun f cdv A outer s H E hr =>
    (sb_one (ss_ret (sn_and (SN.toE (sn_isi (se_var (pv 0)) z_isinstance z_bool (by decide +kernel))) (sn_one (sn_eq hr.units (se_var (pv 0)) (se_var (pv 1)))))))
theorem body_law (c_law_cell_at : Cal P w K mg base C "_law_cell_at" 1 2 m_law_cell_at) (c_law_names_by : Cal P w K mg base C "_law_names_by" 1 1 m_law_names_by) (c_law_big_by : Cal P w K mg base C "_law_big_by" 1 1 m_law_big_by) (c_law_kind : Cal P w K mg base C "_law_kind" 2 3 m_law_kind) (c_holds : Cal P w K mg base C "holds" 184 2 (m_holds w)) (c_law_same : Cal P w K mg base C "_law_same" 1 2 m_law_same) (c_left : Cal P w K mg base C "left" 183 1 (m_left w 60)) (c_is_true : Cal P w K mg base C "is_true" 62 2 m_is_true) (c_law_plain_is : Cal P w K mg base C "_law_plain_is" 62 2 (m_law_plain_is 60)) (c_told : Cal P w K mg base C "told" 184 3 (m_told w)) (c_law_whole : Cal P w K mg base C "_law_whole" 1 1 m_law_whole) (c_law_true : Cal P w K mg base C "_law_true" 61 2 (m_law_true 60)) : ∀ (f : Addr) (cdv : Value) (A : Around) (outer : List Env) (s : Shared) (H : Hp) (E : XK), Room 184 (A.deeper (PyProof.Rows.envOfC "law" (defScope s_law) s.heap.objs.size f cdv)) →
    SB (cxOf (L2N.CX P w) P w K mg base ["_law_script", "_law_names", "_law_values", "_law_statement", "_law_plain", "_law_got", "_law_kind_here", "_law_body", "_law_due"] "law" (defScope s_law) f cdv A outer s H E) E C (defBody s_law) (g_law w) := fun f cdv A outer s H E hr =>
    (sb_cons (ss_set (i := 1) (sn_cal c_law_names_by (hr.mono (by decide)) passX (sa_cons (SN.toE (sn_cal c_law_cell_at (hr.mono (by decide)) passX (sa_cons (se_var (pv 0)) (sa_cons (SN.toE sn_int) sa_nil)))) sa_nil)) sc_law.nd)
    (sb_cons (ss_set (i := 2) sn_dnew sc_law.nd)
    (sb_cons (ss_dput (hu_of hr) (pv 2) (SN.toE (sn_sub_ix (se_var (pv 1)) (SN.toE sn_int))) (SN.toE (sn_cal c_law_big_by (hr.mono (by decide)) passX (sa_cons (SN.toE (sn_cal c_law_cell_at (hr.mono (by decide)) passX (sa_cons (se_var (pv 0)) (sa_cons (SN.toE sn_int) sa_nil)))) sa_nil))))
    (sb_cons (ss_dput (hu_of hr) (pv 2) (SN.toE (sn_sub_ix (se_var (pv 1)) (SN.toE sn_int))) (SN.toE (sn_cal c_law_big_by (hr.mono (by decide)) passX (sa_cons (SN.toE (sn_cal c_law_cell_at (hr.mono (by decide)) passX (sa_cons (se_var (pv 0)) (sa_cons (SN.toE sn_int) sa_nil)))) sa_nil))))
    (sb_cons (ss_if (st_eq hr.units (SN.toE (sn_mod (SN.toE (sn_cal c_law_cell_at (hr.mono (by decide)) passX (sa_cons (se_var (pv 0)) (sa_cons (SN.toE sn_int) sa_nil)))) (SN.toE sn_int))) (SN.toE sn_int)) (sb_one (ss_dput (hu_of hr) (pv 2) (SN.toE (sn_sub_ix (se_var (pv 1)) (SN.toE sn_int))) (SN.toE (sn_add (SN.toE (sn_dget (hu_of hr) (se_var (pv 2)) (SN.toE (sn_sub_ix (se_var (pv 1)) (SN.toE sn_int))))) (SN.toE (sn_mod (SN.toE (sn_div (SN.toE (sn_cal c_law_cell_at (hr.mono (by decide)) passX (sa_cons (se_var (pv 0)) (sa_cons (SN.toE sn_int) sa_nil)))) (SN.toE sn_int))) (SN.toE sn_int))))))) sb_nil)
    (sb_cons (ss_unp (is := [6, 7, 8]) rfl (SN.toE (sn_cal c_law_kind (hr.mono (by decide)) passX (sa_cons (se_var (pv 0)) (sa_cons (se_var (pv 1)) (sa_cons (se_var (pv 2)) sa_nil))))) (pg_tup rfl (pgs_cons (pg_name (i := 6) sc_law.nd rfl (Or.inl rfl)) (pgs_cons (pg_name (i := 7) sc_law.nd rfl (Or.inl rfl)) (pgs_cons (pg_name (i := 8) sc_law.nd rfl (Or.inl rfl)) pgs_nil)))))
    (sb_cons (ss_set (i := 3) (sn_tup (sa_cons (se_var (pv 6)) (sa_cons (SN.toE (sn_sub_ix (se_var (pv 1)) (SN.toE sn_int))) (sa_cons (se_var (pv 7)) sa_nil)))) sc_law.nd)
    (sb_cons (ss_if (st_not (st_val (SN.toE (sn_cal c_law_same (hr.mono (by decide)) passX (sa_cons (SN.toE (sn_cal c_holds (hr.mono (by decide)) passX (sa_cons (se_var (pv 3)) (sa_cons (se_var (pv 2)) sa_nil)))) (sa_cons (se_var (pv 8)) sa_nil)))))) (sb_one (ss_ret sn_bl)) sb_nil)
    (sb_cons (ss_set (i := 4) (sn_cal c_left (hr.mono (by decide)) passX (sa_cons (se_var (pv 3)) sa_nil)) sc_law.nd)
    (sb_cons (ss_if (SW.st (sw_or (st_not (st_val (SN.toE (sn_cal c_law_plain_is (hr.mono (by decide)) passX (sa_cons (se_var (pv 4)) (sa_cons (SN.toE (sn_slice (se_var (pv 1)) (so_some (SN.toE sn_int)) (so_some (SN.toE sn_int)))) sa_nil)))))) (sw_or1 (st_not (st_val (SN.toE (sn_cal c_law_same (hr.mono (by decide)) passX (sa_cons (SN.toE (sn_cal c_is_true (hr.mono (by decide)) passX (sa_cons (se_var (pv 4)) (sa_cons (se_var (pv 2)) sa_nil)))) (sa_cons (se_var (pv 8)) sa_nil))))))))) (sb_one (ss_ret sn_bl)) sb_nil)
    (sb_cons (ss_if (st_eq hr.units (se_var (pv 6)) (SN.toE sn_str)) (sb_cons (ss_set (i := 7) (sn_tup (sa_cons (SN.toE sn_str) (sa_cons (se_var (pv 7)) sa_nil))) sc_law.nd)
      (sb_one (ss_set (i := 8) (sn_not (se_var (pv 8))) sc_law.nd))) sb_nil)
    (sb_cons (ss_set (i := 5) (sn_cal c_told (hr.mono (by decide)) passX (sa_cons (SN.toE (sn_sub_ix (se_var (pv 1)) (SN.toE sn_int))) (sa_cons (se_var (pv 7)) (sa_cons (se_var (pv 2)) sa_nil)))) sc_law.nd)
    (sb_cons (ss_if (st_not (st_val (se_var (pv 8)))) (sb_one (ss_ret (sn_is (se_var (pv 5)) (SN.toE sn_non)))) sb_nil)
    (sb_cons (ss_if (st_not (st_val (SN.toE (sn_cal c_law_whole (hr.mono (by decide)) passX (sa_cons (se_var (pv 5)) sa_nil))))) (sb_one (ss_ret sn_bl)) sb_nil)
    (sb_cons (ss_dput (hu_of hr) (pv 2) (SN.toE (sn_sub_ix (se_var (pv 1)) (SN.toE sn_int))) (se_var (pv 5)))
    (sb_one (ss_ret (sn_cal c_law_true (hr.mono (by decide)) passX (sa_cons (se_var (pv 7)) (sa_cons (se_var (pv 2)) sa_nil))))))))))))))))))))
end
end Pf

set_option Elab.async false
set_option linter.all false
set_option maxRecDepth 100000
set_option maxHeartbeats 4000000
namespace Pf
open PySem L2
theorem all_mk {P : Program} {w : World} {K : PySem.W.Frag} {mg : Str → Option Value} {h : Heap} {fa : Addr} (KX : K.In h) (G : h.Ns mainGlobals mg) (hmg : mg "law" = some (.ref fa))
    {f_law_cell_at : Addr} {od_law_cell_at an_law_cell_at : Option Addr} {sl_law_cell_at : Array (Option Value)} {oc_law_cell_at kV_law_cell_at dc_law_cell_at pm_law_cell_at cd_law_cell_at ct_law_cell_at : Value}
    (a_law_cell_at : PySem.W.nsIn K mainGlobals "_law_cell_at" = some (some (.ref f_law_cell_at))) (l_law_cell_at : K.lookup f_law_cell_at = some ⟨oc_law_cell_at, od_law_cell_at, .func (PySem.W.fnOf "_law_cell_at" "_law_cell_at" (defArgs s_law_cell_at) (defBody s_law_cell_at) (defScope s_law_cell_at) .none kV_law_cell_at dc_law_cell_at pm_law_cell_at an_law_cell_at cd_law_cell_at ct_law_cell_at), sl_law_cell_at⟩) (c_law_cell_at : PySem.W.codeIn K cd_law_cell_at "_law_cell_at" = true) (k_law_cell_at : PySem.W.keepIn K (.ref f_law_cell_at) = true)
    {f_law_names_by : Addr} {od_law_names_by an_law_names_by : Option Addr} {sl_law_names_by : Array (Option Value)} {oc_law_names_by kV_law_names_by dc_law_names_by pm_law_names_by cd_law_names_by ct_law_names_by : Value}
    (a_law_names_by : PySem.W.nsIn K mainGlobals "_law_names_by" = some (some (.ref f_law_names_by))) (l_law_names_by : K.lookup f_law_names_by = some ⟨oc_law_names_by, od_law_names_by, .func (PySem.W.fnOf "_law_names_by" "_law_names_by" (defArgs s_law_names_by) (defBody s_law_names_by) (defScope s_law_names_by) .none kV_law_names_by dc_law_names_by pm_law_names_by an_law_names_by cd_law_names_by ct_law_names_by), sl_law_names_by⟩) (c_law_names_by : PySem.W.codeIn K cd_law_names_by "_law_names_by" = true) (k_law_names_by : PySem.W.keepIn K (.ref f_law_names_by) = true)
    {f_law_big_by : Addr} {od_law_big_by an_law_big_by : Option Addr} {sl_law_big_by : Array (Option Value)} {oc_law_big_by kV_law_big_by dc_law_big_by pm_law_big_by cd_law_big_by ct_law_big_by : Value}
    (a_law_big_by : PySem.W.nsIn K mainGlobals "_law_big_by" = some (some (.ref f_law_big_by))) (l_law_big_by : K.lookup f_law_big_by = some ⟨oc_law_big_by, od_law_big_by, .func (PySem.W.fnOf "_law_big_by" "_law_big_by" (defArgs s_law_big_by) (defBody s_law_big_by) (defScope s_law_big_by) .none kV_law_big_by dc_law_big_by pm_law_big_by an_law_big_by cd_law_big_by ct_law_big_by), sl_law_big_by⟩) (c_law_big_by : PySem.W.codeIn K cd_law_big_by "_law_big_by" = true) (k_law_big_by : PySem.W.keepIn K (.ref f_law_big_by) = true)
    {f_law_sum : Addr} {od_law_sum an_law_sum : Option Addr} {sl_law_sum : Array (Option Value)} {oc_law_sum kV_law_sum dc_law_sum pm_law_sum cd_law_sum ct_law_sum : Value}
    (a_law_sum : PySem.W.nsIn K mainGlobals "_law_sum" = some (some (.ref f_law_sum))) (l_law_sum : K.lookup f_law_sum = some ⟨oc_law_sum, od_law_sum, .func (PySem.W.fnOf "_law_sum" "_law_sum" (defArgs s_law_sum) (defBody s_law_sum) (defScope s_law_sum) .none kV_law_sum dc_law_sum pm_law_sum an_law_sum cd_law_sum ct_law_sum), sl_law_sum⟩) (c_law_sum : PySem.W.codeIn K cd_law_sum "_law_sum" = true) (k_law_sum : PySem.W.keepIn K (.ref f_law_sum) = true)
    {f_law_kind : Addr} {od_law_kind an_law_kind : Option Addr} {sl_law_kind : Array (Option Value)} {oc_law_kind kV_law_kind dc_law_kind pm_law_kind cd_law_kind ct_law_kind : Value}
    (a_law_kind : PySem.W.nsIn K mainGlobals "_law_kind" = some (some (.ref f_law_kind))) (l_law_kind : K.lookup f_law_kind = some ⟨oc_law_kind, od_law_kind, .func (PySem.W.fnOf "_law_kind" "_law_kind" (defArgs s_law_kind) (defBody s_law_kind) (defScope s_law_kind) .none kV_law_kind dc_law_kind pm_law_kind an_law_kind cd_law_kind ct_law_kind), sl_law_kind⟩) (c_law_kind : PySem.W.codeIn K cd_law_kind "_law_kind" = true) (k_law_kind : PySem.W.keepIn K (.ref f_law_kind) = true)
    {f_free_in : Addr} {od_free_in an_free_in : Option Addr} {sl_free_in : Array (Option Value)} {oc_free_in kV_free_in dc_free_in pm_free_in cd_free_in ct_free_in : Value}
    (a_free_in : PySem.W.nsIn K mainGlobals "free_in" = some (some (.ref f_free_in))) (l_free_in : K.lookup f_free_in = some ⟨oc_free_in, od_free_in, .func (PySem.W.fnOf "free_in" "free_in" (defArgs s_free_in) (defBody s_free_in) (defScope s_free_in) .none kV_free_in dc_free_in pm_free_in an_free_in cd_free_in ct_free_in), sl_free_in⟩) (c_free_in : PySem.W.codeIn K cd_free_in "free_in" = true) (k_free_in : PySem.W.keepIn K (.ref f_free_in) = true)
    {f_unknowns : Addr} {od_unknowns an_unknowns : Option Addr} {sl_unknowns : Array (Option Value)} {oc_unknowns kV_unknowns dc_unknowns pm_unknowns cd_unknowns ct_unknowns : Value}
    (a_unknowns : PySem.W.nsIn K mainGlobals "unknowns" = some (some (.ref f_unknowns))) (l_unknowns : K.lookup f_unknowns = some ⟨oc_unknowns, od_unknowns, .func (PySem.W.fnOf "unknowns" "unknowns" (defArgs s_unknowns) (defBody s_unknowns) (defScope s_unknowns) .none kV_unknowns dc_unknowns pm_unknowns an_unknowns cd_unknowns ct_unknowns), sl_unknowns⟩) (c_unknowns : PySem.W.codeIn K cd_unknowns "unknowns" = true) (k_unknowns : PySem.W.keepIn K (.ref f_unknowns) = true)
    {f_need_values : Addr} {od_need_values an_need_values : Option Addr} {sl_need_values : Array (Option Value)} {oc_need_values kV_need_values dc_need_values pm_need_values cd_need_values ct_need_values : Value}
    (a_need_values : PySem.W.nsIn K mainGlobals "need_values" = some (some (.ref f_need_values))) (l_need_values : K.lookup f_need_values = some ⟨oc_need_values, od_need_values, .func (PySem.W.fnOf "need_values" "need_values" (defArgs s_need_values) (defBody s_need_values) (defScope s_need_values) .none kV_need_values dc_need_values pm_need_values an_need_values cd_need_values ct_need_values), sl_need_values⟩) (c_need_values : PySem.W.codeIn K cd_need_values "need_values" = true) (k_need_values : PySem.W.keepIn K (.ref f_need_values) = true)
    {f_is_plain : Addr} {od_is_plain an_is_plain : Option Addr} {sl_is_plain : Array (Option Value)} {oc_is_plain kV_is_plain dc_is_plain pm_is_plain cd_is_plain ct_is_plain : Value}
    (a_is_plain : PySem.W.nsIn K mainGlobals "is_plain" = some (some (.ref f_is_plain))) (l_is_plain : K.lookup f_is_plain = some ⟨oc_is_plain, od_is_plain, .func (PySem.W.fnOf "is_plain" "is_plain" (defArgs s_is_plain) (defBody s_is_plain) (defScope s_is_plain) .none kV_is_plain dc_is_plain pm_is_plain an_is_plain cd_is_plain ct_is_plain), sl_is_plain⟩) (c_is_plain : PySem.W.codeIn K cd_is_plain "is_plain" = true) (k_is_plain : PySem.W.keepIn K (.ref f_is_plain) = true)
    {f_need_plain : Addr} {od_need_plain an_need_plain : Option Addr} {sl_need_plain : Array (Option Value)} {oc_need_plain kV_need_plain dc_need_plain pm_need_plain cd_need_plain ct_need_plain : Value}
    (a_need_plain : PySem.W.nsIn K mainGlobals "need_plain" = some (some (.ref f_need_plain))) (l_need_plain : K.lookup f_need_plain = some ⟨oc_need_plain, od_need_plain, .func (PySem.W.fnOf "need_plain" "need_plain" (defArgs s_need_plain) (defBody s_need_plain) (defScope s_need_plain) .none kV_need_plain dc_need_plain pm_need_plain an_need_plain cd_need_plain ct_need_plain), sl_need_plain⟩) (c_need_plain : PySem.W.codeIn K cd_need_plain "need_plain" = true) (k_need_plain : PySem.W.keepIn K (.ref f_need_plain) = true)
    {f_made : Addr} {od_made an_made : Option Addr} {sl_made : Array (Option Value)} {oc_made kV_made dc_made pm_made cd_made ct_made : Value}
    (a_made : PySem.W.nsIn K mainGlobals "made" = some (some (.ref f_made))) (l_made : K.lookup f_made = some ⟨oc_made, od_made, .func (PySem.W.fnOf "made" "made" (defArgs s_made) (defBody s_made) (defScope s_made) .none kV_made dc_made pm_made an_made cd_made ct_made), sl_made⟩) (c_made : PySem.W.codeIn K cd_made "made" = true) (k_made : PySem.W.keepIn K (.ref f_made) = true)
    {f_times : Addr} {od_times an_times : Option Addr} {sl_times : Array (Option Value)} {oc_times kV_times dc_times pm_times cd_times ct_times : Value}
    (a_times : PySem.W.nsIn K mainGlobals "times" = some (some (.ref f_times))) (l_times : K.lookup f_times = some ⟨oc_times, od_times, .func (PySem.W.fnOf "times" "times" (defArgs s_times) (defBody s_times) (defScope s_times) .none kV_times dc_times pm_times an_times cd_times ct_times), sl_times⟩) (c_times : PySem.W.codeIn K cd_times "times" = true) (k_times : PySem.W.keepIn K (.ref f_times) = true)
    {f_added : Addr} {od_added an_added : Option Addr} {sl_added : Array (Option Value)} {oc_added kV_added dc_added pm_added cd_added ct_added : Value}
    (a_added : PySem.W.nsIn K mainGlobals "added" = some (some (.ref f_added))) (l_added : K.lookup f_added = some ⟨oc_added, od_added, .func (PySem.W.fnOf "added" "added" (defArgs s_added) (defBody s_added) (defScope s_added) .none kV_added dc_added pm_added an_added cd_added ct_added), sl_added⟩) (c_added : PySem.W.codeIn K cd_added "added" = true) (k_added : PySem.W.keepIn K (.ref f_added) = true)
    {f_turned : Addr} {od_turned an_turned : Option Addr} {sl_turned : Array (Option Value)} {oc_turned kV_turned dc_turned pm_turned cd_turned ct_turned : Value}
    (a_turned : PySem.W.nsIn K mainGlobals "turned" = some (some (.ref f_turned))) (l_turned : K.lookup f_turned = some ⟨oc_turned, od_turned, .func (PySem.W.fnOf "turned" "turned" (defArgs s_turned) (defBody s_turned) (defScope s_turned) .none kV_turned dc_turned pm_turned an_turned cd_turned ct_turned), sl_turned⟩) (c_turned : PySem.W.codeIn K cd_turned "turned" = true) (k_turned : PySem.W.keepIn K (.ref f_turned) = true)
    {f_ends_of : Addr} {od_ends_of an_ends_of : Option Addr} {sl_ends_of : Array (Option Value)} {oc_ends_of kV_ends_of dc_ends_of pm_ends_of cd_ends_of ct_ends_of : Value}
    (a_ends_of : PySem.W.nsIn K mainGlobals "ends_of" = some (some (.ref f_ends_of))) (l_ends_of : K.lookup f_ends_of = some ⟨oc_ends_of, od_ends_of, .func (PySem.W.fnOf "ends_of" "ends_of" (defArgs s_ends_of) (defBody s_ends_of) (defScope s_ends_of) .none kV_ends_of dc_ends_of pm_ends_of an_ends_of cd_ends_of ct_ends_of), sl_ends_of⟩) (c_ends_of : PySem.W.codeIn K cd_ends_of "ends_of" = true) (k_ends_of : PySem.W.keepIn K (.ref f_ends_of) = true)
    {f_share : Addr} {od_share an_share : Option Addr} {sl_share : Array (Option Value)} {oc_share kV_share dc_share pm_share cd_share ct_share : Value}
    (a_share : PySem.W.nsIn K mainGlobals "share" = some (some (.ref f_share))) (l_share : K.lookup f_share = some ⟨oc_share, od_share, .func (PySem.W.fnOf "share" "share" (defArgs s_share) (defBody s_share) (defScope s_share) .none kV_share dc_share pm_share an_share cd_share ct_share), sl_share⟩) (c_share : PySem.W.codeIn K cd_share "share" = true) (k_share : PySem.W.keepIn K (.ref f_share) = true)
    {f_least_times : Addr} {od_least_times an_least_times : Option Addr} {sl_least_times : Array (Option Value)} {oc_least_times kV_least_times dc_least_times pm_least_times cd_least_times ct_least_times : Value}
    (a_least_times : PySem.W.nsIn K mainGlobals "least_times" = some (some (.ref f_least_times))) (l_least_times : K.lookup f_least_times = some ⟨oc_least_times, od_least_times, .func (PySem.W.fnOf "least_times" "least_times" (defArgs s_least_times) (defBody s_least_times) (defScope s_least_times) .none kV_least_times dc_least_times pm_least_times an_least_times cd_least_times ct_least_times), sl_least_times⟩) (c_least_times : PySem.W.codeIn K cd_least_times "least_times" = true) (k_least_times : PySem.W.keepIn K (.ref f_least_times) = true)
    {f_without : Addr} {od_without an_without : Option Addr} {sl_without : Array (Option Value)} {oc_without kV_without dc_without pm_without cd_without ct_without : Value}
    (a_without : PySem.W.nsIn K mainGlobals "without" = some (some (.ref f_without))) (l_without : K.lookup f_without = some ⟨oc_without, od_without, .func (PySem.W.fnOf "without" "without" (defArgs s_without) (defBody s_without) (defScope s_without) .none kV_without dc_without pm_without an_without cd_without ct_without), sl_without⟩) (c_without : PySem.W.codeIn K cd_without "without" = true) (k_without : PySem.W.keepIn K (.ref f_without) = true)
    {f_end_stretched : Addr} {od_end_stretched an_end_stretched : Option Addr} {sl_end_stretched : Array (Option Value)} {oc_end_stretched kV_end_stretched dc_end_stretched pm_end_stretched cd_end_stretched ct_end_stretched : Value}
    (a_end_stretched : PySem.W.nsIn K mainGlobals "end_stretched" = some (some (.ref f_end_stretched))) (l_end_stretched : K.lookup f_end_stretched = some ⟨oc_end_stretched, od_end_stretched, .func (PySem.W.fnOf "end_stretched" "end_stretched" (defArgs s_end_stretched) (defBody s_end_stretched) (defScope s_end_stretched) .none kV_end_stretched dc_end_stretched pm_end_stretched an_end_stretched cd_end_stretched ct_end_stretched), sl_end_stretched⟩) (c_end_stretched : PySem.W.codeIn K cd_end_stretched "end_stretched" = true) (k_end_stretched : PySem.W.keepIn K (.ref f_end_stretched) = true)
    {f_stretched : Addr} {od_stretched an_stretched : Option Addr} {sl_stretched : Array (Option Value)} {oc_stretched kV_stretched dc_stretched pm_stretched cd_stretched ct_stretched : Value}
    (a_stretched : PySem.W.nsIn K mainGlobals "stretched" = some (some (.ref f_stretched))) (l_stretched : K.lookup f_stretched = some ⟨oc_stretched, od_stretched, .func (PySem.W.fnOf "stretched" "stretched" (defArgs s_stretched) (defBody s_stretched) (defScope s_stretched) .none kV_stretched dc_stretched pm_stretched an_stretched cd_stretched ct_stretched), sl_stretched⟩) (c_stretched : PySem.W.codeIn K cd_stretched "stretched" = true) (k_stretched : PySem.W.keepIn K (.ref f_stretched) = true)
    {f_prepared : Addr} {od_prepared an_prepared : Option Addr} {sl_prepared : Array (Option Value)} {oc_prepared kV_prepared dc_prepared pm_prepared cd_prepared ct_prepared : Value}
    (a_prepared : PySem.W.nsIn K mainGlobals "prepared" = some (some (.ref f_prepared))) (l_prepared : K.lookup f_prepared = some ⟨oc_prepared, od_prepared, .func (PySem.W.fnOf "prepared" "prepared" (defArgs s_prepared) (defBody s_prepared) (defScope s_prepared) .none kV_prepared dc_prepared pm_prepared an_prepared cd_prepared ct_prepared), sl_prepared⟩) (c_prepared : PySem.W.codeIn K cd_prepared "prepared" = true) (k_prepared : PySem.W.keepIn K (.ref f_prepared) = true)
    {f_parts_of : Addr} {od_parts_of an_parts_of : Option Addr} {sl_parts_of : Array (Option Value)} {oc_parts_of kV_parts_of dc_parts_of pm_parts_of cd_parts_of ct_parts_of : Value}
    (a_parts_of : PySem.W.nsIn K mainGlobals "parts_of" = some (some (.ref f_parts_of))) (l_parts_of : K.lookup f_parts_of = some ⟨oc_parts_of, od_parts_of, .func (PySem.W.fnOf "parts_of" "parts_of" (defArgs s_parts_of) (defBody s_parts_of) (defScope s_parts_of) .none kV_parts_of dc_parts_of pm_parts_of an_parts_of cd_parts_of ct_parts_of), sl_parts_of⟩) (c_parts_of : PySem.W.codeIn K cd_parts_of "parts_of" = true) (k_parts_of : PySem.W.keepIn K (.ref f_parts_of) = true)
    {f_all_of : Addr} {od_all_of an_all_of : Option Addr} {sl_all_of : Array (Option Value)} {oc_all_of kV_all_of dc_all_of pm_all_of cd_all_of ct_all_of : Value}
    (a_all_of : PySem.W.nsIn K mainGlobals "all_of" = some (some (.ref f_all_of))) (l_all_of : K.lookup f_all_of = some ⟨oc_all_of, od_all_of, .func (PySem.W.fnOf "all_of" "all_of" (defArgs s_all_of) (defBody s_all_of) (defScope s_all_of) .none kV_all_of dc_all_of pm_all_of an_all_of cd_all_of ct_all_of), sl_all_of⟩) (c_all_of : PySem.W.codeIn K cd_all_of "all_of" = true) (k_all_of : PySem.W.keepIn K (.ref f_all_of) = true)
    {f_one_of : Addr} {od_one_of an_one_of : Option Addr} {sl_one_of : Array (Option Value)} {oc_one_of kV_one_of dc_one_of pm_one_of cd_one_of ct_one_of : Value}
    (a_one_of : PySem.W.nsIn K mainGlobals "one_of" = some (some (.ref f_one_of))) (l_one_of : K.lookup f_one_of = some ⟨oc_one_of, od_one_of, .func (PySem.W.fnOf "one_of" "one_of" (defArgs s_one_of) (defBody s_one_of) (defScope s_one_of) .none kV_one_of dc_one_of pm_one_of an_one_of cd_one_of ct_one_of), sl_one_of⟩) (c_one_of : PySem.W.codeIn K cd_one_of "one_of" = true) (k_one_of : PySem.W.keepIn K (.ref f_one_of) = true)
    {f_far_below : Addr} {od_far_below an_far_below : Option Addr} {sl_far_below : Array (Option Value)} {oc_far_below kV_far_below dc_far_below pm_far_below cd_far_below ct_far_below : Value}
    (a_far_below : PySem.W.nsIn K mainGlobals "far_below" = some (some (.ref f_far_below))) (l_far_below : K.lookup f_far_below = some ⟨oc_far_below, od_far_below, .func (PySem.W.fnOf "far_below" "far_below" (defArgs s_far_below) (defBody s_far_below) (defScope s_far_below) .none kV_far_below dc_far_below pm_far_below an_far_below cd_far_below ct_far_below), sl_far_below⟩) (c_far_below : PySem.W.codeIn K cd_far_below "far_below" = true) (k_far_below : PySem.W.keepIn K (.ref f_far_below) = true)
    {f_put_in : Addr} {od_put_in an_put_in : Option Addr} {sl_put_in : Array (Option Value)} {oc_put_in kV_put_in dc_put_in pm_put_in cd_put_in ct_put_in : Value}
    (a_put_in : PySem.W.nsIn K mainGlobals "put_in" = some (some (.ref f_put_in))) (l_put_in : K.lookup f_put_in = some ⟨oc_put_in, od_put_in, .func (PySem.W.fnOf "put_in" "put_in" (defArgs s_put_in) (defBody s_put_in) (defScope s_put_in) .none kV_put_in dc_put_in pm_put_in an_put_in cd_put_in ct_put_in), sl_put_in⟩) (c_put_in : PySem.W.codeIn K cd_put_in "put_in" = true) (k_put_in : PySem.W.keepIn K (.ref f_put_in) = true)
    {f_value : Addr} {od_value an_value : Option Addr} {sl_value : Array (Option Value)} {oc_value kV_value dc_value pm_value cd_value ct_value : Value}
    (a_value : PySem.W.nsIn K mainGlobals "value" = some (some (.ref f_value))) (l_value : K.lookup f_value = some ⟨oc_value, od_value, .func (PySem.W.fnOf "value" "value" (defArgs s_value) (defBody s_value) (defScope s_value) .none kV_value dc_value pm_value an_value cd_value ct_value), sl_value⟩) (c_value : PySem.W.codeIn K cd_value "value" = true) (k_value : PySem.W.keepIn K (.ref f_value) = true)
    {f_truth : Addr} {od_truth an_truth : Option Addr} {sl_truth : Array (Option Value)} {oc_truth kV_truth dc_truth pm_truth cd_truth ct_truth : Value}
    (a_truth : PySem.W.nsIn K mainGlobals "truth" = some (some (.ref f_truth))) (l_truth : K.lookup f_truth = some ⟨oc_truth, od_truth, .func (PySem.W.fnOf "truth" "truth" (defArgs s_truth) (defBody s_truth) (defScope s_truth) .none kV_truth dc_truth pm_truth an_truth cd_truth ct_truth), sl_truth⟩) (c_truth : PySem.W.codeIn K cd_truth "truth" = true) (k_truth : PySem.W.keepIn K (.ref f_truth) = true)
    {f_decided : Addr} {od_decided an_decided : Option Addr} {sl_decided : Array (Option Value)} {oc_decided kV_decided dc_decided pm_decided cd_decided ct_decided : Value}
    (a_decided : PySem.W.nsIn K mainGlobals "decided" = some (some (.ref f_decided))) (l_decided : K.lookup f_decided = some ⟨oc_decided, od_decided, .func (PySem.W.fnOf "decided" "decided" (defArgs s_decided) (defBody s_decided) (defScope s_decided) .none kV_decided dc_decided pm_decided an_decided cd_decided ct_decided), sl_decided⟩) (c_decided : PySem.W.codeIn K cd_decided "decided" = true) (k_decided : PySem.W.keepIn K (.ref f_decided) = true)
    {f_filled : Addr} {od_filled an_filled : Option Addr} {sl_filled : Array (Option Value)} {oc_filled kV_filled dc_filled pm_filled cd_filled ct_filled : Value}
    (a_filled : PySem.W.nsIn K mainGlobals "filled" = some (some (.ref f_filled))) (l_filled : K.lookup f_filled = some ⟨oc_filled, od_filled, .func (PySem.W.fnOf "filled" "filled" (defArgs s_filled) (defBody s_filled) (defScope s_filled) .none kV_filled dc_filled pm_filled an_filled cd_filled ct_filled), sl_filled⟩) (c_filled : PySem.W.codeIn K cd_filled "filled" = true) (k_filled : PySem.W.keepIn K (.ref f_filled) = true)
    {f_bounds_of : Addr} {od_bounds_of an_bounds_of : Option Addr} {sl_bounds_of : Array (Option Value)} {oc_bounds_of kV_bounds_of dc_bounds_of pm_bounds_of cd_bounds_of ct_bounds_of : Value}
    (a_bounds_of : PySem.W.nsIn K mainGlobals "bounds_of" = some (some (.ref f_bounds_of))) (l_bounds_of : K.lookup f_bounds_of = some ⟨oc_bounds_of, od_bounds_of, .func (PySem.W.fnOf "bounds_of" "bounds_of" (defArgs s_bounds_of) (defBody s_bounds_of) (defScope s_bounds_of) .none kV_bounds_of dc_bounds_of pm_bounds_of an_bounds_of cd_bounds_of ct_bounds_of), sl_bounds_of⟩) (c_bounds_of : PySem.W.codeIn K cd_bounds_of "bounds_of" = true) (k_bounds_of : PySem.W.keepIn K (.ref f_bounds_of) = true)
    {f_taken : Addr} {od_taken an_taken : Option Addr} {sl_taken : Array (Option Value)} {oc_taken kV_taken dc_taken pm_taken cd_taken ct_taken : Value}
    (a_taken : PySem.W.nsIn K mainGlobals "taken" = some (some (.ref f_taken))) (l_taken : K.lookup f_taken = some ⟨oc_taken, od_taken, .func (PySem.W.fnOf "taken" "taken" (defArgs s_taken) (defBody s_taken) (defScope s_taken) .none kV_taken dc_taken pm_taken an_taken cd_taken ct_taken), sl_taken⟩) (c_taken : PySem.W.codeIn K cd_taken "taken" = true) (k_taken : PySem.W.keepIn K (.ref f_taken) = true)
    {f_left : Addr} {od_left an_left : Option Addr} {sl_left : Array (Option Value)} {oc_left kV_left dc_left pm_left cd_left ct_left : Value}
    (a_left : PySem.W.nsIn K mainGlobals "left" = some (some (.ref f_left))) (l_left : K.lookup f_left = some ⟨oc_left, od_left, .func (PySem.W.fnOf "left" "left" (defArgs s_left) (defBody s_left) (defScope s_left) .none kV_left dc_left pm_left an_left cd_left ct_left), sl_left⟩) (c_left : PySem.W.codeIn K cd_left "left" = true) (k_left : PySem.W.keepIn K (.ref f_left) = true)
    {f_is_true : Addr} {od_is_true an_is_true : Option Addr} {sl_is_true : Array (Option Value)} {oc_is_true kV_is_true dc_is_true pm_is_true cd_is_true ct_is_true : Value}
    (a_is_true : PySem.W.nsIn K mainGlobals "is_true" = some (some (.ref f_is_true))) (l_is_true : K.lookup f_is_true = some ⟨oc_is_true, od_is_true, .func (PySem.W.fnOf "is_true" "is_true" (defArgs s_is_true) (defBody s_is_true) (defScope s_is_true) .none kV_is_true dc_is_true pm_is_true an_is_true cd_is_true ct_is_true), sl_is_true⟩) (c_is_true : PySem.W.codeIn K cd_is_true "is_true" = true) (k_is_true : PySem.W.keepIn K (.ref f_is_true) = true)
    {f_holds : Addr} {od_holds an_holds : Option Addr} {sl_holds : Array (Option Value)} {oc_holds kV_holds dc_holds pm_holds cd_holds ct_holds : Value}
    (a_holds : PySem.W.nsIn K mainGlobals "holds" = some (some (.ref f_holds))) (l_holds : K.lookup f_holds = some ⟨oc_holds, od_holds, .func (PySem.W.fnOf "holds" "holds" (defArgs s_holds) (defBody s_holds) (defScope s_holds) .none kV_holds dc_holds pm_holds an_holds cd_holds ct_holds), sl_holds⟩) (c_holds : PySem.W.codeIn K cd_holds "holds" = true) (k_holds : PySem.W.keepIn K (.ref f_holds) = true)
    {f_law_same : Addr} {od_law_same an_law_same : Option Addr} {sl_law_same : Array (Option Value)} {oc_law_same kV_law_same dc_law_same pm_law_same cd_law_same ct_law_same : Value}
    (a_law_same : PySem.W.nsIn K mainGlobals "_law_same" = some (some (.ref f_law_same))) (l_law_same : K.lookup f_law_same = some ⟨oc_law_same, od_law_same, .func (PySem.W.fnOf "_law_same" "_law_same" (defArgs s_law_same) (defBody s_law_same) (defScope s_law_same) .none kV_law_same dc_law_same pm_law_same an_law_same cd_law_same ct_law_same), sl_law_same⟩) (c_law_same : PySem.W.codeIn K cd_law_same "_law_same" = true) (k_law_same : PySem.W.keepIn K (.ref f_law_same) = true)
    {f_law_whole : Addr} {od_law_whole an_law_whole : Option Addr} {sl_law_whole : Array (Option Value)} {oc_law_whole kV_law_whole dc_law_whole pm_law_whole cd_law_whole ct_law_whole : Value}
    (a_law_whole : PySem.W.nsIn K mainGlobals "_law_whole" = some (some (.ref f_law_whole))) (l_law_whole : K.lookup f_law_whole = some ⟨oc_law_whole, od_law_whole, .func (PySem.W.fnOf "_law_whole" "_law_whole" (defArgs s_law_whole) (defBody s_law_whole) (defScope s_law_whole) .none kV_law_whole dc_law_whole pm_law_whole an_law_whole cd_law_whole ct_law_whole), sl_law_whole⟩) (c_law_whole : PySem.W.codeIn K cd_law_whole "_law_whole" = true) (k_law_whole : PySem.W.keepIn K (.ref f_law_whole) = true)
    {f_law_sum_is : Addr} {od_law_sum_is an_law_sum_is : Option Addr} {sl_law_sum_is : Array (Option Value)} {oc_law_sum_is kV_law_sum_is dc_law_sum_is pm_law_sum_is cd_law_sum_is ct_law_sum_is : Value}
    (a_law_sum_is : PySem.W.nsIn K mainGlobals "_law_sum_is" = some (some (.ref f_law_sum_is))) (l_law_sum_is : K.lookup f_law_sum_is = some ⟨oc_law_sum_is, od_law_sum_is, .func (PySem.W.fnOf "_law_sum_is" "_law_sum_is" (defArgs s_law_sum_is) (defBody s_law_sum_is) (defScope s_law_sum_is) .none kV_law_sum_is dc_law_sum_is pm_law_sum_is an_law_sum_is cd_law_sum_is ct_law_sum_is), sl_law_sum_is⟩) (c_law_sum_is : PySem.W.codeIn K cd_law_sum_is "_law_sum_is" = true) (k_law_sum_is : PySem.W.keepIn K (.ref f_law_sum_is) = true)
    {f_law_plain_is : Addr} {od_law_plain_is an_law_plain_is : Option Addr} {sl_law_plain_is : Array (Option Value)} {oc_law_plain_is kV_law_plain_is dc_law_plain_is pm_law_plain_is cd_law_plain_is ct_law_plain_is : Value}
    (a_law_plain_is : PySem.W.nsIn K mainGlobals "_law_plain_is" = some (some (.ref f_law_plain_is))) (l_law_plain_is : K.lookup f_law_plain_is = some ⟨oc_law_plain_is, od_law_plain_is, .func (PySem.W.fnOf "_law_plain_is" "_law_plain_is" (defArgs s_law_plain_is) (defBody s_law_plain_is) (defScope s_law_plain_is) .none kV_law_plain_is dc_law_plain_is pm_law_plain_is an_law_plain_is cd_law_plain_is ct_law_plain_is), sl_law_plain_is⟩) (c_law_plain_is : PySem.W.codeIn K cd_law_plain_is "_law_plain_is" = true) (k_law_plain_is : PySem.W.keepIn K (.ref f_law_plain_is) = true)
    {f_replaced : Addr} {od_replaced an_replaced : Option Addr} {sl_replaced : Array (Option Value)} {oc_replaced kV_replaced dc_replaced pm_replaced cd_replaced ct_replaced : Value}
    (a_replaced : PySem.W.nsIn K mainGlobals "replaced" = some (some (.ref f_replaced))) (l_replaced : K.lookup f_replaced = some ⟨oc_replaced, od_replaced, .func (PySem.W.fnOf "replaced" "replaced" (defArgs s_replaced) (defBody s_replaced) (defScope s_replaced) .none kV_replaced dc_replaced pm_replaced an_replaced cd_replaced ct_replaced), sl_replaced⟩) (c_replaced : PySem.W.codeIn K cd_replaced "replaced" = true) (k_replaced : PySem.W.keepIn K (.ref f_replaced) = true)
    {f_put : Addr} {od_put an_put : Option Addr} {sl_put : Array (Option Value)} {oc_put kV_put dc_put pm_put cd_put ct_put : Value}
    (a_put : PySem.W.nsIn K mainGlobals "put" = some (some (.ref f_put))) (l_put : K.lookup f_put = some ⟨oc_put, od_put, .func (PySem.W.fnOf "put" "put" (defArgs s_put) (defBody s_put) (defScope s_put) .none kV_put dc_put pm_put an_put cd_put ct_put), sl_put⟩) (c_put : PySem.W.codeIn K cd_put "put" = true) (k_put : PySem.W.keepIn K (.ref f_put) = true)
    {f_tries_of : Addr} {od_tries_of an_tries_of : Option Addr} {sl_tries_of : Array (Option Value)} {oc_tries_of kV_tries_of dc_tries_of pm_tries_of cd_tries_of ct_tries_of : Value}
    (a_tries_of : PySem.W.nsIn K mainGlobals "tries_of" = some (some (.ref f_tries_of))) (l_tries_of : K.lookup f_tries_of = some ⟨oc_tries_of, od_tries_of, .func (PySem.W.fnOf "tries_of" "tries_of" (defArgs s_tries_of) (defBody s_tries_of) (defScope s_tries_of) .none kV_tries_of dc_tries_of pm_tries_of an_tries_of cd_tries_of ct_tries_of), sl_tries_of⟩) (c_tries_of : PySem.W.codeIn K cd_tries_of "tries_of" = true) (k_tries_of : PySem.W.keepIn K (.ref f_tries_of) = true)
    {f_told : Addr} {od_told an_told : Option Addr} {sl_told : Array (Option Value)} {oc_told kV_told dc_told pm_told cd_told ct_told : Value}
    (a_told : PySem.W.nsIn K mainGlobals "told" = some (some (.ref f_told))) (l_told : K.lookup f_told = some ⟨oc_told, od_told, .func (PySem.W.fnOf "told" "told" (defArgs s_told) (defBody s_told) (defScope s_told) .none kV_told dc_told pm_told an_told cd_told ct_told), sl_told⟩) (c_told : PySem.W.codeIn K cd_told "told" = true) (k_told : PySem.W.keepIn K (.ref f_told) = true)
    {f_law_value : Addr} {od_law_value an_law_value : Option Addr} {sl_law_value : Array (Option Value)} {oc_law_value kV_law_value dc_law_value pm_law_value cd_law_value ct_law_value : Value}
    (a_law_value : PySem.W.nsIn K mainGlobals "_law_value" = some (some (.ref f_law_value))) (l_law_value : K.lookup f_law_value = some ⟨oc_law_value, od_law_value, .func (PySem.W.fnOf "_law_value" "_law_value" (defArgs s_law_value) (defBody s_law_value) (defScope s_law_value) .none kV_law_value dc_law_value pm_law_value an_law_value cd_law_value ct_law_value), sl_law_value⟩) (c_law_value : PySem.W.codeIn K cd_law_value "_law_value" = true) (k_law_value : PySem.W.keepIn K (.ref f_law_value) = true)
    {f_law_true : Addr} {od_law_true an_law_true : Option Addr} {sl_law_true : Array (Option Value)} {oc_law_true kV_law_true dc_law_true pm_law_true cd_law_true ct_law_true : Value}
    (a_law_true : PySem.W.nsIn K mainGlobals "_law_true" = some (some (.ref f_law_true))) (l_law_true : K.lookup f_law_true = some ⟨oc_law_true, od_law_true, .func (PySem.W.fnOf "_law_true" "_law_true" (defArgs s_law_true) (defBody s_law_true) (defScope s_law_true) .none kV_law_true dc_law_true pm_law_true an_law_true cd_law_true ct_law_true), sl_law_true⟩) (c_law_true : PySem.W.codeIn K cd_law_true "_law_true" = true) (k_law_true : PySem.W.keepIn K (.ref f_law_true) = true)
    {f_law : Addr} {od_law an_law : Option Addr} {sl_law : Array (Option Value)} {oc_law kV_law dc_law pm_law cd_law ct_law : Value}
    (a_law : PySem.W.nsIn K mainGlobals "law" = some (some (.ref f_law))) (l_law : K.lookup f_law = some ⟨oc_law, od_law, .func (PySem.W.fnOf "law" "law" (defArgs s_law) (defBody s_law) (defScope s_law) .none kV_law dc_law pm_law an_law cd_law ct_law), sl_law⟩) (c_law : PySem.W.codeIn K cd_law "law" = true) (k_law : PySem.W.keepIn K (.ref f_law) = true)
    (n_len : PySem.W.nsIn K mainGlobals "len" = some none)
    (n_range : PySem.W.nsIn K mainGlobals "range" = some none)
    (n_tuple : PySem.W.nsIn K mainGlobals "tuple" = some none)
    (n_sorted : PySem.W.nsIn K mainGlobals "sorted" = some none)
    (n_set : PySem.W.nsIn K mainGlobals "set" = some none)
    (n_list : PySem.W.nsIn K mainGlobals "list" = some none)
    (n_abs : PySem.W.nsIn K mainGlobals "abs" = some none)
    (n_isinstance : PySem.W.nsIn K mainGlobals "isinstance" = some none)
    (n_bool : PySem.W.nsIn K mainGlobals "bool" = some none)
    (n_int : PySem.W.nsIn K mainGlobals "int" = some none)
    (n_str : PySem.W.nsIn K mainGlobals "str" = some none)
    (n_min : PySem.W.nsIn K mainGlobals "min" = some none)
    {ga_NO gb_NO : Addr} {go_NO gp_NO : Option Addr} {gs_NO gt_NO : Array (Option Value)} {gn_NO gm_NO : Nat} {gk_NO : Tok}
    (g1_NO : PySem.W.nsIn K mainGlobals "NO" = some (some (.ref ga_NO))) (g2_NO : K.lookup ga_NO = some ⟨.type "tuple", go_NO, .seq #[.str "or" gk_NO, .ref gb_NO] gn_NO, gs_NO⟩) (g3_NO : K.lookup gb_NO = some ⟨.type "tuple", gp_NO, .seq #[] gm_NO, gt_NO⟩)
    {ga_YES gb_YES : Addr} {go_YES gp_YES : Option Addr} {gs_YES gt_YES : Array (Option Value)} {gn_YES gm_YES : Nat} {gk_YES : Tok}
    (g1_YES : PySem.W.nsIn K mainGlobals "YES" = some (some (.ref ga_YES))) (g2_YES : K.lookup ga_YES = some ⟨.type "tuple", go_YES, .seq #[.str "and" gk_YES, .ref gb_YES] gn_YES, gs_YES⟩) (g3_YES : K.lookup gb_YES = some ⟨.type "tuple", gp_YES, .seq #[] gm_YES, gt_YES⟩)
    {e0 e1 : Addr}
    (xn0 : PySem.W.nsIn K mainGlobals "NoValue" = some (some (.ref e0)))
    (xq0 : PySem.W.excIn K e0 [.type "ValueError", .type "Exception", .type "BaseException", .type "object"] "ValueError.__new__" = true)
    (xk0 : PySem.W.keepIn K (.ref e0) = true)
    (xs0 : PySem.W.subIn K (.ref e0) (.type "BaseException") = some true)
    (xt0 : PySem.W.typeIn K (.ref e0) = some (.type "type"))
    (xn1 : PySem.W.nsIn K mainGlobals "NotPlain" = some (some (.ref e1)))
    (xq1 : PySem.W.excIn K e1 [.type "ValueError", .type "Exception", .type "BaseException", .type "object"] "ValueError.__new__" = true)
    (xk1 : PySem.W.keepIn K (.ref e1) = true)
    (xs1 : PySem.W.subIn K (.ref e1) (.type "BaseException") = some true)
    (xt1 : PySem.W.typeIn K (.ref e1) = some (.type "type")) :
    ∃ (C : Nat → Addr) (fd : FuncData), (∀ (s : Shared) (u : Value), BindsTo s fd ⟨[u], []⟩ [("_law_script", u)]) ∧ ∀ base : Heap, K.In base → base.Ns mainGlobals mg → FnOk P w K mg base (L2N.CX P w) 185 fa fd ["_law_script"] (spR K C 1 (m_law w)) := by
  have D_law_cell_at : DefAt K mg "_law_cell_at" s_law_cell_at := def_at KX G a_law_cell_at l_law_cell_at c_law_cell_at k_law_cell_at
  have D_law_names_by : DefAt K mg "_law_names_by" s_law_names_by := def_at KX G a_law_names_by l_law_names_by c_law_names_by k_law_names_by
  have D_law_big_by : DefAt K mg "_law_big_by" s_law_big_by := def_at KX G a_law_big_by l_law_big_by c_law_big_by k_law_big_by
  have D_law_sum : DefAt K mg "_law_sum" s_law_sum := def_at KX G a_law_sum l_law_sum c_law_sum k_law_sum
  have D_law_kind : DefAt K mg "_law_kind" s_law_kind := def_at KX G a_law_kind l_law_kind c_law_kind k_law_kind
  have D_free_in : DefAt K mg "free_in" s_free_in := def_at KX G a_free_in l_free_in c_free_in k_free_in
  have D_unknowns : DefAt K mg "unknowns" s_unknowns := def_at KX G a_unknowns l_unknowns c_unknowns k_unknowns
  have D_need_values : DefAt K mg "need_values" s_need_values := def_at KX G a_need_values l_need_values c_need_values k_need_values
  have D_is_plain : DefAt K mg "is_plain" s_is_plain := def_at KX G a_is_plain l_is_plain c_is_plain k_is_plain
  have D_need_plain : DefAt K mg "need_plain" s_need_plain := def_at KX G a_need_plain l_need_plain c_need_plain k_need_plain
  have D_made : DefAt K mg "made" s_made := def_at KX G a_made l_made c_made k_made
  have D_times : DefAt K mg "times" s_times := def_at KX G a_times l_times c_times k_times
  have D_added : DefAt K mg "added" s_added := def_at KX G a_added l_added c_added k_added
  have D_turned : DefAt K mg "turned" s_turned := def_at KX G a_turned l_turned c_turned k_turned
  have D_ends_of : DefAt K mg "ends_of" s_ends_of := def_at KX G a_ends_of l_ends_of c_ends_of k_ends_of
  have D_share : DefAt K mg "share" s_share := def_at KX G a_share l_share c_share k_share
  have D_least_times : DefAt K mg "least_times" s_least_times := def_at KX G a_least_times l_least_times c_least_times k_least_times
  have D_without : DefAt K mg "without" s_without := def_at KX G a_without l_without c_without k_without
  have D_end_stretched : DefAt K mg "end_stretched" s_end_stretched := def_at KX G a_end_stretched l_end_stretched c_end_stretched k_end_stretched
  have D_stretched : DefAt K mg "stretched" s_stretched := def_at KX G a_stretched l_stretched c_stretched k_stretched
  have D_prepared : DefAt K mg "prepared" s_prepared := def_at KX G a_prepared l_prepared c_prepared k_prepared
  have D_parts_of : DefAt K mg "parts_of" s_parts_of := def_at KX G a_parts_of l_parts_of c_parts_of k_parts_of
  have D_all_of : DefAt K mg "all_of" s_all_of := def_at KX G a_all_of l_all_of c_all_of k_all_of
  have D_one_of : DefAt K mg "one_of" s_one_of := def_at KX G a_one_of l_one_of c_one_of k_one_of
  have D_far_below : DefAt K mg "far_below" s_far_below := def_at KX G a_far_below l_far_below c_far_below k_far_below
  have D_put_in : DefAt K mg "put_in" s_put_in := def_at KX G a_put_in l_put_in c_put_in k_put_in
  have D_value : DefAt K mg "value" s_value := def_at KX G a_value l_value c_value k_value
  have D_truth : DefAt K mg "truth" s_truth := def_at KX G a_truth l_truth c_truth k_truth
  have D_decided : DefAt K mg "decided" s_decided := def_at KX G a_decided l_decided c_decided k_decided
  have D_filled : DefAt K mg "filled" s_filled := def_at KX G a_filled l_filled c_filled k_filled
  have D_bounds_of : DefAt K mg "bounds_of" s_bounds_of := def_at KX G a_bounds_of l_bounds_of c_bounds_of k_bounds_of
  have D_taken : DefAt K mg "taken" s_taken := def_at KX G a_taken l_taken c_taken k_taken
  have D_left : DefAt K mg "left" s_left := def_at KX G a_left l_left c_left k_left
  have D_is_true : DefAt K mg "is_true" s_is_true := def_at KX G a_is_true l_is_true c_is_true k_is_true
  have D_holds : DefAt K mg "holds" s_holds := def_at KX G a_holds l_holds c_holds k_holds
  have D_law_same : DefAt K mg "_law_same" s_law_same := def_at KX G a_law_same l_law_same c_law_same k_law_same
  have D_law_whole : DefAt K mg "_law_whole" s_law_whole := def_at KX G a_law_whole l_law_whole c_law_whole k_law_whole
  have D_law_sum_is : DefAt K mg "_law_sum_is" s_law_sum_is := def_at KX G a_law_sum_is l_law_sum_is c_law_sum_is k_law_sum_is
  have D_law_plain_is : DefAt K mg "_law_plain_is" s_law_plain_is := def_at KX G a_law_plain_is l_law_plain_is c_law_plain_is k_law_plain_is
  have D_replaced : DefAt K mg "replaced" s_replaced := def_at KX G a_replaced l_replaced c_replaced k_replaced
  have D_put : DefAt K mg "put" s_put := def_at KX G a_put l_put c_put k_put
  have D_tries_of : DefAt K mg "tries_of" s_tries_of := def_at KX G a_tries_of l_tries_of c_tries_of k_tries_of
  have D_told : DefAt K mg "told" s_told := def_at KX G a_told l_told c_told k_told
  have D_law_value : DefAt K mg "_law_value" s_law_value := def_at KX G a_law_value l_law_value c_law_value k_law_value
  have D_law_true : DefAt K mg "_law_true" s_law_true := def_at KX G a_law_true l_law_true c_law_true k_law_true
  have D_law : DefAt K mg "law" s_law := def_at KX G a_law l_law c_law k_law
  have z_len : mg "len" = none := PySem.W.mg_none_of KX G n_len
  have z_range : mg "range" = none := PySem.W.mg_none_of KX G n_range
  have z_tuple : mg "tuple" = none := PySem.W.mg_none_of KX G n_tuple
  have z_sorted : mg "sorted" = none := PySem.W.mg_none_of KX G n_sorted
  have z_set : mg "set" = none := PySem.W.mg_none_of KX G n_set
  have z_list : mg "list" = none := PySem.W.mg_none_of KX G n_list
  have z_abs : mg "abs" = none := PySem.W.mg_none_of KX G n_abs
  have z_isinstance : mg "isinstance" = none := PySem.W.mg_none_of KX G n_isinstance
  have z_bool : mg "bool" = none := PySem.W.mg_none_of KX G n_bool
  have z_int : mg "int" = none := PySem.W.mg_none_of KX G n_int
  have z_str : mg "str" = none := PySem.W.mg_none_of KX G n_str
  have z_min : mg "min" = none := PySem.W.mg_none_of KX G n_min
  have y_NO : GlobT K mg "NO" t_NO := glob_tup2 KX G g1_NO g2_NO g3_NO
  have y_YES : GlobT K mg "YES" t_YES := glob_tup2 KX G g1_YES g2_YES g3_YES
  have e_NoValue : ExcAt K mg (cs3 e0 e1 e0) "NoValue" 0 := ⟨xq0, PySem.W.mg_of KX G xn0, xk0, xs0, xt0⟩
  have e_NotPlain : ExcAt K mg (cs3 e0 e1 e0) "NotPlain" 1 := ⟨xq1, PySem.W.mg_of KX G xn1, xk1, xs1, xt1⟩
  refine ⟨(cs3 e0 e1 e0), ?_⟩
  refine law_mk (y := "_law_script") (N := ["_law_script", "_law_names", "_law_values", "_law_statement", "_law_plain", "_law_got", "_law_kind_here", "_law_body", "_law_due"]) (g := g_law w) D_law hmg sc_law (fun _ _ _ _ _ _ us hl => match us, hl with | [_], _ => rfl) rfl (by decide) fun base kb nb => ?_
  have c_law_cell_at := ok_law_cell_at (P := P) (w := w) (base := base) (C := (cs3 e0 e1 e0)) D_law_cell_at z_len
  have c_law_names_by := ok_law_names_by (P := P) (w := w) (base := base) (C := (cs3 e0 e1 e0)) D_law_names_by z_range
  have c_law_big_by := ok_law_big_by (P := P) (w := w) (base := base) (C := (cs3 e0 e1 e0)) D_law_big_by z_range
  have c_law_sum := ok_law_sum (P := P) (w := w) (base := base) (C := (cs3 e0 e1 e0)) D_law_sum z_tuple z_sorted
  have c_law_kind := ok_law_kind (P := P) (w := w) (base := base) (C := (cs3 e0 e1 e0)) D_law_kind c_law_cell_at c_law_sum z_tuple
  have c_free_in := ok_free_in (P := P) (w := w) (base := base) (C := (cs3 e0 e1 e0)) D_free_in 60
  have c_unknowns := ok_unknowns (P := P) (w := w) (base := base) (C := (cs3 e0 e1 e0)) D_unknowns c_free_in z_sorted z_set
  have c_need_values := ok_need_values (P := P) (w := w) (base := base) (C := (cs3 e0 e1 e0)) D_need_values e_NoValue
  have c_is_plain := ok_is_plain (P := P) (w := w) (base := base) (C := (cs3 e0 e1 e0)) D_is_plain 60
  have c_need_plain := ok_need_plain (P := P) (w := w) (base := base) (C := (cs3 e0 e1 e0)) D_need_plain c_is_plain e_NotPlain
  have c_made := ok_made (P := P) (w := w) (base := base) (C := (cs3 e0 e1 e0)) D_made z_tuple z_sorted
  have c_times := ok_times (P := P) (w := w) (base := base) (C := (cs3 e0 e1 e0)) D_times c_made
  have c_added := ok_added (P := P) (w := w) (base := base) (C := (cs3 e0 e1 e0)) D_added c_made z_list
  have c_turned := ok_turned (P := P) (w := w) (base := base) (C := (cs3 e0 e1 e0)) D_turned c_times c_added z_tuple 60
  have c_ends_of := ok_ends_of (P := P) (w := w) (base := base) (C := (cs3 e0 e1 e0)) D_ends_of 60
  have c_share := ok_share (P := P) (w := w) (base := base) (C := (cs3 e0 e1 e0)) D_share
  have c_least_times := ok_least_times (P := P) (w := w) (base := base) (C := (cs3 e0 e1 e0)) D_least_times
  have c_without := ok_without (P := P) (w := w) (base := base) (C := (cs3 e0 e1 e0)) D_without z_tuple
  have c_end_stretched := ok_end_stretched (P := P) (w := w) (base := base) (C := (cs3 e0 e1 e0)) D_end_stretched c_share c_without c_times c_added z_abs
  have c_stretched := ok_stretched (P := P) (w := w) (base := base) (C := (cs3 e0 e1 e0)) D_stretched c_end_stretched z_tuple 60
  have c_prepared := ok_prepared (P := P) (w := w) (base := base) (C := (cs3 e0 e1 e0)) D_prepared c_turned c_ends_of c_share c_least_times c_stretched z_abs
  have c_parts_of := ok_parts_of (P := P) (w := w) (base := base) (C := (cs3 e0 e1 e0)) D_parts_of
  have c_all_of := ok_all_of (P := P) (w := w) (base := base) (C := (cs3 e0 e1 e0)) D_all_of c_parts_of z_len z_list z_tuple y_NO
  have c_one_of := ok_one_of (P := P) (w := w) (base := base) (C := (cs3 e0 e1 e0)) D_one_of c_parts_of z_len z_list z_tuple y_YES
  have c_far_below := ok_far_below (P := P) (w := w) (base := base) (C := (cs3 e0 e1 e0)) D_far_below c_all_of c_one_of c_share y_NO y_YES 60
  have c_put_in := ok_put_in (P := P) (w := w) (base := base) (C := (cs3 e0 e1 e0)) D_put_in c_without c_share c_times c_added
  have c_value := ok_value (P := P) (w := w) (base := base) (C := (cs3 e0 e1 e0)) D_value e_NoValue
  have c_truth := ok_truth (P := P) (w := w) (base := base) (C := (cs3 e0 e1 e0)) D_truth c_value 60
  have c_decided := ok_decided (P := P) (w := w) (base := base) (C := (cs3 e0 e1 e0)) D_decided c_truth y_YES y_NO
  have c_filled := ok_filled (P := P) (w := w) (base := base) (C := (cs3 e0 e1 e0)) D_filled c_all_of c_one_of c_put_in c_decided y_YES y_NO 60
  have c_bounds_of := ok_bounds_of (P := P) (w := w) (base := base) (C := (cs3 e0 e1 e0)) D_bounds_of c_ends_of c_share c_without c_times z_list
  have c_taken := ok_taken (P := P) (w := w) (base := base) (C := (cs3 e0 e1 e0)) D_taken c_need_plain c_unknowns c_prepared c_far_below c_filled c_bounds_of c_added c_one_of z_range
  have c_left := ok_left (P := P) (w := w) (base := base) (C := (cs3 e0 e1 e0)) D_left c_taken z_tuple 60
  have c_is_true := ok_is_true (P := P) (w := w) (base := base) (C := (cs3 e0 e1 e0)) D_is_true c_need_plain c_unknowns c_need_values c_truth
  have c_holds := ok_holds (P := P) (w := w) (base := base) (C := (cs3 e0 e1 e0)) D_holds c_unknowns c_need_values c_left c_is_true
  have c_law_same := ok_law_same (P := P) (w := w) (base := base) (C := (cs3 e0 e1 e0)) D_law_same z_isinstance z_bool
  have c_law_whole := ok_law_whole (P := P) (w := w) (base := base) (C := (cs3 e0 e1 e0)) D_law_whole z_isinstance z_bool z_int
  have c_law_sum_is := ok_law_sum_is (P := P) (w := w) (base := base) (C := (cs3 e0 e1 e0)) D_law_sum_is c_law_whole z_isinstance z_tuple z_len z_str
  have c_law_plain_is := ok_law_plain_is (P := P) (w := w) (base := base) (C := (cs3 e0 e1 e0)) D_law_plain_is c_law_sum_is c_law_whole z_isinstance z_str z_len z_tuple 60
  have c_replaced := ok_replaced (P := P) (w := w) (base := base) (C := (cs3 e0 e1 e0)) D_replaced c_put_in z_tuple 60
  have c_put := ok_put (P := P) (w := w) (base := base) (C := (cs3 e0 e1 e0)) D_put c_need_plain c_replaced
  have c_tries_of := ok_tries_of (P := P) (w := w) (base := base) (C := (cs3 e0 e1 e0)) D_tries_of c_bounds_of z_min z_range
  have c_told := ok_told (P := P) (w := w) (base := base) (C := (cs3 e0 e1 e0)) D_told c_unknowns c_need_values c_left c_put c_prepared c_tries_of c_truth
  have c_law_value := ok_law_value (P := P) (w := w) (base := base) (C := (cs3 e0 e1 e0)) D_law_value
  have c_law_true := ok_law_true (P := P) (w := w) (base := base) (C := (cs3 e0 e1 e0)) D_law_true c_law_value 60
  exact body_law c_law_cell_at c_law_names_by c_law_big_by c_law_kind c_holds c_law_same c_left c_is_true c_law_plain_is c_told c_law_whole c_law_true
end Pf
open PySem PySem.W PyProof.Rows
set_option maxRecDepth 100000 in
set_option maxHeartbeats 0 in
theorem PySem.Challenge.cw_somenumber_k09_far_numbers_holds : PySem.Challenge.rw_somenumber_k09_far_numbers.Holds := by
  w_on; o_law; k_head; (case hw => w_witness2)
  k_fill
  refine Pf.walk_law (l := PySem.Challenge.rw_somenumber_k09_far_numbers) (k := 185) (m := fun w => Pf.m_law w) (y := "_law_script") rfl rfl ⟨rfl, by decide, by decide⟩ (fun w h Y => PySem.W.kIn_of Y) (fun w => Pf.plain_law w) ?F
  case F =>
    intro w mg fa h KX G hmg
    refine' Pf.all_mk KX G hmg ?a_law_cell_at ?l_law_cell_at ?c_law_cell_at ?k_law_cell_at ?a_law_names_by ?l_law_names_by ?c_law_names_by ?k_law_names_by ?a_law_big_by ?l_law_big_by ?c_law_big_by ?k_law_big_by ?a_law_sum ?l_law_sum ?c_law_sum ?k_law_sum ?a_law_kind ?l_law_kind ?c_law_kind ?k_law_kind ?a_free_in ?l_free_in ?c_free_in ?k_free_in ?a_unknowns ?l_unknowns ?c_unknowns ?k_unknowns ?a_need_values ?l_need_values ?c_need_values ?k_need_values ?a_is_plain ?l_is_plain ?c_is_plain ?k_is_plain ?a_need_plain ?l_need_plain ?c_need_plain ?k_need_plain ?a_made ?l_made ?c_made ?k_made ?a_times ?l_times ?c_times ?k_times ?a_added ?l_added ?c_added ?k_added ?a_turned ?l_turned ?c_turned ?k_turned ?a_ends_of ?l_ends_of ?c_ends_of ?k_ends_of ?a_share ?l_share ?c_share ?k_share ?a_least_times ?l_least_times ?c_least_times ?k_least_times ?a_without ?l_without ?c_without ?k_without ?a_end_stretched ?l_end_stretched ?c_end_stretched ?k_end_stretched ?a_stretched ?l_stretched ?c_stretched ?k_stretched ?a_prepared ?l_prepared ?c_prepared ?k_prepared ?a_parts_of ?l_parts_of ?c_parts_of ?k_parts_of ?a_all_of ?l_all_of ?c_all_of ?k_all_of ?a_one_of ?l_one_of ?c_one_of ?k_one_of ?a_far_below ?l_far_below ?c_far_below ?k_far_below ?a_put_in ?l_put_in ?c_put_in ?k_put_in ?a_value ?l_value ?c_value ?k_value ?a_truth ?l_truth ?c_truth ?k_truth ?a_decided ?l_decided ?c_decided ?k_decided ?a_filled ?l_filled ?c_filled ?k_filled ?a_bounds_of ?l_bounds_of ?c_bounds_of ?k_bounds_of ?a_taken ?l_taken ?c_taken ?k_taken ?a_left ?l_left ?c_left ?k_left ?a_is_true ?l_is_true ?c_is_true ?k_is_true ?a_holds ?l_holds ?c_holds ?k_holds ?a_law_same ?l_law_same ?c_law_same ?k_law_same ?a_law_whole ?l_law_whole ?c_law_whole ?k_law_whole ?a_law_sum_is ?l_law_sum_is ?c_law_sum_is ?k_law_sum_is ?a_law_plain_is ?l_law_plain_is ?c_law_plain_is ?k_law_plain_is ?a_replaced ?l_replaced ?c_replaced ?k_replaced ?a_put ?l_put ?c_put ?k_put ?a_tries_of ?l_tries_of ?c_tries_of ?k_tries_of ?a_told ?l_told ?c_told ?k_told ?a_law_value ?l_law_value ?c_law_value ?k_law_value ?a_law_true ?l_law_true ?c_law_true ?k_law_true ?a_law ?l_law ?c_law ?k_law ?n_len ?n_range ?n_tuple ?n_sorted ?n_set ?n_list ?n_abs ?n_isinstance ?n_bool ?n_int ?n_str ?n_min ?g1_NO ?g2_NO ?g3_NO ?g1_YES ?g2_YES ?g3_YES ?xn0 ?xq0 ?xk0 ?xs0 ?xt0 ?xn1 ?xq1 ?xk1 ?xs1 ?xt1
    (case a_law_cell_at => k_is)
    (case l_law_cell_at => k_is)
    (case c_law_cell_at => k_is)
    (case k_law_cell_at => k_is)
    (case a_law_names_by => k_is)
    (case l_law_names_by => k_is)
    (case c_law_names_by => k_is)
    (case k_law_names_by => k_is)
    (case a_law_big_by => k_is)
    (case l_law_big_by => k_is)
    (case c_law_big_by => k_is)
    (case k_law_big_by => k_is)
    (case a_law_sum => k_is)
    (case l_law_sum => k_is)
    (case c_law_sum => k_is)
    (case k_law_sum => k_is)
    (case a_law_kind => k_is)
    (case l_law_kind => k_is)
    (case c_law_kind => k_is)
    (case k_law_kind => k_is)
    (case a_free_in => k_is)
    (case l_free_in => k_is)
    (case c_free_in => k_is)
    (case k_free_in => k_is)
    (case a_unknowns => k_is)
    (case l_unknowns => k_is)
    (case c_unknowns => k_is)
    (case k_unknowns => k_is)
    (case a_need_values => k_is)
    (case l_need_values => k_is)
    (case c_need_values => k_is)
    (case k_need_values => k_is)
    (case a_is_plain => k_is)
    (case l_is_plain => k_is)
    (case c_is_plain => k_is)
    (case k_is_plain => k_is)
    (case a_need_plain => k_is)
    (case l_need_plain => k_is)
    (case c_need_plain => k_is)
    (case k_need_plain => k_is)
    (case a_made => k_is)
    (case l_made => k_is)
    (case c_made => k_is)
    (case k_made => k_is)
    (case a_times => k_is)
    (case l_times => k_is)
    (case c_times => k_is)
    (case k_times => k_is)
    (case a_added => k_is)
    (case l_added => k_is)
    (case c_added => k_is)
    (case k_added => k_is)
    (case a_turned => k_is)
    (case l_turned => k_is)
    (case c_turned => k_is)
    (case k_turned => k_is)
    (case a_ends_of => k_is)
    (case l_ends_of => k_is)
    (case c_ends_of => k_is)
    (case k_ends_of => k_is)
    (case a_share => k_is)
    (case l_share => k_is)
    (case c_share => k_is)
    (case k_share => k_is)
    (case a_least_times => k_is)
    (case l_least_times => k_is)
    (case c_least_times => k_is)
    (case k_least_times => k_is)
    (case a_without => k_is)
    (case l_without => k_is)
    (case c_without => k_is)
    (case k_without => k_is)
    (case a_end_stretched => k_is)
    (case l_end_stretched => k_is)
    (case c_end_stretched => k_is)
    (case k_end_stretched => k_is)
    (case a_stretched => k_is)
    (case l_stretched => k_is)
    (case c_stretched => k_is)
    (case k_stretched => k_is)
    (case a_prepared => k_is)
    (case l_prepared => k_is)
    (case c_prepared => k_is)
    (case k_prepared => k_is)
    (case a_parts_of => k_is)
    (case l_parts_of => k_is)
    (case c_parts_of => k_is)
    (case k_parts_of => k_is)
    (case a_all_of => k_is)
    (case l_all_of => k_is)
    (case c_all_of => k_is)
    (case k_all_of => k_is)
    (case a_one_of => k_is)
    (case l_one_of => k_is)
    (case c_one_of => k_is)
    (case k_one_of => k_is)
    (case a_far_below => k_is)
    (case l_far_below => k_is)
    (case c_far_below => k_is)
    (case k_far_below => k_is)
    (case a_put_in => k_is)
    (case l_put_in => k_is)
    (case c_put_in => k_is)
    (case k_put_in => k_is)
    (case a_value => k_is)
    (case l_value => k_is)
    (case c_value => k_is)
    (case k_value => k_is)
    (case a_truth => k_is)
    (case l_truth => k_is)
    (case c_truth => k_is)
    (case k_truth => k_is)
    (case a_decided => k_is)
    (case l_decided => k_is)
    (case c_decided => k_is)
    (case k_decided => k_is)
    (case a_filled => k_is)
    (case l_filled => k_is)
    (case c_filled => k_is)
    (case k_filled => k_is)
    (case a_bounds_of => k_is)
    (case l_bounds_of => k_is)
    (case c_bounds_of => k_is)
    (case k_bounds_of => k_is)
    (case a_taken => k_is)
    (case l_taken => k_is)
    (case c_taken => k_is)
    (case k_taken => k_is)
    (case a_left => k_is)
    (case l_left => k_is)
    (case c_left => k_is)
    (case k_left => k_is)
    (case a_is_true => k_is)
    (case l_is_true => k_is)
    (case c_is_true => k_is)
    (case k_is_true => k_is)
    (case a_holds => k_is)
    (case l_holds => k_is)
    (case c_holds => k_is)
    (case k_holds => k_is)
    (case a_law_same => k_is)
    (case l_law_same => k_is)
    (case c_law_same => k_is)
    (case k_law_same => k_is)
    (case a_law_whole => k_is)
    (case l_law_whole => k_is)
    (case c_law_whole => k_is)
    (case k_law_whole => k_is)
    (case a_law_sum_is => k_is)
    (case l_law_sum_is => k_is)
    (case c_law_sum_is => k_is)
    (case k_law_sum_is => k_is)
    (case a_law_plain_is => k_is)
    (case l_law_plain_is => k_is)
    (case c_law_plain_is => k_is)
    (case k_law_plain_is => k_is)
    (case a_replaced => k_is)
    (case l_replaced => k_is)
    (case c_replaced => k_is)
    (case k_replaced => k_is)
    (case a_put => k_is)
    (case l_put => k_is)
    (case c_put => k_is)
    (case k_put => k_is)
    (case a_tries_of => k_is)
    (case l_tries_of => k_is)
    (case c_tries_of => k_is)
    (case k_tries_of => k_is)
    (case a_told => k_is)
    (case l_told => k_is)
    (case c_told => k_is)
    (case k_told => k_is)
    (case a_law_value => k_is)
    (case l_law_value => k_is)
    (case c_law_value => k_is)
    (case k_law_value => k_is)
    (case a_law_true => k_is)
    (case l_law_true => k_is)
    (case c_law_true => k_is)
    (case k_law_true => k_is)
    (case a_law => k_is)
    (case l_law => k_is)
    (case c_law => k_is)
    (case k_law => k_is)
    (case n_len => k_is)
    (case n_range => k_is)
    (case n_tuple => k_is)
    (case n_sorted => k_is)
    (case n_set => k_is)
    (case n_list => k_is)
    (case n_abs => k_is)
    (case n_isinstance => k_is)
    (case n_bool => k_is)
    (case n_int => k_is)
    (case n_str => k_is)
    (case n_min => k_is)
    (case g1_NO => k_is)
    (case g2_NO => k_is)
    (case g3_NO => k_is)
    (case g1_YES => k_is)
    (case g2_YES => k_is)
    (case g3_YES => k_is)
    (case xn0 => k_is)
    (case xq0 => k_exc)
    (case xk0 => k_is)
    (case xs0 => k_is)
    (case xt0 => k_is)
    (case xn1 => k_is)
    (case xq1 => k_exc)
    (case xk1 => k_is)
    (case xs1 => k_is)
    (case xt1 => k_is)

